-- Written by wip/pack.py, a program of mine: the texts that this law stands on, as far as it uses them; Lean checks it.
import Derived.Test.YtcfgjaggccnoaaaDoorProg
import Derived.Shelf.LaysM
import Derived.Shelf.Strconv.Itoa3
import Derived.Below
import Derived.Deep.Draws
import Derived.Deep.AppendLies
import Derived.Maps.AppendAt
import Derived.OwnWalk
import Derived.Laws.BytesArg
import Derived.Laws.MakeOwn
import Derived.Laws.OwnMore
import Derived.Deep.OwnRows
import Derived.Tactics
import Derived.Lib.ConvBytes
import Derived.Laws.Slices
import Derived.WalkKit
import Derived.KernelRfl
import Derived.RowKit3
import Derived.Deep.LoopGhost
import Derived.Deep.QuietTactic
import Derived.BigQuiet
import Derived.WideLaws
import Derived.Deep.DeepCutAuto
import Derived.Deep.CutBlock
import Derived.Deep.RegionHeld3
import Derived.Laws.Rows
import Derived.Lib.AppendStr
import Derived.ArgAppend
import Derived.Laws.IdiomCopy
import Derived.RowKit
import Derived.OrdersHeld
import Derived.Laws.BitsLemmas
import Derived.Laws.StructEq
import Derived.Lib.BitFns
import Derived.Lib.ItoaMem
import Derived.Lib.LaidTab
import Derived.Lib.Slices
import Derived.Lib.Small
import Derived.Lib.SmallJoins
import Derived.Lib.Strings
import Derived.Lib.Walk
import Derived.Laws.Cover1
import Derived.Lib.SliceRun
import Derived.StillTailTactics
import Derived.LoopTactic
import Derived.RangeFuncNested
import Derived.RangeFuncBound
import Derived.RangeFuncCalls
import Derived.RangeFuncLeaves
import Derived.OwnWalkIn
import Derived.TacticsInMore
import Derived.LoopNIn
import Derived.LoopIn
import Derived.OrdersIn
import Derived.Lib.ItoaNum
import Derived.Lib.ItoaLen
import Derived.ChangeSlices
import Derived.ChangeOld
import Derived.SizedLaws
import Derived.ProofKit
import Derived.OpenShut
import Derived.Carry
import Derived.Test.YtcfgjaggccnoaaaDoorZTableSteps3
namespace Go.Proofs.YtcfgjaggccnoaaaDoor.PTableSteps
open Go.RowKit Go.Proofs.YtcfgjaggccnoaaaDoorW.PrintWords Go.Proofs.YtcfgjaggccnoaaaDoorW.PrintLast Go.Proofs.YtcfgjaggccnoaaaDoorW.PrintMore
attribute [local go_sem] max2_int min2_int max_two min_two max_three min_three max_four min_four
set_option linter.unusedVariables false
set_option linter.unusedSimpArgs false
set_option maxRecDepth 100000
set_option maxHeartbeats 4000000
attribute [local go_sem] Oper.semAt_some
theorem keys_any {w : World} {base gT gB : Nat} {S D : Nat → Prop} {T : Tb} {v : Nat → Value} (h : TB w base S D gT T gB v) (l3 : (T.ch T.n).length ≤ 1000000) (l4 : ∀ p, p ∈ T.ch T.n → p.f0.length ≤ 1000 ∧ p.f1.length ≤ 1000) {kk : Nat} {pr : List S23 → Bool} (hm : ∀ p : List S23, p.length ≤ 1000 → sift_Whole.f kk p = some (pr p)) :
    Calls Tryd.prog 33 #[.pointer (some ⟨gT, 0, none⟩)] w (KeyD w (((T.ch T.n).filter fun p => pr p.f0).map (·.f0))) := by
  obtain ⟨A1, c1, ev⟩ := h.sl T.n (Nat.le_refl _)
  have hN := Kd.N_mono (ok' := fun k => k < w.heap.size) (Kd.N_bound (h.ch T.n (Nat.le_refl _))) fun k hk => hk.2
  rw [ev] at hN
  obtain ⟨es, g', hes, hrw⟩ := chain_es hN l4
  have hel : es.length = (T.ch T.n).length := by have := congrArg List.length hes; rwa [List.length_map] at this
  have hg := h.tb
  unfold tcells at hg
  rw [ev, ← hel] at hg
  obtain ⟨w2, hw2⟩ : ∃ w2, w2 = w.alloc (.cells #[.slice none 0 0] 26) := ⟨_, rfl⟩
  have bb2 : Below w.heap.size w w2 := by rw [hw2]; exact below_alloc (Below.refl _ _) _
  have z2 : w2.heap.size = w.heap.size + 1 := by rw [hw2, World.size_alloc]
  have k2 : w2.heap[w.heap.size]? = some (.cells #[.slice none 0 0] 26 (0, 0)) := by rw [hw2]; exact blk_new w _
  obtain ⟨a0, a1, a2, a3, f0, f1, f2, f3⟩ := bw4_ (blk_below hg bb2)
  have HB := Lib.hid bb2; have HK2 := Lib.hid k2; have HG := Lib.hid hg
  have HL := Lib.hid (And.intro (show es.length ≤ 1000000 by rw [hel]; exact l3) hel); have HM := Lib.hid hm; have HRW := Lib.hid hrw; have HES := Lib.hid hes; have HZ2 := Lib.hid z2
  clear h l3 l4 hm ev hN hrw hel hg bb2 k2 hes z2
  refine (callsIn_wide (n := 3)).1 ?_
  refine callsIn_of_wp_marks Tryd.func33 rfl trivial ?_ rfl
  simp only [Tryd.ntmps33, List.size_toArray, List.length_cons, List.length_nil, Nat.reduceAdd, Nat.reduceSub, Array.replicate_succ, Array.replicate_zero, List.push_toArray, List.append_toArray, List.nil_append, List.cons_append]
  rw [hw2] at a0 a1 a2 a3 f0 f1 f2 f3
  gi_wp2_with (refine ⟨trivial, ?_⟩; gi_at_call 74; (try rw [← hw2]); refine (callsIn_wide.2 (all_any w2 gT 2 75 #[])).mono ?_; rintro r' W0 ⟨b1, b2, rfl, q1, q2, b4⟩; have B4 := Lib.hid b4; have Q1 := Lib.hid q1; have Q2 := Lib.hid q2; clear b4 q1 q2)
  have bW : Below w2.heap.size w2 W0 := B4.out
  have bW0 : Below w.heap.size w W0 := below_step HB.out bW
  have hz2 := HZ2.out
  have hzW : w.heap.size + 1 ≤ W0.heap.size := by have := bW.size; omega
  have kk2 := Lib.hid (blk_below HK2.out bW)
  have HZ : Hid (w.heap.size ≤ W0.heap.size ∧ w.heap.size < W0.heap.size) := Lib.hid ⟨by omega, by omega⟩
  have H0 : Hid (Res W0.heap.size w.heap.size [] W0) := Lib.hid ⟨_, kk2.out, Kd.R_nil _ _ _ _ _⟩
  have HB0 := Lib.hid bW0
  have qh1 : Hid (∀ j x, es[j]? = some x → A1 = some ⟨g', 0, none⟩ ∧ (g' < W0.heap.size ∧ g' ≠ w.heap.size) ∧ W0.cell? ⟨g', j * 2, none⟩ = some (.slice x.A0 x.e.f0.length x.c0) ∧ W0.cell? ⟨g', j * 2 + 1, none⟩ = some (.slice x.A1 x.e.f1.length x.c1)) := Lib.hid fun j x hx => by
    obtain ⟨h1, h2, h3, h4⟩ := HRW.out j x hx
    have h5 := h2.2
    exact ⟨h1, ⟨by omega, by omega⟩, (bW0.cell (p := ⟨g', j * 2, none⟩) h5).trans h3, (bW0.cell (p := ⟨g', j * 2 + 1, none⟩) h5).trans h4⟩
  have qh2 : Hid (∀ (x : Ent w fun k => k < w.heap.size) (W1 : World), KpG (fun k => k < W0.heap.size ∧ k ≠ w.heap.size) W0 W1 → Calls Tryd.prog 75 (#[x.val] ++ #[]) W1 fun e W2 => e = .returned (.bool (pr x.e.f0)) ∧ Below W1.heap.size W1 W2) := Lib.hid fun x W1 hk => by
    have hb : Below w.heap.size w W1 := bW0.trans (hk.below fun k hk => ⟨by omega, by omega⟩)
    have r := Ent.reads (fun k hk => hk) x hb
    rw [show #[x.val] ++ (#[] : Array Value) = #[x.val] by simp]
    exact kys1_any r.1.1 r.1.2 (HM.out x.e.f0 x.b0)
  have g2 : b2 < W0.heap.size ∧ b2 ≠ w.heap.size := ⟨blk_lt Q2.out, fun e => by have h1 := Q2.out; rw [e, kk2.out] at h1; cases h1⟩
  have hcs := blk_below HG.out bW0
  have hz3 : w.heap.size ≤ w.heap.size := Nat.le_refl _

  refine wpIn_rangeFunc_ownH rfl (by decide) (gf := 116) (lb := #[.pointer (some ⟨b1, 0, none⟩), .pointer (some ⟨b2, 0, none⟩)]) rfl trivial (enters_of Tryd.func116 (by kernel_rfl) rfl)
    (all_stops (w := w) (D := fun k => k < w.heap.size) (G := fun k => k < W0.heap.size ∧ k ≠ w.heap.size) 2 b1 b2 gT 2 102 g' (by decide) 75 #[] (enters_of Tryd.func75 (by kernel_rfl) rfl) (fun x => pr x.e.f0) es HL.out.1 (fun k hk => hk.1) Q1.out Q2.out g2 hcs rfl qh1.out qh2.out) KpG.trans (kpg_b (by intro k hk; exact hk.1)) (Below.refl _ _) (fun _ => rfl)
    (InvR w W0 w.heap.size fun x => x.e.f0) (fun _ _ _ => False)
    (InvR.own HZ.out.1)
    (fun _ _ _ _ _ hs _ _ => hs) ⟨⟨H0.out, Nat.le_refl _⟩, HB0.out⟩
    (fun x a' W => ∃ (bx : Nat) (u0 u1 u2 u5 u6 u7 u8 u9 u10 u11 u12 u13 u14 u15 u16 u17 u18 : Value), W.heap[bx]? = some (.cells #[.slice x.A0 x.e.f0.length x.c0, .slice x.A1 x.e.f1.length x.c1] 116 (0, 0)) ∧ a' = { tmps := #[u0, u1, u2, .pointer (some ⟨w.heap.size, 0, none⟩), .pointer (some ⟨bx, 0, none⟩), u5, u6, u7, u8, u9, u10, u11, u12, u13, u14, u15, u16, u17, u18], defers := [] })
    (fun x a' _ X Y row hs hg hr => by
      obtain ⟨bx, u0, u1, u2, u5, u6, u7, u8, u9, u10, u11, u12, u13, u14, u15, u16, u17, u18, h1, h2⟩ := hs
      refine ⟨bx, _, _, _, _, _, _, _, _, _, _, _, _, _, _, _, _, _, (hg.block bx (blk_lt h1) fun e => ?_).trans h1, h2⟩
      obtain ⟨_, o, ho, hc⟩ := hr bx e.symm
      rw [h1] at ho
      cases ho
      cases hc)
    ?assign ?body ?done ?stop
  case assign =>
    rintro l pre x W K ⟨⟨hRs, hS⟩, hB⟩ hK
    have hb := blk_new W (.cells #[.slice x.A0 x.e.f0.length x.c0, .slice x.A1 x.e.f1.length x.c1] 116)
    have hbl : Below W.heap.size W (W.alloc (.cells #[.slice x.A0 x.e.f0.length x.c0, .slice x.A1 x.e.f1.length x.c1] 116)) := below_alloc (Below.refl _ _) _
    have q1 := Lib.hid (hRs.below hbl); have q2 := Lib.hid (below_step hB hbl); have q3 := Lib.hid hb
    have q4 := Lib.hid hbl; have HK := Lib.hid hK; have q5 := Lib.hid hS
    clear hRs hB hb hbl hK hS
    simp only [Ent.val]
    gi_wp2
    exact HK.out _ _ ((KeepsOthers.alloc _ _).from _) (KpG.of_below q4.out fun k hk => Nat.lt_of_lt_of_le hk.1 q5.out) ⟨⟨q1.out, Nat.le_trans q5.out q4.out.size⟩, q2.out⟩ ⟨_, _, _, _, _, _, _, _, _, _, _, _, _, _, _, _, _, _, q3.out, rfl⟩
  case body =>
    rintro l pre x a' W hl ⟨r, hr⟩ ⟨⟨hRs, hS⟩, hB⟩ ⟨bx, u0, u1, u2, u5, u6, u7, u8, u9, u10, u11, u12, u13, u14, u15, u16, u17, u18, hx, rfl⟩ hlt
    refine body33_ (w := w) (D := fun k => k < w.heap.size) (bl := w.heap.size) (n1 := W0.heap.size) (rows := pre.map (·.e.f0)) (fun k hk => hk) hRs hB hx HZ.out.2 hS (by rw [List.length_map]; have := HL.out.1; omega) x.b0 ?_ ?_ ?_
    · rintro ⟨a, w', h⟩; exact h
    · intro c a w h; exact h
    · intro a W' hq
      exact ⟨hq.2.2.2, hq.2.2.1, ⟨by rw [List.map_append]; exact hq.1, Nat.le_trans hS hq.2.2.1.1.size⟩, hB.trans (hq.2.1.mono hz3)⟩
  case done =>
    rintro D xs W hD rfl ⟨⟨hRs, hS⟩, hB⟩ hK
    obtain ⟨v1, hv, hR⟩ := hRs
    obtain ⟨C0, e0', hv1⟩ := Kd.R_slice hR
    subst hv1
    obtain ⟨m0, n0⟩ := bw1_ hv
    have HRR := Lib.hid (And.intro hv hR); have HBW := Lib.hid hB; have HSS := Lib.hid hS
    clear hv hR hB hS
    gi_wp2
    refine ⟨by simp, .inl ⟨_, _, rfl, run_takeDeferred hK, ?_⟩⟩
    have hR2 : Kd.R (Kd.slice 23 k23) 24 (W.putObj D (.deferred none)) W0.heap.size (fun _ => True) _ _ := Kd.R_mono (Kd.R_step (Kd.R_bound HRR.out.2) fun k hk _ => World.putObj_heap_other fun e => by
      obtain ⟨_, _, _, q, _, cs, hc⟩ := hk
      rw [e, hK] at hc
      cases hc) fun _ _ => trivial
    have er : (es.filter fun x => pr x.e.f0).map (·.e.f0) = ((T.ch T.n).filter fun p => pr p.f0).map (·.f0) := by
      rw [← HES.out, List.filter_map, List.map_map]
      rfl
    refine ⟨_, results_tmp rfl _ _ _, _, rfl, ?_, HBW.out.trans (belowK_b (w := W0) HZ.out.1 W D _ _ hD hK rfl rfl)⟩
    rw [er] at hR2
    have hR3 := Kd.R_lower hR2 HZ.out.1
    simpa [← er] using hR3
  case stop =>
    rintro D c pre W _ _ h _
    exact h.elim
end Go.Proofs.YtcfgjaggccnoaaaDoor.PTableSteps
namespace Go.Proofs.YtcfgjaggccnoaaaDoor.PTableSteps
open Go.RowKit Go.Proofs.YtcfgjaggccnoaaaDoorW.PrintWords Go.Proofs.YtcfgjaggccnoaaaDoorW.PrintLast Go.Proofs.YtcfgjaggccnoaaaDoorW.PrintMore
attribute [local go_sem] max2_int min2_int max_two min_two max_three min_three max_four min_four
set_option linter.unusedVariables false
set_option linter.unusedSimpArgs false
set_option maxRecDepth 100000
set_option maxHeartbeats 4000000
section
variable {w : World} {base gT gB : Nat} {S D : Nat → Prop} {T : Tb} {v : Nat → Value}
theorem put_sealed (h : TB w base S D gT T gB v) (hs : T.sl = true) (A A' : Option Addr) (n n' c c' : Nat) : Calls Tryd.prog 39 #[.pointer (some ⟨gT, 0, none⟩), .slice A n c, .slice A' n' c'] w fun r w' => r = .returned (.int .i64 10) ∧ w' = w := by
  have hg := h.tb
  clear h
  unfold tcells at hg
  rw [hs] at hg
  clear hs
  obtain ⟨c0, c1, c2, c3, f0, f1, f2, f3⟩ := bw4_ hg
  clear hg
  go_enter Tryd.func39, Tryd.ntmps39
  go_wp2
  go_ret
  exact ⟨rfl, rfl⟩
theorem find_no (h : TB w base S D gT T gB v) (hs : T.sl = false) (A : Option Addr) (n c : Nat) : Calls Tryd.prog 37 #[.pointer (some ⟨gT, 0, none⟩), .slice A n c] w fun r w' => r = .returned (.tuple #[.slice none 0 0, .int .i64 10]) ∧ Below w.heap.size w w' := by
  have hg := h.tb
  clear h
  unfold tcells at hg
  rw [hs] at hg
  clear hs
  have bb : Below w.heap.size w (w.alloc (.cells #[.slice A n c] 24)) := below_alloc (Below.refl _ _) _
  obtain ⟨c0, c1, c2, c3, f0, f1, f2, f3⟩ := bw4_ (blk_below hg bb)
  have HB := Lib.hid bb
  clear hg bb
  go_enter Tryd.func37, Tryd.ntmps37
  go_wp2
  go_ret2
  exact ⟨rfl, HB.out⟩
end
end Go.Proofs.YtcfgjaggccnoaaaDoor.PTableSteps
namespace Go.Proofs.YtcfgjaggccnoaaaDoor.PTableSteps
open Go.RowKit Go.Proofs.YtcfgjaggccnoaaaDoorW.PrintWords Go.Proofs.YtcfgjaggccnoaaaDoorW.PrintLast Go.Proofs.YtcfgjaggccnoaaaDoorW.PrintMore
attribute [local go_sem] max2_int min2_int max_two min_two max_three min_three max_four min_four
set_option linter.unusedVariables false
set_option linter.unusedSimpArgs false
set_option maxRecDepth 100000
set_option maxHeartbeats 4000000
theorem bs {α β : Type} (a : α) (f : α → Option β) : (some a).bind f = f a := (Option.bind_some a f).trans (Eq.refl _)
theorem u64_wrap (n : Int) : IntKind.u64.wrap n = n % 18446744073709551616 := by
  simp [IntKind.wrap, IntKind.bits, IntKind.signed]
theorem u64_range (n : Int) : 0 ≤ IntKind.u64.wrap n ∧ IntKind.u64.wrap n < 18446744073709551616 := by
  rw [u64_wrap]; omega
theorem u64_in {n : Int} (h0 : 0 ≤ n) (h1 : n < 18446744073709551616) : IntKind.u64.wrap n = n := by
  rw [u64_wrap]; omega
theorem w64 {n : Int} (h0 : -9223372036854775808 ≤ n) (h1 : n < 9223372036854775808) : wrap64 n = n := by
  unfold wrap64; omega
theorem bits_u64 (op : BinOp) (x y : Int) : 0 ≤ Go.bits op .u64 x y ∧ Go.bits op .u64 x y < 18446744073709551616 := by
  unfold Go.bits
  exact u64_range _
theorem div_same (x : Int) (n : Int) (h0 : 0 ≤ x) (h1 : x < 18446744073709551616) (hn : 1 ≤ n) : IntKind.u64.wrap (Int.tdiv x n) = x / n := by
  rw [Int.tdiv_eq_ediv_of_nonneg h0]
  have a : 0 ≤ x / n := Int.ediv_nonneg h0 (by omega)
  have b : x / n ≤ x := Int.ediv_le_self _ h0
  exact u64_in a (by omega)
theorem mix_same (a : Int) (h0 : 0 ≤ a) (h1 : a < 18446744073709551616) : r17_Mix.f a = hash_Mix.f a := by
  unfold r17_Mix.f hash_Mix.f
  rw [div_same a _ h0 h1 (by decide)]
  rw [div_same _ 536870912 (u64_range _).1 (u64_range _).2 (by decide)]
  rw [div_same _ 4294967296 (u64_range _).1 (u64_range _).2 (by decide)]
theorem mix_some (a : Int) : ∃ r, hash_Mix.f a = some r ∧ 0 ≤ r ∧ r < 18446744073709551616 :=
  ⟨_, rfl, (bits_u64 _ _ _).1, (bits_u64 _ _ _).2⟩
theorem start_is (seed : Int) : hash_Start.f seed = hash_Mix.f (IntKind.u64.wrap ((IntKind.u64.wrap (seed)) + 2685821657736338717)) := by
  unfold hash_Start.f
  generalize hash_Mix.f (IntKind.u64.wrap ((IntKind.u64.wrap (seed)) + 2685821657736338717)) = o
  cases o <;> rfl
theorem byte_some (h b : Int) : ∃ r, hash_Byte.f h b = some r ∧ 0 ≤ r ∧ r < 18446744073709551616 :=
  ⟨_, rfl, (u64_range _).1, (u64_range _).2⟩
theorem xor_top (n : Nat) (h : n < 18446744073709551616) : n ^^^ 9223372036854775808 = (n + 9223372036854775808) % 18446744073709551616 := by
  rw [show (9223372036854775808 : Nat) = 2 ^ 63 from rfl, show (18446744073709551616 : Nat) = 2 ^ 64 from rfl, Nat.add_comm] at *
  apply Nat.eq_of_testBit_eq
  intro i
  rw [Nat.testBit_xor, Nat.testBit_mod_two_pow]
  rcases Nat.lt_trichotomy i 63 with c | c | c
  · rw [Nat.testBit_two_pow_add_gt c, Nat.testBit_two_pow_of_ne (by omega)]
    simp
    omega
  · subst c
    rw [Nat.testBit_two_pow_add_eq, Nat.testBit_two_pow_self]
    simp
  · rw [Nat.testBit_two_pow_of_ne (by omega), Nat.testBit_lt_two_pow (Nat.lt_of_lt_of_le h (Nat.pow_le_pow_right (by decide) (by omega)))]
    simp
    intro h64
    omega
theorem bits_top (u : Int) (h0 : 0 ≤ u) (h1 : u < 18446744073709551616) : Go.bits .xor .u64 u 9223372036854775808 = IntKind.u64.wrap (u + 9223372036854775808) := by
  obtain ⟨n, rfl⟩ := Int.eq_ofNat_of_zero_le h0
  have e := xor_top n (by omega)
  have hn : n % 2 ^ IntKind.u64.bits = n := Nat.mod_eq_of_lt (by show n < 18446744073709551616; omega)
  have e2 : (9223372036854775808 : Int) = ((9223372036854775808 : Nat) : Int) := rfl
  rw [e2]
  simp only [Go.bits, BitVec.ofInt_natCast, BitVec.toNat_xor, BitVec.toNat_ofNat, hn]
  rw [show (9223372036854775808 : Nat) % 2 ^ IntKind.u64.bits = 9223372036854775808 from rfl, e, u64_wrap, u64_wrap]
  omega
theorem shr_is (x : Int) (m : Nat) (h : m ≤ 64) : shr .u64 x (m : Int) = x / 2 ^ m := by
  unfold shr
  rw [Int.toNat_natCast, show min m IntKind.u64.bits = m from Nat.min_eq_left h]
theorem strOf_append (a b : List Int) : strOfNums (a ++ b) = strOfNums a ++ strOfNums b := by
  apply ByteArray.ext
  apply Array.ext'
  rw [ByteArray.data_append, Array.toList_append, strOfNums_data, strOfNums_data, strOfNums_data, List.map_append]
def bytes8 (x : Int) : List Int := [x / 72057594037927936 % 256, x / 281474976710656 % 256, x / 1099511627776 % 256, x / 4294967296 % 256, x / 16777216 % 256, x / 65536 % 256, x / 256 % 256, x % 256]
def vkey (a b : Int) (s : ByteArray) : ByteArray := if a = 0 then (⟨#[110]⟩ : ByteArray) else if a = 1 then (⟨#[105]⟩ : ByteArray) ++ strOfNums (bytes8 (IntKind.u64.wrap (b + 9223372036854775808))) else if a = 2 then (⟨#[116]⟩ : ByteArray) ++ s else (⟨#[]⟩ : ByteArray)
theorem key_step (x : Int) (k : Nat) (l : List Int) (i : Nat) (hi : i < 8) (hl : l.length ≤ 9) : val_Key.l0 (k + 1) x l (i : Int) = val_Key.l0 k x (l ++ [x / 2 ^ (56 - 8 * i) % 256]) ((i + 1 : Nat) : Int) := by
  simp only [val_Key.l0]
  have e : wrap64 (56 - wrap64 (8 * (i : Int))) = ((56 - 8 * i : Nat) : Int) := by rw [w64 (n := 8 * (i : Int)) (by omega) (by omega), w64 (by omega) (by omega)]; omega
  rw [if_pos (by omega), e, if_pos (by omega), if_pos (by omega), w64 (n := (i : Int) + 1) (by omega) (by omega), shr_is _ _ (by omega)]
  rfl
theorem key_end (x : Int) (k : Nat) (l : List Int) : val_Key.l0 (k + 1) x l ((8 : Nat) : Int) = some (strOfNums l) := by
  simp only [val_Key.l0]
  rw [if_neg (by omega)]
theorem val_key_is (a b : Int) (s : ByteArray) (hs : s.size ≤ 140737488351232) (k : Nat) (hk : 9 ≤ k) : val_Key.f k a b s = some (vkey a b s) := by
  unfold val_Key.f vkey
  by_cases c0 : a = 0
  · rw [if_pos c0, if_pos c0]
  · rw [if_neg c0, if_neg c0]
    by_cases c1 : a = 1
    · rw [if_pos c1, if_pos c1]
      have hb := u64_range b
      have e : Go.bits .xor .u64 (IntKind.u64.wrap b) 9223372036854775808 = IntKind.u64.wrap (b + 9223372036854775808) := by
        rw [bits_top _ hb.1 hb.2, u64_wrap, u64_wrap, u64_wrap]; omega
      rw [e]
      generalize IntKind.u64.wrap (b + 9223372036854775808) = x
      obtain ⟨k, rfl⟩ : ∃ m, k = m + 9 := ⟨k - 9, by omega⟩
      rw [show (0 : Int) = ((0 : Nat) : Int) from rfl]
      rw [key_step x (k + 8) _ 0 (by omega) (by decide), key_step x (k + 7) _ 1 (by omega) (by simp), key_step x (k + 6) _ 2 (by omega) (by simp), key_step x (k + 5) _ 3 (by omega) (by simp), key_step x (k + 4) _ 4 (by omega) (by simp), key_step x (k + 3) _ 5 (by omega) (by simp), key_step x (k + 2) _ 6 (by omega) (by simp), key_step x (k + 1) _ 7 (by omega) (by simp), key_end]
      have e1 : (⟨#[105]⟩ : ByteArray) = strOfNums [105] := by apply ByteArray.ext; apply Array.ext'; rw [strOfNums_data]; rfl
      rw [e1, ← strOf_append]
      simp [bytes8]
    · rw [if_neg c1, if_neg c1]
      by_cases c2 : a = 2
      · rw [if_pos c2, if_pos c2, if_pos (by omega)]
      · rw [if_neg c2, if_neg c2]
theorem rkey_step (x : Int) (h0 : 0 ≤ x) (h1 : x < 18446744073709551616) (k : Nat) (l : List Int) (i : Nat) (hi : i < 8) (hl : l.length ≤ 9) : r01_Key.l0 (k + 1) x l (i : Int) = r01_Key.l0 k (x / 256) (x % 256 :: l) ((i + 1 : Nat) : Int) := by
  simp only [r01_Key.l0]
  rw [if_pos (by omega), bs]
  rw [if_pos (show ([(Int.tmod x 256) % 256] : List Int).length + l.length < 140737488355328 by simp; omega)]
  rw [div_same x 256 h0 h1 (by decide), Int.tmod_eq_emod_of_nonneg h0, w64 (n := (i : Int) + 1) (by omega) (by omega), Int.emod_emod_of_dvd x (Int.dvd_refl 256)]
  rfl
theorem rkey_end (x : Int) (k : Nat) (l : List Int) (hl : l.length ≤ 9) : r01_Key.l0 (k + 1) x l ((8 : Nat) : Int) = some ((⟨#[105]⟩ : ByteArray) ++ strOfNums l) := by
  simp only [r01_Key.l0]
  have e : (strOfNums l).size = l.length := by simp [strOfNums, ByteArray.size]
  rw [if_neg (by omega), if_pos (by omega)]
theorem ref_key_is (a b : Int) (s : ByteArray) (hs : s.size ≤ 140737488351232) (k : Nat) (hk : 9 ≤ k) : r01_Key.f k a b s = some (vkey a b s) := by
  unfold r01_Key.f vkey
  by_cases c0 : a = 0
  · rw [if_pos c0, if_pos c0]
  · rw [if_neg c0, if_neg c0]
    by_cases c2 : a = 2
    · rw [if_pos c2, if_neg (show ¬ a = 1 by omega), if_pos c2, if_pos (show 1 + s.size ≤ 9223372036854775807 by omega)]
    · rw [if_neg c2]
      by_cases c1 : a = 1
      · rw [if_pos c1, if_pos c1]
        have e : IntKind.u64.wrap (IntKind.u64.wrap b + 9223372036854775808) = IntKind.u64.wrap (b + 9223372036854775808) := by
          rw [u64_wrap, u64_wrap, u64_wrap]; omega
        rw [e]
        have hx := u64_range (b + 9223372036854775808)
        generalize IntKind.u64.wrap (b + 9223372036854775808) = x at *
        obtain ⟨h0, h1⟩ := hx
        obtain ⟨k, rfl⟩ : ∃ m, k = m + 9 := ⟨k - 9, by omega⟩
        have q : ∀ y : Int, 0 ≤ y ∧ y < 18446744073709551616 → 0 ≤ y / 256 ∧ y / 256 < 18446744073709551616 := fun y hy => by omega
        have q1 := q x ⟨h0, h1⟩
        have q2 := q _ q1
        have q3 := q _ q2
        have q4 := q _ q3
        have q5 := q _ q4
        have q6 := q _ q5
        have q7 := q _ q6
        rw [show (0 : Int) = ((0 : Nat) : Int) from rfl]
        rw [rkey_step _ h0 h1 (k + 8) _ 0 (by omega) (by simp), rkey_step _ q1.1 q1.2 (k + 7) _ 1 (by omega) (by simp), rkey_step _ q2.1 q2.2 (k + 6) _ 2 (by omega) (by simp), rkey_step _ q3.1 q3.2 (k + 5) _ 3 (by omega) (by simp), rkey_step _ q4.1 q4.2 (k + 4) _ 4 (by omega) (by simp), rkey_step _ q5.1 q5.2 (k + 3) _ 5 (by omega) (by simp), rkey_step _ q6.1 q6.2 (k + 2) _ 6 (by omega) (by simp), rkey_step _ q7.1 q7.2 (k + 1) _ 7 (by omega) (by simp), rkey_end _ _ _ (by simp)]
        clear q q1 q2 q3 q4 q5 q6 q7
        have d : ∀ (y : Int) (m : Int), 0 ≤ m → y / m / 256 = y / (m * 256) := fun y m hm => Int.ediv_ediv_of_nonneg hm
        rw [d x 256 (by decide), d x (256 * 256) (by decide), d x (256 * 256 * 256) (by decide), d x (256 * 256 * 256 * 256) (by decide), d x (256 * 256 * 256 * 256 * 256) (by decide), d x (256 * 256 * 256 * 256 * 256 * 256) (by decide)]
        rfl
      · rw [if_neg c1, if_neg c1, if_neg c2]
theorem vkey_size (a b : Int) (s : ByteArray) : (vkey a b s).size ≤ s.size + 9 := by
  unfold vkey
  split
  · show 1 ≤ _; omega
  · split
    · rw [ByteArray.size_append]
      have e : (strOfNums (bytes8 (IntKind.u64.wrap (b + 9223372036854775808)))).size = 8 := by simp [strOfNums, ByteArray.size, bytes8]
      rw [e]
      show 1 + 8 ≤ _
      omega
    · split
      · rw [ByteArray.size_append]
        show 1 + _ ≤ _
        omega
      · show 0 ≤ _; omega
theorem rtext_l0 (s : ByteArray) (hs : s.size ≤ 140737488355328000) (d : Nat) : ∀ (k : Nat) (h i : Int), 0 ≤ h → h < 18446744073709551616 → 0 ≤ i → i ≤ s.size → (s.size : Int) - i = d → r17_Text.l0 k s h i = hash_text.l0 k s h (s.size : Int) i := by
  induction d with
  | zero =>
    intro k h i g0 g1 h0 h1 hd
    cases k with
    | zero => rfl
    | succ k =>
      simp only [r17_Text.l0, hash_text.l0]
      rw [if_neg (by omega), if_neg (by omega), mix_same h g0 g1]
  | succ d ih =>
    intro k h i g0 g1 h0 h1 hd
    cases k with
    | zero => rfl
    | succ k =>
      simp only [r17_Text.l0, hash_text.l0]
      rw [if_pos (show i < (s.size : Int) by omega), if_pos h0, if_pos (show i < (s.size : Int) by omega), if_pos h0, if_pos (show i < (s.size : Int) by omega), w64 (n := i + 1) (by omega) (by omega)]
      unfold hash_Byte.f
      rw [bs]
      exact ih k _ (i + 1) (u64_range _).1 (u64_range _).2 (by omega) (by omega) (by omega)
theorem rtext_is (seed : Int) (s : ByteArray) (hs : s.size ≤ 140737488355328000) (k : Nat) : r17_Text.f k seed s = hash_text.f k seed s := by
  unfold r17_Text.f hash_text.f
  have hm := u64_range (IntKind.u64.wrap seed + 2685821657736338717)
  rw [start_is, mix_same _ hm.1 hm.2]
  obtain ⟨r, hr, h0, h1⟩ := mix_some (IntKind.u64.wrap (IntKind.u64.wrap seed + 2685821657736338717))
  rw [hr, bs, bs]
  exact rtext_l0 s hs s.size k r 0 h0 h1 (by omega) (by omega) (by omega)
theorem text_l0_big (s : ByteArray) (hs : s.size ≤ 140737488355328000) (d : Nat) : ∀ (k : Nat) (h i : Int), 0 ≤ i → i ≤ s.size → (s.size : Int) - i = d → d < k → ∃ r, hash_text.l0 k s h (s.size : Int) i = some r ∧ 0 ≤ r ∧ r < 18446744073709551616 := by
  induction d with
  | zero =>
    intro k h i h0 h1 hd hk
    obtain ⟨k, rfl⟩ : ∃ m, k = m + 1 := ⟨k - 1, by omega⟩
    obtain ⟨r, hr, h2⟩ := mix_some h
    refine ⟨r, ?_, h2⟩
    simp only [hash_text.l0]
    rw [if_neg (by omega), hr, bs]
  | succ d ih =>
    intro k h i h0 h1 hd hk
    obtain ⟨k, rfl⟩ : ∃ m, k = m + 1 := ⟨k - 1, by omega⟩
    obtain ⟨b, hb, _⟩ := byte_some h (bt s i)
    obtain ⟨r, hr, h2⟩ := ih k b (i + 1) (by omega) (by omega) (by omega) (by omega)
    refine ⟨r, ?_, h2⟩
    simp only [hash_text.l0]
    rw [if_pos (by omega), if_pos h0, if_pos (by omega), hb, bs, w64 (by omega) (by omega)]
    exact hr
theorem text_some_big (seed : Int) (s : ByteArray) (hs : s.size ≤ 140737488355328000) (k : Nat) (hk : s.size < k) : ∃ r, hash_text.f k seed s = some r ∧ 0 ≤ r ∧ r < 18446744073709551616 := by
  obtain ⟨h, hh, _⟩ := mix_some (IntKind.u64.wrap ((IntKind.u64.wrap (seed)) + 2685821657736338717))
  obtain ⟨r, hr, h2⟩ := text_l0_big s hs s.size k h 0 (by omega) (by omega) (by omega) hk
  refine ⟨r, ?_, h2⟩
  unfold hash_text.f
  rw [start_is, hh, bs]
  exact hr
theorem digit_at (i : Nat) (h : i < 10) : (⟨#[48, 49, 50, 51, 52, 53, 54, 55, 56, 57]⟩ : ByteArray).extract i (i + 1) = ⟨#[UInt8.ofNat (48 + i)]⟩ := by
  have : ∀ j : Fin 10, ((⟨#[48, 49, 50, 51, 52, 53, 54, 55, 56, 57]⟩ : ByteArray).extract j.1 (j.1 + 1)).data.toList = [UInt8.ofNat (48 + j.1)] := by decide
  apply ByteArray.ext
  apply Array.ext'
  exact this ⟨i, h⟩
theorem emp_app (s : ByteArray) : (⟨#[]⟩ : ByteArray) ++ s = s := by
  apply ByteArray.ext
  apply Array.ext'
  rw [ByteArray.data_append]
  simp
theorem app_emp (s : ByteArray) : s ++ (⟨#[]⟩ : ByteArray) = s := by
  apply ByteArray.ext
  apply Array.ext'
  rw [ByteArray.data_append]
  simp
theorem digits_l0 (m : Nat) : ∀ (k n : Nat) (acc : ByteArray), m ≤ k → n < 10 ^ (m + 1) → n < 4611686018427387904 → acc.size + m ≤ 1000 → r04_digits.l0 (k + 1) (n : Int) acc = some ((⟨(Lib.decDigits n).toArray⟩ : ByteArray) ++ acc) := by
  have base : ∀ (k n : Nat) (acc : ByteArray), n < 10 → acc.size ≤ 1000 → r04_digits.l0 (k + 1) (n : Int) acc = some ((⟨(Lib.decDigits n).toArray⟩ : ByteArray) ++ acc) := by
    intro k n acc h hb
    simp only [r04_digits.l0]
    rw [if_neg (by omega), w64 (n := (n : Int) + 1) (by omega) (by omega), if_pos (by omega), if_pos (by omega), if_pos (by omega)]
    rw [show ((n : Int) + 1).toNat = n + 1 by omega, Int.toNat_natCast, digit_at n h]
    have e : (⟨#[UInt8.ofNat (48 + n)]⟩ : ByteArray).size = 1 := rfl
    rw [e, if_pos (by omega), Lib.decDigits_one h]
  induction m with
  | zero => exact fun k n acc _ h _ hb => base k n acc (by simpa using h) (by omega)
  | succ m ih =>
    intro k n acc hk h hn hb
    by_cases c : n < 10
    · exact base k n acc c (by omega)
    · obtain ⟨k, rfl⟩ : ∃ q, k = q + 1 := ⟨k - 1, by omega⟩
      obtain ⟨K, hK⟩ : ∃ K, K = k + 1 := ⟨_, rfl⟩
      rw [← hK]
      simp only [r04_digits.l0]
      have hm : Int.tmod (n : Int) 10 = ((n % 10 : Nat) : Int) := by rw [Int.tmod_eq_emod_of_nonneg (by omega)]; omega
      have hd : Int.tdiv (n : Int) 10 = ((n / 10 : Nat) : Int) := by rw [Int.tdiv_eq_ediv_of_nonneg (by omega)]; omega
      have h10 : n % 10 < 10 := Nat.mod_lt _ (by decide)
      rw [if_pos (by omega), hm, hd]
      generalize hq : n % 10 = q at *
      rw [w64 (n := (q : Int) + 1) (by omega) (by omega), if_pos (by omega), if_pos (by omega), if_pos (by omega)]
      rw [show ((q : Int) + 1).toNat = q + 1 by omega, Int.toNat_natCast, digit_at q h10]
      have e : (⟨#[UInt8.ofNat (48 + q)]⟩ : ByteArray).size = 1 := rfl
      rw [e, if_pos (by omega), w64 (by omega) (by omega), hK]
      have hlt : n / 10 < 10 ^ (m + 1) := by
        rw [Nat.div_lt_iff_lt_mul (by decide)]
        rw [Nat.pow_succ] at h
        exact h
      rw [ih k (n / 10) _ (by omega) hlt (by omega) (by rw [ByteArray.size_append, e]; omega)]
      rw [← ByteArray.append_assoc]
      congr 2
      have e3 : Lib.decDigits n = Lib.decDigits (n / 10) ++ [UInt8.ofNat (48 + n % 10)] := by
        rw [Lib.decDigits, dif_neg c]
      rw [e3, hq]
      apply ByteArray.ext
      apply Array.ext'
      rw [ByteArray.data_append]
      simp
theorem digits_is (n : Nat) (hn : n < 1000000000000000000) (k : Nat) (hk : 19 ≤ k) : r04_digits.f k (n : Int) = some (⟨(Lib.itoa (n : Int)).toArray⟩ : ByteArray) := by
  obtain ⟨k, rfl⟩ : ∃ m, k = m + 1 := ⟨k - 1, by omega⟩
  unfold r04_digits.f
  rw [digits_l0 18 k n (⟨#[]⟩ : ByteArray) (by omega) (by omega) (by omega) (by show 0 + 18 ≤ 1000; omega), Lib.itoa_nonneg, app_emp]
def rkey : List S23 → ByteArray
  | [] => (⟨#[]⟩ : ByteArray)
  | y :: l => (((⟨(Lib.itoa ((vkey y.f0 y.f1 y.f2).size : Int)).toArray⟩ : ByteArray) ++ (⟨#[58]⟩ : ByteArray)) ++ vkey y.f0 y.f1 y.f2) ++ rkey l
theorem itoa_size (n : Nat) (h : n < 1000000000000000000) : (⟨(Lib.itoa (n : Int)).toArray⟩ : ByteArray).size ≤ 21 := by
  have := Lib.itoa_length_le (n : Int) (by omega) (by omega)
  show (Lib.itoa (n : Int)).toArray.size ≤ 21
  simpa using this
theorem rkey_size (l : List S23) (hs : ∀ y ∈ l, y.f2.size ≤ 140737488351232) : (rkey l).size ≤ l.length * 140737488351300 := by
  induction l with
  | nil => show 0 ≤ _; omega
  | cons y l ih =>
    have h1 := vkey_size y.f0 y.f1 y.f2
    have h2 := hs y (List.mem_cons_self)
    have h3 := itoa_size (vkey y.f0 y.f1 y.f2).size (by omega)
    have h4 := ih (fun z hz => hs z (List.mem_cons_of_mem _ hz))
    have e : (⟨#[58]⟩ : ByteArray).size = 1 := rfl
    rw [rkey, ByteArray.size_append, ByteArray.size_append, ByteArray.size_append, e, List.length_cons, Nat.add_mul]
    omega
theorem rowkey_l0 (l : List S23) (hs : ∀ y ∈ l, y.f2.size ≤ 140737488351232) (hl : l.length ≤ 1000) (d : Nat) : ∀ (k i : Nat) (acc : ByteArray), l.length = i + d → acc.size ≤ i * 140737488351300 → d + 10 ≤ k →
    rows_Key.l0 k acc l (l.length : Int) (i : Int) = some (acc ++ rkey (l.drop i)) := by
  induction d with
  | zero =>
    intro k i acc hd ha hk
    obtain ⟨k, rfl⟩ : ∃ m, k = m + 1 := ⟨k - 1, by omega⟩
    simp only [rows_Key.l0]
    rw [if_neg (by omega), List.drop_eq_nil_of_le (by omega), rkey, app_emp]
  | succ d ih =>
    intro k i acc hd ha hk
    obtain ⟨k, rfl⟩ : ∃ m, k = m + 1 := ⟨k - 1, by omega⟩
    have hi : i < l.length := by omega
    have hy := hs l[i] (List.getElem_mem hi)
    have e : rd_T23 l (i : Int) = l[i] := by
      unfold rd_T23
      rw [Int.toNat_natCast, List.getD_eq_getElem?_getD, List.getElem?_eq_getElem hi]
      rfl
    rw [List.drop_eq_getElem_cons hi, rkey]
    simp only [rows_Key.l0]
    rw [if_pos (by omega), if_pos (by omega), if_pos (by omega), e, val_key_is _ _ _ hy k (by omega), bs]
    have hv := vkey_size l[i].f0 l[i].f1 l[i].f2
    generalize vkey l[i].f0 l[i].f1 l[i].f2 = v at *
    have hz := itoa_size v.size (by omega)
    unfold strconv_Itoa.f
    rw [if_pos (by omega), bs]
    generalize (⟨(Lib.itoa (v.size : Int)).toArray⟩ : ByteArray) = t at *
    have e1 : (⟨#[58]⟩ : ByteArray).size = 1 := rfl
    rw [if_pos (by omega), if_pos (by rw [ByteArray.size_append, e1]; omega), if_pos (by rw [ByteArray.size_append, ByteArray.size_append, e1]; omega), w64 (by omega) (by omega)]
    rw [show (i : Int) + 1 = ((i + 1 : Nat) : Int) by omega]
    rw [ih k (i + 1) _ (by omega) (by rw [ByteArray.size_append, ByteArray.size_append, ByteArray.size_append, e1]; omega) (by omega)]
    simp only [ByteArray.append_assoc]
theorem rows_key_is (l : List S23) (hs : ∀ y ∈ l, y.f2.size ≤ 140737488351232) (hl : l.length ≤ 1000) (k : Nat) (hk : l.length + 10 ≤ k) : rows_Key.f k l = some (rkey l) := by
  unfold rows_Key.f
  rw [show (0 : Int) = ((0 : Nat) : Int) from rfl, rowkey_l0 l hs hl l.length k 0 _ (by omega) (by show 0 ≤ _; omega) hk, List.drop_zero, emp_app]
theorem ref_rowkey_l0 (l : List S23) (hs : ∀ y ∈ l, y.f2.size ≤ 140737488351232) (hl : l.length ≤ 1000) (d : Nat) : ∀ (k i : Nat) (acc : ByteArray), l.length = i + d → acc.size ≤ i * 140737488351300 → d + 20 ≤ k →
    r04_Key.l0 k l acc (i : Int) = some (acc ++ rkey (l.drop i)) := by
  induction d with
  | zero =>
    intro k i acc hd ha hk
    obtain ⟨k, rfl⟩ : ∃ m, k = m + 1 := ⟨k - 1, by omega⟩
    simp only [r04_Key.l0]
    rw [if_neg (by omega), List.drop_eq_nil_of_le (by omega), rkey, app_emp]
  | succ d ih =>
    intro k i acc hd ha hk
    obtain ⟨k, rfl⟩ : ∃ m, k = m + 1 := ⟨k - 1, by omega⟩
    have hi : i < l.length := by omega
    have hy := hs l[i] (List.getElem_mem hi)
    have e : rd_T23 l (i : Int) = l[i] := by
      unfold rd_T23
      rw [Int.toNat_natCast, List.getD_eq_getElem?_getD, List.getElem?_eq_getElem hi]
      rfl
    rw [List.drop_eq_getElem_cons hi, rkey]
    simp only [r04_Key.l0]
    rw [if_pos (by omega), if_pos (by omega), e, ref_key_is _ _ _ hy k (by omega), bs]
    have hv := vkey_size l[i].f0 l[i].f1 l[i].f2
    generalize vkey l[i].f0 l[i].f1 l[i].f2 = v at *
    have hz := itoa_size v.size (by omega)
    rw [digits_is v.size (by omega) k (by omega), bs]
    generalize (⟨(Lib.itoa (v.size : Int)).toArray⟩ : ByteArray) = t at *
    have e1 : (⟨#[58]⟩ : ByteArray).size = 1 := rfl
    rw [if_pos (by omega), if_pos (by rw [ByteArray.size_append]; omega), if_pos (by rw [ByteArray.size_append, ByteArray.size_append, e1]; omega), w64 (by omega) (by omega)]
    rw [show (i : Int) + 1 = ((i + 1 : Nat) : Int) by omega]
    rw [ih k (i + 1) _ (by omega) (by rw [ByteArray.size_append, ByteArray.size_append, ByteArray.size_append, e1]; omega) (by omega)]
    simp only [ByteArray.append_assoc]
theorem ref_rowkey_is (l : List S23) (hs : ∀ y ∈ l, y.f2.size ≤ 140737488351232) (hl : l.length ≤ 1000) (k : Nat) (hk : l.length + 20 ≤ k) : r04_Key.f k l = some (rkey l) := by
  unfold r04_Key.f
  rw [show (0 : Int) = ((0 : Nat) : Int) from rfl, ref_rowkey_l0 l hs hl l.length k 0 _ (by omega) (by show 0 ≤ _; omega) hk, List.drop_zero, emp_app]
theorem prow_is (seed : Int) (l : List S23) (hs : ∀ y ∈ l, y.f2.size ≤ 140737488351232) (hl : l.length ≤ 1000) (k : Nat) (hk : l.length + 20 ≤ k) (hk2 : (rkey l).size < k) : ∃ r, hash_Row.f k seed l = some r ∧ 0 ≤ r ∧ r < 18446744073709551616 ∧ hash_text.f k seed (rkey l) = some r := by
  have hz := rkey_size l hs
  obtain ⟨r, hr, h0, h1⟩ := text_some_big seed (rkey l) (by omega) k hk2
  refine ⟨r, ?_, h0, h1, hr⟩
  unfold hash_Row.f
  rw [rows_key_is l hs hl k (by omega), bs, hr, bs]
theorem row_is (seed : Int) (l : List S23) (hs : ∀ y ∈ l, y.f2.size ≤ 140737488351232) (hl : l.length ≤ 1000) (k : Nat) (hk : l.length + 20 ≤ k) (hk2 : (rkey l).size < k) : ∃ r, hash_Row.f k seed l = some r ∧ 0 ≤ r ∧ r < 18446744073709551616 ∧ r17_Row.f k seed l = some r ∧ hash_text.f k seed (rkey l) = some r := by
  have hz := rkey_size l hs
  obtain ⟨r, e, h0, h1, hr⟩ := prow_is seed l hs hl k hk hk2
  refine ⟨r, e, h0, h1, ?_, hr⟩
  unfold r17_Row.f
  rw [ref_rowkey_is l hs hl k (by omega), bs, rtext_is _ _ (by omega), hr, bs]
def rowN (l : List S23) : Nat := (l.map fun y => 1 + y.f2.size).sum
def totN (L : List (List S23)) : Nat := (L.map rowN).sum
theorem rowN_cons (y : S23) (l : List S23) : rowN (y :: l) = 1 + y.f2.size + rowN l := by simp [rowN]
theorem rowN_le (l : List S23) : ∀ y ∈ l, y.f2.size ≤ rowN l := by
  intro y hy
  induction l with
  | nil => cases hy
  | cons z l ih =>
    rw [rowN_cons]
    rcases List.mem_cons.1 hy with rfl | h
    · omega
    · have := ih h; omega
theorem totN_cons (r : List S23) (L : List (List S23)) : totN (r :: L) = rowN r + totN L := by simp [totN]
theorem much_inner (L : List (List S23)) (r : List S23) (i : Nat) (hL : L[i]? = some r) (hr : r.length ≤ 40) (hs : ∀ y ∈ r, y.f2.size ≤ 140737488351232) (hL2 : L.length ≤ 9000000000000000) (d : Nat) : ∀ (k j : Nat) (n : Int), r.length = j + d → 0 ≤ n → n ≤ 2000 + j * 140737488351233 →
    r04_Much.l1 (k + d + 1) L n (i : Int) (j : Int) = if n + rowN (r.drop j) > 2000 then some true else r04_Much.l0 k L (n + rowN (r.drop j)) ((i + 1 : Nat) : Int) := by
  have hi : i < L.length := (List.getElem?_eq_some_iff.1 hL).1
  have hrd : rd_L3 L (i : Int) = r := by
    unfold rd_L3
    rw [Int.toNat_natCast, List.getD_eq_getElem?_getD, hL]
    rfl
  induction d with
  | zero =>
    intro k j n hd h0 h1
    simp only [r04_Much.l1]
    rw [if_pos (show (0 : Int) ≤ (i : Int) by omega), if_pos (show (i : Int) < (L.length : Int) by omega), hrd, if_neg (show ¬ (j : Int) < (r.length : Int) by omega), w64 (n := (i : Int) + 1) (by omega) (by omega)]
    rw [List.drop_eq_nil_of_le (by omega)]
    simp [rowN]
  | succ d ih =>
    intro k j n hd h0 h1
    have hj : j < r.length := by omega
    have hy := hs r[j] (List.getElem_mem hj)
    have e : rd_T23 r (j : Int) = r[j] := by
      unfold rd_T23
      rw [Int.toNat_natCast, List.getD_eq_getElem?_getD, List.getElem?_eq_getElem hj]
      rfl
    obtain ⟨K, hK⟩ : ∃ K, K = k + d + 1 := ⟨_, rfl⟩
    rw [show k + (d + 1) + 1 = K + 1 by omega]
    simp only [r04_Much.l1]
    rw [if_pos (show (0 : Int) ≤ (i : Int) by omega), if_pos (show (i : Int) < (L.length : Int) by omega), hrd, if_pos (show (j : Int) < (r.length : Int) by omega), if_pos (show (0 : Int) ≤ (j : Int) by omega), e]
    rw [w64 (n := n + 1) (by omega) (by omega), w64 (n := n + 1 + (r[j].f2.size : Int)) (by omega) (by omega), w64 (n := (j : Int) + 1) (by omega) (by omega)]
    have h := ih k (j + 1) (n + 1 + (r[j].f2.size : Int)) (by omega) (by omega) (by omega)
    rw [hK, show ((j : Int) + 1) = ((j + 1 : Nat) : Int) by omega, h]
    rw [List.drop_eq_getElem_cons hj, rowN_cons]
    have e2 : n + 1 + (r[j].f2.size : Int) + (rowN (r.drop (j + 1)) : Int) = n + ((1 + r[j].f2.size + rowN (r.drop (j + 1)) : Nat) : Int) := by omega
    rw [e2]
theorem much_outer (L : List (List S23)) (hs : ∀ r ∈ L, ∀ y ∈ r, y.f2.size ≤ 140737488351232) (hL2 : L.length ≤ 9000000000000000) (d : Nat) : ∀ (k i : Nat) (n : Int), 60 ≤ i + d → 0 ≤ n → n ≤ 2000 → d * 44 + 2 ≤ k →
    ∃ b, r04_Much.l0 k L n (i : Int) = some b ∧ (b = false → L.length ≤ 50 ∧ (∀ r ∈ L.drop i, r.length ≤ 40) ∧ n + totN (L.drop i) ≤ 2000) := by
  have stop : ∀ (k i : Nat) (n : Int), n ≤ 2000 → (60 ≤ i ∨ L.length ≤ i) → 2 ≤ k → ∃ b, r04_Much.l0 k L n (i : Int) = some b ∧ (b = false → L.length ≤ 50 ∧ (∀ r ∈ L.drop i, r.length ≤ 40) ∧ n + totN (L.drop i) ≤ 2000) := by
    intro k i n hn hi hk
    obtain ⟨k, rfl⟩ : ∃ m, k = m + 2 := ⟨k - 2, by omega⟩
    refine ⟨decide ((L.length : Int) > 50), ?_, ?_⟩
    · simp only [r04_Much.l0]
      by_cases c : (i : Int) < (L.length : Int)
      · rw [if_pos c]
        have c2 : decide ((i : Int) < 60) = false := by simp; omega
        rw [c2]
        simp only [r04_Much.j1]
        rw [if_neg (by simp)]
      · rw [if_neg c]
        simp only [r04_Much.j1]
        rw [if_neg (by simp)]
    · intro hb
      have h50 : L.length ≤ 50 := by have := of_decide_eq_false hb; omega
      rw [List.drop_eq_nil_of_le (show L.length ≤ i by omega)]
      refine ⟨h50, ?_, ?_⟩
      · intro r hr
        cases hr
      · simpa [totN] using hn
  induction d with
  | zero => exact fun k i n hi h0 h1 hk => stop k i n h1 (by omega) (by omega)
  | succ d ih =>
    intro k i n hi h0 h1 hk
    by_cases c : 60 ≤ i ∨ L.length ≤ i
    · exact stop k i n h1 c (by omega)
    · have hi2 : i < L.length := by omega
      have hLi : L[i]? = some L[i] := List.getElem?_eq_getElem hi2
      have hrd : rd_L3 L (i : Int) = L[i] := by
        unfold rd_L3
        rw [Int.toNat_natCast, List.getD_eq_getElem?_getD, hLi]
        rfl
      obtain ⟨k, rfl⟩ : ∃ m, k = m + 2 := ⟨k - 2, by omega⟩
      have e1 : r04_Much.l0 (k + 2) L n (i : Int) = if (L[i].length : Int) > 40 then some true else r04_Much.l1 k L n (i : Int) 0 := by
        simp only [r04_Much.l0]
        rw [if_pos (show (i : Int) < (L.length : Int) by omega)]
        have c2 : decide ((i : Int) < 60) = true := by simp; omega
        rw [c2]
        simp only [r04_Much.j1]
        rw [if_pos trivial, if_pos (show (0 : Int) ≤ (i : Int) by omega), if_pos (show (i : Int) < (L.length : Int) by omega), hrd]
      rw [e1]
      by_cases c3 : (L[i].length : Int) > 40
      · rw [if_pos c3]
        exact ⟨true, rfl, fun h => by cases h⟩
      · rw [if_neg c3]
        obtain ⟨k2, hk2⟩ : ∃ m, k = m + L[i].length + 1 := ⟨k - L[i].length - 1, by omega⟩
        have h := much_inner L L[i] i hLi (by omega) (hs _ (List.getElem_mem hi2)) hL2 L[i].length k2 0 n (by omega) h0 (by omega)
        rw [hk2, show (0 : Int) = ((0 : Nat) : Int) from rfl, h]
        rw [List.drop_zero]
        by_cases c4 : n + (rowN L[i] : Int) > 2000
        · rw [if_pos c4]
          exact ⟨true, rfl, fun h => by cases h⟩
        · rw [if_neg c4]
          obtain ⟨b, hb, hp⟩ := ih k2 (i + 1) (n + (rowN L[i] : Int)) (by omega) (by omega) (by omega) (by omega)
          refine ⟨b, hb, fun hf => ?_⟩
          obtain ⟨p1, p2, p3⟩ := hp hf
          rw [List.drop_eq_getElem_cons hi2]
          refine ⟨p1, ?_, ?_⟩
          · intro r hr
            rcases List.mem_cons.1 hr with rfl | hr
            · omega
            · exact p2 r hr
          · rw [totN_cons]
            omega
theorem much_is (L : List (List S23)) (hs : ∀ r ∈ L, ∀ y ∈ r, y.f2.size ≤ 140737488351232) (hL2 : L.length ≤ 9000000000000000) (k : Nat) (hk : 3000 ≤ k) :
    ∃ b, r04_Much.f k L = some b ∧ (b = false → L.length ≤ 50 ∧ (∀ r ∈ L, r.length ≤ 40) ∧ totN L ≤ 2000) := by
  obtain ⟨b, hb, hp⟩ := much_outer L hs hL2 60 k 0 0 (by omega) (by omega) (by omega) (by omega)
  refine ⟨b, hb, fun hf => ?_⟩
  obtain ⟨p1, p2, p3⟩ := hp hf
  exact ⟨p1, p2, by rw [List.drop_zero] at p3; omega⟩
def sg (n m : Int) : Int := if n < m then -1 else if n > m then 1 else 0
def lexI : List UInt8 → List UInt8 → Int
  | [], [] => 0
  | [], _ :: _ => -1
  | _ :: _, [] => 1
  | a :: x, b :: y => if a = b then lexI x y else if a < b then -1 else 1
def ord (a b : S23) : Int := if a.f0 = b.f0 then (if a.f1 = b.f1 then lexI a.f2.data.toList b.f2.data.toList else sg a.f1 b.f1) else sg a.f0 b.f0
theorem sg_zero (a b : Int) : sg a b = 0 ↔ a = b := by unfold sg; split <;> (try split) <;> omega
theorem u8_cases (a b : UInt8) : a = b ∨ (a ≠ b ∧ a < b ∧ ¬ b < a) ∨ (a ≠ b ∧ b < a ∧ ¬ a < b) := by
  by_cases h : a = b
  · exact .inl h
  · have hn : a.toNat ≠ b.toNat := fun e => h (UInt8.toNat_inj.1 e)
    rcases Nat.lt_or_gt_of_ne hn with e | e
    · exact .inr (.inl ⟨h, UInt8.lt_iff_toNat_lt.2 e, fun e2 => by have := UInt8.lt_iff_toNat_lt.1 e2; omega⟩)
    · exact .inr (.inr ⟨h, UInt8.lt_iff_toNat_lt.2 e, fun e2 => by have := UInt8.lt_iff_toNat_lt.1 e2; omega⟩)
theorem lexI_less : ∀ x y : List UInt8, lexI x y = if Op.bytesLess x y = true then -1 else if x = y then 0 else 1
  | [], [] => rfl
  | [], _ :: _ => rfl
  | _ :: _, [] => by simp [lexI, Op.bytesLess]
  | a :: x, b :: y => by
    simp only [lexI, Op.bytesLess]
    have ih := lexI_less x y
    rcases u8_cases a b with h | ⟨h, h1, h2⟩ | ⟨h, h1, h2⟩
    · subst h
      rw [if_pos rfl, ih]
      simp
    · rw [if_neg h, if_pos h1]
      simp [h1]
    · rw [if_neg h, if_neg h2]
      simp [h, h2]
theorem cmp_int_is (a b : Int) : cmp_Compare_int.f a b = some (sg a b) := by
  unfold cmp_Compare_int.f cmp_isNaN_int.f sg
  rw [bs, bs]
  have e : ∀ x : Int, (x != x) = false := fun x => by simp
  rw [e, e, if_neg (by simp), if_neg (by simp)]
  split
  · rfl
  · split <;> rfl
theorem cmp_str_is (a b : ByteArray) : cmp_Compare_string.f a b = some (lexI a.data.toList b.data.toList) := by
  unfold cmp_Compare_string.f cmp_isNaN_string.f
  rw [bs, bs]
  have e : ∀ x : List UInt8, (x != x) = false := fun x => by simp
  rw [e, e, if_neg (by simp), if_neg (by simp), lexI_less, ByteArray.toList_eq, ByteArray.toList_eq]
  split
  · rfl
  · split <;> rfl
theorem or3 (a b c : Int) (k : Nat) : cmp_Or_int.f (k + 4) [a, b, c] = some (if a = 0 then (if b = 0 then c else b) else a) := by
  unfold cmp_Or_int.f
  have w1 : wrap64 (0 + 1) = 1 := by decide +kernel
  have w2 : wrap64 (1 + 1) = 2 := by decide +kernel
  have w3 : wrap64 (2 + 1) = 3 := by decide +kernel
  have r0 : rd [a, b, c] 0 = a := rfl
  have r1 : rd [a, b, c] 1 = b := rfl
  have r2 : rd [a, b, c] 2 = c := rfl
  have l : (([a, b, c] : List Int).length : Int) = 3 := rfl
  rw [l]
  have s0 : ∀ i : Int, 0 ≤ i → i < 3 → ∀ m, cmp_Or_int.l0 (m + 1) 0 [a, b, c] 3 i = if rd [a, b, c] i = 0 then cmp_Or_int.l0 m 0 [a, b, c] 3 (wrap64 (i + 1)) else some (rd [a, b, c] i) := by
    intro i h0 h1 m
    simp only [cmp_Or_int.l0]
    rw [if_pos h1, if_pos h0, l, if_pos h1]
  rw [s0 0 (by decide) (by decide), r0, w1, s0 1 (by decide) (by decide), r1, w2, s0 2 (by decide) (by decide), r2, w3]
  have s3 : cmp_Or_int.l0 (k + 1) 0 [a, b, c] 3 3 = some 0 := by
    simp only [cmp_Or_int.l0]
    rw [if_neg (by decide)]
  rw [s3]
  split
  · split
    · split
      · rename_i h
        rw [h]
      · rfl
    · rfl
  · rfl
theorem order_is (a b : S23) (k : Nat) (hk : 4 ≤ k) : val_Order.f k a.f0 a.f1 a.f2 b.f0 b.f1 b.f2 = some (ord a b) := by
  obtain ⟨k, rfl⟩ : ∃ m, k = m + 4 := ⟨k - 4, by omega⟩
  unfold val_Order.f
  rw [cmp_int_is, bs, cmp_int_is, bs, cmp_str_is, bs, or3, bs]
  unfold ord
  by_cases h : a.f0 = b.f0
  · rw [if_pos ((sg_zero _ _).2 h), if_pos h]
    by_cases h1 : a.f1 = b.f1
    · rw [if_pos ((sg_zero _ _).2 h1), if_pos h1]
    · rw [if_neg (fun e => h1 ((sg_zero _ _).1 e)), if_neg h1]
  · rw [if_neg (fun e => h ((sg_zero _ _).1 e)), if_neg h]
theorem bt_get (s : ByteArray) (i : Nat) (h : i < s.size) : bt s (i : Int) = ((s.data.toList[i]'(by simpa using h)).toNat : Int) := by
  unfold bt
  rw [dif_pos (by simpa using h)]
  simp [ByteArray.getElem_eq_getElem_data]
theorem texts_l0 (a b : ByteArray) (ha : a.size ≤ 140737488351232) (d : Nat) : ∀ (k i : Nat), a.size = i + d → i ≤ b.size → 2 * d + 2 ≤ k → r01_Texts.l0 k a b (i : Int) = some (lexI (a.data.toList.drop i) (b.data.toList.drop i)) := by
  have hsa : a.data.toList.length = a.size := by simp
  have hsb : b.data.toList.length = b.size := by simp
  have stop : ∀ (k i : Nat), i ≤ a.size → i ≤ b.size → (i = a.size ∨ i = b.size) → 2 ≤ k → r01_Texts.l0 k a b (i : Int) = some (lexI (a.data.toList.drop i) (b.data.toList.drop i)) := by
    intro k i h1 h2 h3 hk
    obtain ⟨k, rfl⟩ : ∃ m, k = m + 2 := ⟨k - 2, by omega⟩
    have e : r01_Texts.l0 (k + 2) a b (i : Int) = r01_Texts.j1 (k + 1) a b (i : Int) false := by
      simp only [r01_Texts.l0]
      by_cases c : (i : Int) < (a.size : Int)
      · rw [if_pos c, decide_eq_false (by omega)]
      · rw [if_neg c]
    rw [e]
    simp only [r01_Texts.j1]
    rw [if_neg (by simp)]
    by_cases c : (a.size : Int) < (b.size : Int)
    · rw [if_pos c, List.drop_eq_nil_of_le (by omega), List.drop_eq_getElem_cons (show i < b.data.toList.length by omega)]
      rfl
    · rw [if_neg c]
      by_cases c2 : (a.size : Int) > (b.size : Int)
      · rw [if_pos c2, List.drop_eq_nil_of_le (show b.data.toList.length ≤ i by omega), List.drop_eq_getElem_cons (show i < a.data.toList.length by omega)]
        rfl
      · rw [if_neg c2, List.drop_eq_nil_of_le (show b.data.toList.length ≤ i by omega), List.drop_eq_nil_of_le (show a.data.toList.length ≤ i by omega)]
        rfl
  induction d with
  | zero => exact fun k i h1 h2 hk => stop k i (by omega) h2 (.inl (by omega)) (by omega)
  | succ d ih =>
    intro k i h1 h2 hk
    by_cases c : i = b.size
    · exact stop k i (by omega) h2 (.inr c) (by omega)
    · obtain ⟨k, rfl⟩ : ∃ m, k = m + 2 := ⟨k - 2, by omega⟩
      have h := ih k (i + 1) (by omega) (by omega) (by omega)
      have e : r01_Texts.l0 (k + 2) a b (i : Int) = r01_Texts.j1 (k + 1) a b (i : Int) true := by
        simp only [r01_Texts.l0]
        rw [if_pos (by omega), decide_eq_true (by omega)]
      rw [e]
      simp only [r01_Texts.j1]
      rw [if_pos trivial, if_pos (by omega), if_pos (by omega), if_pos (by omega), bt_get a i (by omega), bt_get b i (by omega), w64 (by omega) (by omega), show (i : Int) + 1 = ((i + 1 : Nat) : Int) by omega, h]
      rw [List.drop_eq_getElem_cons (show i < a.data.toList.length by omega), List.drop_eq_getElem_cons (show i < b.data.toList.length by omega)]
      simp only [lexI]
      generalize a.data.toList[i] = p
      generalize b.data.toList[i] = q
      rcases u8_cases p q with e1 | ⟨e1, e2, e3⟩ | ⟨e1, e2, e3⟩
      · rw [if_pos e1, if_pos (by rw [e1])]
      · rw [if_neg e1, if_pos e2, if_neg (fun e : (p.toNat : Int) = (q.toNat : Int) => e1 (UInt8.toNat_inj.1 (by omega))), if_pos (by rw [UInt8.lt_iff_toNat_lt] at e2; omega)]
      · rw [if_neg e1, if_neg e3, if_neg (fun e : (p.toNat : Int) = (q.toNat : Int) => e1 (UInt8.toNat_inj.1 (by omega))), if_neg (by rw [UInt8.lt_iff_toNat_lt] at e2; omega)]
theorem ref_order_is (a b : S23) (ha : a.f2.size ≤ 140737488351232) (k : Nat) (hk : 2 * a.f2.size + 2 ≤ k) : r01_Order.f k a.f0 a.f1 a.f2 b.f0 b.f1 b.f2 = some (ord a b) := by
  unfold r01_Order.f ord r01_ints.f
  by_cases h : a.f0 = b.f0
  · rw [if_pos h, if_pos h]
    by_cases h1 : a.f1 = b.f1
    · rw [if_pos h1, if_pos h1]
      unfold r01_Texts.f
      have e := texts_l0 a.f2 b.f2 ha a.f2.size k 0 (by omega) (by omega) hk
      rw [show ((0 : Nat) : Int) = 0 from rfl] at e
      rw [e, bs]
      rfl
    · rw [if_neg h1, if_neg h1]
      unfold sg
      split
      · rfl
      · split <;> rfl
  · rw [if_neg h, if_neg h]
    unfold sg
    split
    · rfl
    · split <;> rfl
def whB (l : List S23) : Bool := l.all (fun y => y.f0 != 0)
theorem get23 (l : List S23) (i : Nat) (h : i < l.length) : rd_T23 l (i : Int) = l[i] := by
  unfold rd_T23
  rw [Int.toNat_natCast, List.getD_eq_getElem?_getD, List.getElem?_eq_getElem h]
  rfl
theorem getL (l : List (List S23)) (i : Nat) (h : i < l.length) : rd_L3 l (i : Int) = l[i] := by
  unfold rd_L3
  rw [Int.toNat_natCast, List.getD_eq_getElem?_getD, List.getElem?_eq_getElem h]
  rfl
theorem index_l0 (l : List S23) (hl : l.length ≤ 1000) (d : Nat) : ∀ (k i : Nat), l.length = i + d → d + 1 ≤ k → ∃ r : Int, slices_IndexFunc_125__val_IsNull.l0 k l (l.length : Int) (i : Int) = some r ∧ decide (r ≥ 0) = !((l.drop i).all (fun y => y.f0 != 0)) := by
  induction d with
  | zero =>
    intro k i hd hk
    obtain ⟨k, rfl⟩ : ∃ m, k = m + 1 := ⟨k - 1, by omega⟩
    refine ⟨-1, ?_, ?_⟩
    · simp only [slices_IndexFunc_125__val_IsNull.l0]
      rw [if_neg (by omega)]
    · rw [List.drop_eq_nil_of_le (by omega)]
      rfl
  | succ d ih =>
    intro k i hd hk
    obtain ⟨k, rfl⟩ : ∃ m, k = m + 1 := ⟨k - 1, by omega⟩
    have hi : i < l.length := by omega
    obtain ⟨r, e, g⟩ := ih k (i + 1) (by omega) (by omega)
    have hstep : slices_IndexFunc_125__val_IsNull.l0 (k + 1) l (l.length : Int) (i : Int) = if (l[i].f0 == 0) = true then some (i : Int) else slices_IndexFunc_125__val_IsNull.l0 k l (l.length : Int) ((i + 1 : Nat) : Int) := by
      simp only [slices_IndexFunc_125__val_IsNull.l0, val_IsNull.f]
      rw [if_pos (by omega), if_pos (by omega), if_pos (by omega), bs, get23 l i hi, w64 (by omega) (by omega), show (i : Int) + 1 = ((i + 1 : Nat) : Int) by omega]
    rw [hstep, List.drop_eq_getElem_cons hi, List.all_cons]
    by_cases c : l[i].f0 = 0
    · refine ⟨(i : Int), by rw [if_pos (beq_iff_eq.2 c)], ?_⟩
      rw [decide_eq_true (by omega), c]
      rfl
    · refine ⟨r, by rw [if_neg (by simpa using c), e], ?_⟩
      rw [g, bne_iff_ne.2 c, Bool.true_and]
theorem whole_is (l : List S23) (hl : l.length ≤ 1000) (k : Nat) (hk : l.length + 1 ≤ k) : sift_Whole.f k l = some (whB l) := by
  obtain ⟨r, e, g⟩ := index_l0 l hl l.length k 0 (by omega) (by omega)
  unfold sift_Whole.f slices_ContainsFunc_91__val_IsNull.f slices_IndexFunc_125__val_IsNull.f
  rw [show (0 : Int) = ((0 : Nat) : Int) from rfl, e, bs, bs]
  rw [List.drop_zero] at g
  show some (!decide (r ≥ 0)) = _
  rw [g, Bool.not_not]
  rfl
theorem rwhole_l0 (l : List S23) (hl : l.length ≤ 1000) (d : Nat) : ∀ (k i : Nat), l.length = i + d → d + 1 ≤ k → r20_Whole.l0 k l (i : Int) = some ((l.drop i).all (fun y => y.f0 != 0)) := by
  induction d with
  | zero =>
    intro k i hd hk
    obtain ⟨k, rfl⟩ : ∃ m, k = m + 1 := ⟨k - 1, by omega⟩
    simp only [r20_Whole.l0]
    rw [if_neg (by omega), List.drop_eq_nil_of_le (by omega)]
    rfl
  | succ d ih =>
    intro k i hd hk
    obtain ⟨k, rfl⟩ : ∃ m, k = m + 1 := ⟨k - 1, by omega⟩
    have hi : i < l.length := by omega
    have e := ih k (i + 1) (by omega) (by omega)
    simp only [r20_Whole.l0]
    rw [if_pos (by omega), if_pos (by omega), get23 l i hi, w64 (by omega) (by omega), show (i : Int) + 1 = ((i + 1 : Nat) : Int) by omega, List.drop_eq_getElem_cons hi, List.all_cons]
    by_cases c : l[i].f0 = 0
    · rw [if_pos c, c]
      rfl
    · rw [if_neg c, e, bne_iff_ne.2 c, Bool.true_and]
theorem rwhole_is (l : List S23) (hl : l.length ≤ 1000) (k : Nat) (hk : l.length + 1 ≤ k) : r20_Whole.f k l = some (whB l) := by
  have e := rwhole_l0 l hl l.length k 0 (by omega) hk
  rw [List.drop_zero] at e
  exact e
theorem text_indep (s : ByteArray) (hs : s.size ≤ 140737488355328000) (d : Nat) : ∀ (k1 k2 : Nat) (h i : Int), 0 ≤ i → i ≤ s.size → (s.size : Int) - i = d → d < k1 → d < k2 → hash_text.l0 k1 s h (s.size : Int) i = hash_text.l0 k2 s h (s.size : Int) i := by
  induction d with
  | zero =>
    intro k1 k2 h i h0 h1 hd hk1 hk2
    obtain ⟨k1, rfl⟩ : ∃ m, k1 = m + 1 := ⟨k1 - 1, by omega⟩
    obtain ⟨k2, rfl⟩ : ∃ m, k2 = m + 1 := ⟨k2 - 1, by omega⟩
    simp only [hash_text.l0]
    rw [if_neg (by omega), if_neg (by omega)]
  | succ d ih =>
    intro k1 k2 h i h0 h1 hd hk1 hk2
    obtain ⟨k1, rfl⟩ : ∃ m, k1 = m + 1 := ⟨k1 - 1, by omega⟩
    obtain ⟨k2, rfl⟩ : ∃ m, k2 = m + 1 := ⟨k2 - 1, by omega⟩
    simp only [hash_text.l0, hash_Byte.f]
    rw [if_pos (by omega), if_pos (by omega), if_pos (by omega), if_pos (by omega), if_pos (by omega), if_pos (by omega), bs, bs, w64 (by omega) (by omega)]
    exact ih k1 k2 _ _ (by omega) (by omega) (by omega) (by omega) (by omega)
def rhv (seed : Int) (l : List S23) : Nat := ((hash_text.f ((rkey l).size + 1) seed (rkey l)).getD 0).toNat
theorem phv_is (seed : Int) (l : List S23) (hs : ∀ y ∈ l, y.f2.size ≤ 140737488351232) (hl : l.length ≤ 1000) (k : Nat) (hk : l.length + 20 ≤ k) (hk2 : (rkey l).size < k) : hash_Row.f k seed l = some (rhv seed l : Int) ∧ rhv seed l < 18446744073709551616 := by
  have hz := rkey_size l hs
  obtain ⟨r, e1, h0, h1, e3⟩ := prow_is seed l hs hl k hk hk2
  have e4 : hash_text.f ((rkey l).size + 1) seed (rkey l) = some r := by
    rw [← e3]
    unfold hash_text.f hash_Start.f
    obtain ⟨q, hq, _⟩ := mix_some (IntKind.u64.wrap (IntKind.u64.wrap seed + 2685821657736338717))
    rw [hq, bs, bs, bs]
    exact text_indep _ (by omega) (rkey l).size _ _ _ _ (by omega) (by omega) (by omega) (by omega) (by omega)
  have e5 : (rhv seed l : Int) = r := by
    unfold rhv
    rw [e4]
    show ((r.toNat : Nat) : Int) = r
    omega
  exact ⟨by rw [e5]; exact e1, by omega⟩
theorem rhv_is (seed : Int) (l : List S23) (hs : ∀ y ∈ l, y.f2.size ≤ 140737488351232) (hl : l.length ≤ 1000) (k : Nat) (hk : l.length + 20 ≤ k) (hk2 : (rkey l).size < k) : hash_Row.f k seed l = some (rhv seed l : Int) ∧ r17_Row.f k seed l = some (rhv seed l : Int) ∧ rhv seed l < 18446744073709551616 := by
  obtain ⟨h1, h2⟩ := phv_is seed l hs hl k hk hk2
  obtain ⟨r, e1, _, _, e2, _⟩ := row_is seed l hs hl k hk hk2
  have e5 : (rhv seed l : Int) = r := Option.some.inj (h1.symm.trans e1)
  exact ⟨h1, by rw [e5]; exact e2, h2⟩
end Go.Proofs.YtcfgjaggccnoaaaDoor.PTableSteps
namespace Go.Proofs.YtcfgjaggccnoaaaDoor.PTableSteps
open Go.RowKit Go.Proofs.YtcfgjaggccnoaaaDoorW.PrintWords Go.Proofs.YtcfgjaggccnoaaaDoorW.PrintLast Go.Proofs.YtcfgjaggccnoaaaDoorW.PrintMore
attribute [local go_sem] max2_int min2_int max_two min_two max_three min_three max_four min_four
set_option linter.unusedVariables false
set_option linter.unusedSimpArgs false
set_option maxRecDepth 100000
set_option maxHeartbeats 4000000
theorem lexI_zero : ∀ x y : List UInt8, lexI x y = 0 → x = y
  | [], [], _ => rfl
  | [], _ :: _, h => by simp [lexI] at h
  | _ :: _, [], h => by simp [lexI] at h
  | a :: x, b :: y, h => by
    simp only [lexI] at h
    split at h
    · rename_i e
      rw [e, lexI_zero x y h]
    · split at h <;> omega
theorem lexI_rng : ∀ x y : List UInt8, -1 ≤ lexI x y ∧ lexI x y ≤ 1
  | [], [] => by simp [lexI]
  | [], _ :: _ => by simp [lexI]
  | _ :: _, [] => by simp [lexI]
  | a :: x, b :: y => by
    simp only [lexI]
    split
    · exact lexI_rng x y
    · split <;> omega
theorem ord_rng (a b : S23) : -1 ≤ ord a b ∧ ord a b ≤ 1 := by
  unfold ord sg
  split
  · split
    · exact lexI_rng _ _
    · split <;> (try split) <;> omega
  · split <;> (try split) <;> omega
theorem ord_zero {a b : S23} (h0 : a.f0 = b.f0) (h : ord a b = 0) : a = b := by
  unfold ord at h
  rw [if_pos h0] at h
  split at h
  · rename_i h1
    have h2 := lexI_zero _ _ h
    cases a; cases b
    simp only at h0 h1 h2
    subst h0 h1
    congr 1
    apply ByteArray.ext
    exact Array.ext' h2
  · rename_i h1
    exact absurd ((sg_zero _ _).1 h) h1
def eqv (a b : S23) : Bool := (a.f0 == b.f0 && (a.f0 == 1 || a.f0 == 2)) && (ord a b == 0)
def mt : List S23 → List S23 → Bool
  | [], [] => true
  | a :: x, b :: y => eqv a b && mt x y
  | _, _ => false
theorem eqv_eq {a b : S23} (h : eqv a b = true) : a = b := by
  simp only [eqv, Bool.and_eq_true, beq_iff_eq] at h
  exact ord_zero h.1.1 h.2
theorem mt_eq : ∀ {x y : List S23}, mt x y = true → x = y
  | [], [], _ => rfl
  | [], _ :: _, h => by simp [mt] at h
  | _ :: _, [], h => by simp [mt] at h
  | a :: x, b :: y, h => by
    simp only [mt, Bool.and_eq_true] at h
    rw [eqv_eq h.1, mt_eq h.2]
theorem mt_len : ∀ {x y : List S23}, x.length ≠ y.length → mt x y = false
  | [], [], h => absurd rfl h
  | [], _ :: _, _ => rfl
  | _ :: _, [], _ => rfl
  | a :: x, b :: y, h => by
    simp only [mt]
    rw [mt_len (by simpa using h), Bool.and_false]
theorem eq_step (a b : S23) (k : Nat) (hk : 4 ≤ k) {β : Type} (f : Bool → Option β) : ((logic_Eq.f k a.f0 a.f1 a.f2 b.f0 b.f1 b.f2).bind fun t => (logic_Is.f t).bind f) = f (eqv a b) := by
  have hc : val_Cmp.f k a.f0 a.f1 a.f2 b.f0 b.f1 b.f2 = if a.f0 = b.f0 then (if a.f0 = 1 then some (ord a b, true) else if a.f0 = 2 then some (ord a b, true) else some (0, false)) else some (0, false) := by
    unfold val_Cmp.f
    rw [order_is a b k hk, bs]
  unfold logic_Eq.f logic_cmp__logic_Eq_1.f logic_Eq_1.f logic_Of.f logic_Is.f
  rw [hc]
  unfold eqv
  by_cases h : a.f0 = b.f0
  · rw [if_pos h, beq_iff_eq.2 h]
    by_cases h1 : a.f0 = 1
    · rw [if_pos h1, bs]
      by_cases h2 : ord a b = 0
      · simp [h1, h2]
      · simp [h1, h2, beq_eq_false_iff_ne.2 h2]
    · rw [if_neg h1]
      by_cases h3 : a.f0 = 2
      · rw [if_pos h3, bs]
        by_cases h2 : ord a b = 0
        · simp [h3, h2]
        · simp [h3, h2, beq_eq_false_iff_ne.2 h2]
      · rw [if_neg h3, bs]
        simp [beq_eq_false_iff_ne.2 h1, beq_eq_false_iff_ne.2 h3]
  · rw [if_neg h, bs]
    simp [beq_eq_false_iff_ne.2 h]
theorem match_l0 (x y : List S23) (he : x.length = y.length) (hl : x.length ≤ 1000) (d : Nat) : ∀ (k i : Nat), x.length = i + d → d + 5 ≤ k → semi_Match.l0 k y x (x.length : Int) (i : Int) = some (mt (x.drop i) (y.drop i)) := by
  induction d with
  | zero =>
    intro k i hd hk
    obtain ⟨k, rfl⟩ : ∃ m, k = m + 1 := ⟨k - 1, by omega⟩
    simp only [semi_Match.l0]
    rw [if_neg (by omega), List.drop_eq_nil_of_le (by omega), List.drop_eq_nil_of_le (by omega)]
    rfl
  | succ d ih =>
    intro k i hd hk
    obtain ⟨k, rfl⟩ : ∃ m, k = m + 1 := ⟨k - 1, by omega⟩
    have hx : i < x.length := by omega
    have hy : i < y.length := by omega
    simp only [semi_Match.l0]
    rw [if_pos (by omega), if_pos (by omega), if_pos (by omega), if_pos (by omega), get23 x i hx, get23 y i hy, eq_step _ _ k (by omega), w64 (by omega) (by omega), show (i : Int) + 1 = ((i + 1 : Nat) : Int) by omega, List.drop_eq_getElem_cons hx, List.drop_eq_getElem_cons hy]
    simp only [mt]
    by_cases c : eqv x[i] y[i] = true
    · rw [if_pos c, ih k (i + 1) (by omega) (by omega), c, Bool.true_and]
    · rw [if_neg c]
      simp [c]
theorem match_is (x y : List S23) (hl : x.length ≤ 1000) (k : Nat) (hk : x.length + 5 ≤ k) : semi_Match.f k x y = some (mt x y) := by
  unfold semi_Match.f
  by_cases he : x.length = y.length
  · rw [if_pos (by omega), show (0 : Int) = ((0 : Nat) : Int) from rfl, match_l0 x y he hl x.length k 0 (by omega) hk, List.drop_zero, List.drop_zero]
  · rw [if_neg (by omega), mt_len he]
theorem test_step (a b : S23) (ha : a.f2.size ≤ 140737488351232) (k : Nat) (hk : 2 * a.f2.size + 2 ≤ k) : ∃ t, r02_Test.f k 1 a.f0 a.f1 a.f2 b.f0 b.f1 b.f2 = some t ∧ (t = 1 ↔ eqv a b = true) := by
  have hc : r01_Cmp.f k a.f0 a.f1 a.f2 b.f0 b.f1 b.f2 = if a.f0 = b.f0 then (if a.f0 = 1 then some (ord a b, true) else if a.f0 = 2 then some (ord a b, true) else some (0, false)) else some (0, false) := by
    unfold r01_Cmp.f
    rw [ref_order_is a b ha k hk, bs]
  have key : ∀ n : Int, -1 ≤ n → n ≤ 1 → ∃ t, (if (1 : Int) < 1 then (some 2 : Option Int) else (if (1 : Int) > 6 then (some 2) else ((some (([(([0, 1, 0] : List Int)), (([1, 0, 1] : List Int)), (([1, 0, 0] : List Int)), (([1, 1, 0] : List Int)), (([0, 0, 1] : List Int)), (([0, 1, 1] : List Int))] : List (List Int)) : List (List Int))).bind fun y184 => (if 0 ≤ (wrap64 (1 - 1)) then (if (wrap64 (1 - 1)) < (y184.length : Int) then (if 0 ≤ (wrap64 (n + 1)) then (if (wrap64 (n + 1)) < ((rd_L9 y184 (wrap64 (1 - 1))).length : Int) then (some (rd (rd_L9 y184 (wrap64 (1 - 1))) (wrap64 (n + 1)))) else (none)) else (none)) else (none)) else (none))))) = some t ∧ (t = 1 ↔ n = 0) := by
    intro n h0 h1
    have : n = -1 ∨ n = 0 ∨ n = 1 := by omega
    rcases this with rfl | rfl | rfl
    · exact ⟨0, by decide +kernel, by decide⟩
    · exact ⟨1, by decide +kernel, by decide⟩
    · exact ⟨0, by decide +kernel, by decide⟩
  unfold r02_Test.f
  rw [hc]
  unfold eqv
  obtain ⟨t, ht, hi⟩ := key (ord a b) (ord_rng a b).1 (ord_rng a b).2
  by_cases h : a.f0 = b.f0
  · rw [if_pos h, beq_iff_eq.2 h]
    by_cases h1 : a.f0 = 1
    · rw [if_pos h1, bs]
      refine ⟨t, by rw [if_pos rfl]; exact ht, ?_⟩
      simp [h1, hi]
    · rw [if_neg h1]
      by_cases h3 : a.f0 = 2
      · rw [if_pos h3, bs]
        refine ⟨t, by rw [if_pos rfl]; exact ht, ?_⟩
        simp [h3, hi]
      · rw [if_neg h3, bs]
        exact ⟨2, by rw [if_neg (by simp)], by simp [h1, h3]⟩
  · rw [if_neg h, bs]
    exact ⟨2, by rw [if_neg (by simp)], by simp [h]⟩
theorem rmatch_l0 (x y : List S23) (he : x.length = y.length) (hl : x.length ≤ 1000) (hs : ∀ a ∈ x, a.f2.size ≤ 140737488351232) (m : Nat) (hm : ∀ a ∈ x, a.f2.size ≤ m) (d : Nat) : ∀ (k i : Nat), x.length = i + d → d + 2 * m + 3 ≤ k → r24_Match.l0 k x y (i : Int) = some (mt (x.drop i) (y.drop i)) := by
  induction d with
  | zero =>
    intro k i hd hk
    obtain ⟨k, rfl⟩ : ∃ m, k = m + 1 := ⟨k - 1, by omega⟩
    simp only [r24_Match.l0]
    rw [if_neg (by omega), List.drop_eq_nil_of_le (by omega), List.drop_eq_nil_of_le (by omega)]
    rfl
  | succ d ih =>
    intro k i hd hk
    obtain ⟨k, rfl⟩ : ∃ m, k = m + 1 := ⟨k - 1, by omega⟩
    have hx : i < x.length := by omega
    have hy : i < y.length := by omega
    obtain ⟨t, ht, hi⟩ := test_step x[i] y[i] (hs _ (List.getElem_mem hx)) k (by have := hm _ (List.getElem_mem hx); omega)
    simp only [r24_Match.l0]
    rw [if_pos (by omega), if_pos (by omega), if_pos (by omega), get23 x i hx, get23 y i hy, ht, bs, w64 (by omega) (by omega), show (i : Int) + 1 = ((i + 1 : Nat) : Int) by omega, List.drop_eq_getElem_cons hx, List.drop_eq_getElem_cons hy]
    simp only [mt]
    by_cases c : eqv x[i] y[i] = true
    · rw [if_pos (hi.2 c), ih k (i + 1) (by omega) (by omega), c, Bool.true_and]
    · rw [if_neg (fun e => c (hi.1 e))]
      simp [c]
theorem rmatch_is (x y : List S23) (hl : x.length ≤ 1000) (hs : ∀ a ∈ x, a.f2.size ≤ 140737488351232) (k : Nat) (hk : x.length + 2 * rowN x + 3 ≤ k) : r24_Match.f k x y = some (mt x y) := by
  unfold r24_Match.f
  by_cases he : x.length = y.length
  · rw [if_pos (by omega), show (0 : Int) = ((0 : Nat) : Int) from rfl, rmatch_l0 x y he hl hs (rowN x) (rowN_le x) x.length k 0 (by omega) hk, List.drop_zero, List.drop_zero]
  · rw [if_neg (by omega), mt_len he]
def bk (seed : Int) (n : Nat) (key : List S23) : Nat := rhv seed key / 4294967296 % n
theorem bucket_is (h n : Nat) (h0 : h < 18446744073709551616) (n1 : 1 ≤ n) (n2 : n ≤ 4096) : hash_Bucket.f (h : Int) (n : Int) = some ((h / 4294967296 % n : Nat) : Int) := by
  unfold hash_Bucket.f
  have e : IntKind.u64.wrap (n : Int) = n := by rw [u64_wrap]; omega
  rw [if_neg (by omega), e, if_neg (by omega), Int.tmod_eq_emod_of_nonneg (by omega)]
  have e2 : ((h : Int) / 4294967296) % (n : Int) = ((h / 4294967296 % n : Nat) : Int) := by
    rw [Int.natCast_emod, Int.natCast_ediv]
    rfl
  have h3 : h / 4294967296 % n < n := Nat.mod_lt _ (by omega)
  rw [e2]
  generalize h / 4294967296 % n = z at *
  rw [w64 (by omega) (by omega)]
end Go.Proofs.YtcfgjaggccnoaaaDoor.PTableSteps
namespace Go.Proofs.YtcfgjaggccnoaaaDoor.PTableSteps
open Go.RowKit Go.Proofs.YtcfgjaggccnoaaaDoorW.PrintWords Go.Proofs.YtcfgjaggccnoaaaDoorW.PrintLast Go.Proofs.YtcfgjaggccnoaaaDoorW.PrintMore
attribute [local go_sem] max2_int min2_int max_two min_two max_three min_three max_four min_four
set_option linter.unusedVariables false
set_option linter.unusedSimpArgs false
set_option maxRecDepth 100000
set_option maxHeartbeats 4000000
def KOK (l : List S23) : Prop := l.length ≤ 1000 ∧ ∀ y ∈ l, y.f2.size ≤ 140737488351232
def Good (T : Tb) : Prop := ∀ j, j < T.n → T.ch j = (T.ch T.n).filter fun p => bk T.seed T.n p.f0 == j
def Tab (w : World) (base : Nat) (S D : Nat → Prop) (gT : Nat) (seed : Int) (n : Nat) (sl : Bool) (E : List S116) : Prop := ∃ T gB v, TB w base S D gT T gB v ∧ T.seed = seed ∧ T.n = n ∧ T.sl = sl ∧ T.ch T.n = E ∧ Good T
def EOK (E : List S116) : Prop := E.length ≤ 1000 ∧ ∀ p, p ∈ E → KOK p.f0 ∧ KOK p.f1
section
variable {w w1 : World} {base gT : Nat} {S D : Nat → Prop} {seed : Int} {n : Nat} {sl : Bool} {E : List S116}
theorem Tab.below (h : Tab w base S D gT seed n sl E) (hb : Below w.heap.size w w1) : Tab w1 base S D gT seed n sl E := by
  obtain ⟨T, gB, v, h1, h2⟩ := h
  exact ⟨T, gB, v, h1.below hb, h2⟩
theorem Tab.kp {S' : Nat → Prop} (h : Tab w base S D gT seed n sl E) (hk : Kp S' w w1) (hd : ∀ k, D k → ¬ S' k) : Tab w1 base S D gT seed n sl E := by
  obtain ⟨T, gB, v, h1, h2⟩ := h
  exact ⟨T, gB, v, h1.kp hk hd, h2⟩
theorem Tab.dl (h : Tab w base S D gT seed n sl E) : ∀ k, D k → base ≤ k ∧ k < w.heap.size := by
  obtain ⟨T, gB, v, h1, h2⟩ := h
  exact h1.dl
theorem Tab.sd (h : Tab w base S D gT seed n sl E) : ∀ k, S k → D k := by
  obtain ⟨T, gB, v, h1, h2⟩ := h
  exact h1.sD
theorem Tab.n1 (h : Tab w base S D gT seed n sl E) : 1 ≤ n ∧ n ≤ 4096 := by
  obtain ⟨T, gB, v, h1, h2, h3, h4⟩ := h
  subst h3
  exact ⟨h1.n1, h1.n2⟩
def NewT (w : World) (seed buckets : Int) (r : Ending) (w' : World) : Prop := ∃ gT S D, r = .returned (.pointer (some ⟨gT, 0, none⟩)) ∧ Tab w' w.heap.size S D gT seed (nbk buckets) false [] ∧ Below w.heap.size w w'
theorem tab_new (w : World) (seed buckets : Int) : Calls Tryd.prog 19 #[.int .i64 seed, .int .i64 buckets] w (NewT w seed buckets) := by
  refine (new_any seed buckets w).mono ?_
  rintro r w' ⟨gT, gB, S, D, hr, hT, hb⟩
  exact ⟨gT, S, D, hr, ⟨_, _, _, hT, rfl, rfl, rfl, rfl, fun j _ => rfl⟩, hb⟩
theorem bk_lt (seed : Int) (n : Nat) (key : List S23) (h : 1 ≤ n) : bk seed n key < n := Nat.mod_lt _ h
theorem row_hash (seed : Int) {key : List S23} (hk : KOK key) : ∃ k, hash_Row.f k seed key = some (rhv seed key : Int) ∧ rhv seed key < 18446744073709551616 :=
  ⟨_, phv_is seed key hk.2 hk.1 (key.length + 20 + (rkey key).size + 1) (by omega) (by omega)⟩
theorem good_put {T : Tb} (hg : Good T) (p : S116) (hn : 1 ≤ T.n) : Good (T.put (bk T.seed T.n p.f0) p) ∧ (T.put (bk T.seed T.n p.f0) p).ch T.n = T.ch T.n ++ [p] := by
  have hi := bk_lt T.seed T.n p.f0 hn
  have e : (T.put (bk T.seed T.n p.f0) p).ch T.n = T.ch T.n ++ [p] := by
    show (if T.n = T.n then (if T.n = bk T.seed T.n p.f0 then _ else T.ch T.n) ++ [p] else _) = _
    rw [if_pos rfl, if_neg (by omega)]
  refine ⟨fun j hj => ?_, e⟩
  have hj' : j < T.n := hj
  show _ = List.filter (fun q => bk T.seed T.n q.f0 == j) ((T.put (bk T.seed T.n p.f0) p).ch T.n)
  rw [e, List.filter_append, ← hg j hj']
  show (if j = T.n then _ else if j = bk T.seed T.n p.f0 then T.ch (bk T.seed T.n p.f0) ++ [p] else T.ch j) = _
  rw [if_neg (by omega)]
  by_cases c : j = bk T.seed T.n p.f0
  · rw [if_pos c, ← c]
    simp [← c]
  · rw [if_neg c]
    have : (bk T.seed T.n p.f0 == j) = false := beq_eq_false_iff_ne.2 fun e => c e.symm
    simp [this]
def PutT (w : World) (base : Nat) (S D : Nat → Prop) (gT : Nat) (seed : Int) (n : Nat) (E : List S116) (r : Ending) (w' : World) : Prop :=
  r = .returned (.int .i64 0) ∧ ∃ S' D', Tab w' base S' D' gT seed n false E ∧ (∀ k, S' k → S k ∨ w.heap.size ≤ k) ∧ (∀ k, D' k → D k ∨ w.heap.size ≤ k) ∧ Kp S w w' ∧ Below base w w'
theorem tab_put (h : Tab w base S D gT seed n false E) (hT : TabOK w) (hE : E.length ≤ 1000) {key row : List S23} {A A' : Option Addr} {c c' : Nat} (hK : Kd.C k23 w A key.length key) (hc : key.length ≤ c) (hR : Kd.C k23 w A' row.length row) (hc' : row.length ≤ c') (l1 : KOK key) (l2 : row.length ≤ 1000) :
    Calls Tryd.prog 39 #[.pointer (some ⟨gT, 0, none⟩), .slice A key.length c, .slice A' row.length c'] w (PutT w base S D gT seed n (E ++ [⟨key, row⟩])) := by
  obtain ⟨T, gB, v, h1, rfl, rfl, h4, rfl, h6⟩ := h
  obtain ⟨k, hr, hr2⟩ := row_hash T.seed l1
  have hi := bk_lt T.seed T.n key h1.n1
  have hl : (T.ch (bk T.seed T.n key)).length ≤ 1000 := by
    rw [h6 _ hi]
    exact Nat.le_trans (List.length_filter_le _ _) hE
  refine (put_ok h1 hT h4 hK hc hR hc' (Nat.le_trans l1.1 (by decide)) (Nat.le_trans l2 (by decide)) hr (bucket_is _ _ hr2 h1.n1 h1.n2) hi (Nat.le_trans hl (by decide)) (Nat.le_trans hE (by decide))).mono ?_
  rintro r w' ⟨e, S', D', v', t1, t2, t3, t4, t5⟩
  obtain ⟨g1, g2⟩ := good_put h6 ⟨key, row⟩ h1.n1
  exact ⟨e, S', D', ⟨_, gB, v', t1, rfl, rfl, h4, g2, g1⟩, t2, t3, t4, t5⟩
theorem tab_find (h : Tab w base S D gT seed n true E) (hT : TabOK w) (hE : EOK E) {key : List S23} {A : Option Addr} {c : Nat} (hK : Kd.C k23 w A key.length key) (hc : key.length ≤ c) (l1 : KOK key) :
    Calls Tryd.prog 37 #[.pointer (some ⟨gT, 0, none⟩), .slice A key.length c] w (FinD w ((E.filter fun p => mt key p.f0).map (·.f1))) := by
  obtain ⟨T, gB, v, h1, rfl, rfl, h4, rfl, h6⟩ := h
  obtain ⟨k, hr, hr2⟩ := row_hash T.seed l1
  have hi := bk_lt T.seed T.n key h1.n1
  have hl : (T.ch (bk T.seed T.n key)).length ≤ 1000 := by
    rw [h6 _ hi]
    exact Nat.le_trans (List.length_filter_le _ _) hE.1
  have hm : ∀ p, p ∈ T.ch (bk T.seed T.n key) → p.f0.length ≤ 1000 ∧ p.f1.length ≤ 1000 := by
    intro p hp
    rw [h6 _ hi] at hp
    have := hE.2 p (List.mem_filter.1 hp).1
    exact ⟨this.1.1, this.2.1⟩
  have e : (T.ch (bk T.seed T.n key)).filter (fun p => mt key p.f0) = (T.ch T.n).filter fun p => mt key p.f0 := by
    rw [h6 _ hi, List.filter_filter]
    refine List.filter_congr fun p _ => ?_
    by_cases q : mt key p.f0 = true
    · rw [q, ← mt_eq q]
      simp
    · simp [q]
  have := find_any (i := bk T.seed T.n key) (kk := key.length + 5) (pr := mt key) h1 hT h4 hK hc hr (bucket_is _ _ hr2 h1.n1 h1.n2) hi (Nat.le_trans hl (by decide)) hm (fun p _ => match_is key p l1.1 _ (Nat.le_refl _))
  rw [e] at this
  exact this
theorem tab_find_no (h : Tab w base S D gT seed n false E) (A : Option Addr) (m c : Nat) : Calls Tryd.prog 37 #[.pointer (some ⟨gT, 0, none⟩), .slice A m c] w fun r w' => r = .returned (.tuple #[.slice none 0 0, .int .i64 10]) ∧ Below w.heap.size w w' := by
  obtain ⟨T, gB, v, h1, rfl, rfl, h4, rfl, h6⟩ := h
  exact find_no h1 h4 A m c
theorem tab_put_sealed (h : Tab w base S D gT seed n true E) (A A' : Option Addr) (m m' c c' : Nat) : Calls Tryd.prog 39 #[.pointer (some ⟨gT, 0, none⟩), .slice A m c, .slice A' m' c'] w fun r w' => r = .returned (.int .i64 10) ∧ w' = w := by
  obtain ⟨T, gB, v, h1, rfl, rfl, h4, rfl, h6⟩ := h
  exact put_sealed h1 h4 A A' m m' c c'
def SealT (w : World) (base : Nat) (S D : Nat → Prop) (gT : Nat) (seed : Int) (n : Nat) (E : List S116) (r : Ending) (w' : World) : Prop :=
  r = .returned (.int .i64 0) ∧ Tab w' base S D gT seed n true E ∧ Kp S w w' ∧ Below base w w'
theorem tab_seal_no (h : Tab w base S D gT seed n false E) : Calls Tryd.prog 40 #[.pointer (some ⟨gT, 0, none⟩)] w (SealT w base S D gT seed n E) := by
  obtain ⟨T, gB, v, h1, rfl, rfl, h4, rfl, h6⟩ := h
  refine (seal_no h1 h4).mono ?_
  rintro r w' ⟨rfl, rfl⟩
  refine ⟨rfl, ⟨_, gB, v, h1.slt, rfl, rfl, rfl, rfl, h6⟩, ⟨by rw [World.size_setCell]; exact Nat.le_refl _, fun k _ hk => Below.heap_setCell w ⟨gT, 3, none⟩ _ k fun e => hk (e ▸ h1.sT)⟩, (Below.refl _ _).setCell (p := ⟨gT, 3, none⟩) (h1.dl _ (h1.sD _ h1.sT)).1 _⟩
theorem tab_seal_yes (h : Tab w base S D gT seed n true E) : Calls Tryd.prog 40 #[.pointer (some ⟨gT, 0, none⟩)] w fun r w' => r = .returned (.int .i64 10) ∧ w' = w := by
  obtain ⟨T, gB, v, h1, rfl, rfl, h4, rfl, h6⟩ := h
  exact seal_yes h1 h4
theorem tab_len (h : Tab w base S D gT seed n sl E) : Calls Tryd.prog 23 #[.pointer (some ⟨gT, 0, none⟩)] w fun r w' => r = .returned (.int .i64 E.length) ∧ w' = w := by
  obtain ⟨T, gB, v, h1, rfl, rfl, h4, rfl, h6⟩ := h
  exact len_any h1
theorem tab_sealed (h : Tab w base S D gT seed n sl E) : Calls Tryd.prog 32 #[.pointer (some ⟨gT, 0, none⟩)] w fun r w' => r = .returned (.bool sl) ∧ w' = w := by
  obtain ⟨T, gB, v, h1, rfl, rfl, rfl, rfl, h6⟩ := h
  exact sealed_any h1
theorem tab_keys (h : Tab w base S D gT seed n sl E) (hE : EOK E) : Calls Tryd.prog 33 #[.pointer (some ⟨gT, 0, none⟩)] w (KeyD w ((E.filter fun p => whB p.f0).map (·.f0))) := by
  obtain ⟨T, gB, v, h1, rfl, rfl, h4, rfl, h6⟩ := h
  exact keys_any (kk := 1001) (pr := whB) h1 (Nat.le_trans hE.1 (by decide)) (fun p hp => ⟨(hE.2 p hp).1.1, (hE.2 p hp).2.1⟩) (fun p hp => whole_is p hp _ (by omega))
end
end Go.Proofs.YtcfgjaggccnoaaaDoor.PTableSteps
namespace Go.Proofs.YtcfgjaggccnoaaaDoor.PTableSteps
open Go.RowKit Go.Proofs.YtcfgjaggccnoaaaDoorW.PrintWords Go.Proofs.YtcfgjaggccnoaaaDoorW.PrintLast Go.Proofs.YtcfgjaggccnoaaaDoorW.PrintMore
attribute [local go_sem] max2_int min2_int max_two min_two max_three min_three max_four min_four
set_option linter.unusedVariables false
set_option linter.unusedSimpArgs false
set_option maxRecDepth 100000
set_option maxHeartbeats 4000000
section
variable {α : Type} {d : Kd α} {e base : Nat} {w w1 : World} {v : Value} {xs : List α}
theorem R_rng (h : d.R e w base (fun _ => True) v xs) : d.R e w base (fun k => base ≤ k ∧ k < w.heap.size) v xs := Kd.R_mono (Kd.R_bound h) fun k hk => ⟨hk.2.1, hk.2.2.1⟩
theorem R_kp {ok S : Nat → Prop} (h : d.R e w base ok v xs) (hk : Kp S w w1) (hs : ∀ k, ok k → ¬ S k) : d.R e w1 base ok v xs := Kd.R_step h fun k h1 h2 => hk.2 k h2 (hs k h1)
theorem R_C {ok : Nat → Prop} {A : Option Addr} {n c : Nat} (h : d.R e w base ok (.slice A n c) xs) : d.C w A xs.length xs ∧ xs.length ≤ c := by
  obtain ⟨B, b, e, hl, hC⟩ := Kd.R_reads h
  injection e with e1 e2 e3
  subst e1 e3
  exact ⟨hC, hl⟩
end
abbrev bA : ByteArray := ⟨#[97]⟩
abbrev bB : ByteArray := ⟨#[98]⟩
abbrev bE : ByteArray := ⟨#[]⟩
abbrev kOne : List S23 := [⟨1, 1, bE⟩]
abbrev kNul : List S23 := [⟨0, 0, bE⟩]
abbrev rA : List S23 := [⟨2, 0, bA⟩]
abbrev rB : List S23 := [⟨2, 0, bB⟩]
theorem kok1 (a b : Int) (s : ByteArray) (h : s.size ≤ 1) : KOK [⟨a, b, s⟩] := ⟨by simp, fun y hy => by rw [List.mem_singleton.1 hy]; show s.size ≤ _; omega⟩
theorem eok_live : EOK [⟨kOne, rA⟩, ⟨kNul, rB⟩] := ⟨by simp, fun p hp => by
  rcases List.mem_cons.1 hp with rfl | hp
  · exact ⟨kok1 _ _ _ (by decide), kok1 _ _ _ (by decide)⟩
  · rw [List.mem_singleton.1 hp]
    exact ⟨kok1 _ _ _ (by decide), kok1 _ _ _ (by decide)⟩⟩
theorem live_rows1 : (([⟨kOne, rA⟩, ⟨kNul, rB⟩] : List S116).filter fun p => mt kOne p.f0).map (·.f1) = [rA] := by kernel_rfl
theorem live_rows2 : (([⟨kOne, rA⟩, ⟨kNul, rB⟩] : List S116).filter fun p => mt kNul p.f0).map (·.f1) = [] := by kernel_rfl
theorem live_same : r04_Same.f 5 rA rA = some true := by kernel_rfl
theorem ns1 {S S1 : Nat → Prop} {x y : Nat} (z : ∀ k, S k → k < x) (s : ∀ k, S1 k → S k ∨ y ≤ k) (k : Nat) (h1 : x ≤ k) (h2 : k < y) : ¬ S1 k :=
  fun h => (s k h).elim (fun q => by have := z k q; omega) (fun q => by omega)
theorem ns2 {S S1 S2 : Nat → Prop} {x y y2 : Nat} (z : ∀ k, S k → k < x) (s : ∀ k, S1 k → S k ∨ y ≤ k) (s2 : ∀ k, S2 k → S1 k ∨ y2 ≤ k) (hy : y ≤ y2) (k : Nat) (h1 : x ≤ k) (h2 : k < y) : ¬ S2 k :=
  fun h => (s2 k h).elim (fun q => ns1 z s k h1 h2 q) (fun q => by omega)
theorem add0_ (ad : Addr) : ad.add (0 : Int).toNat = ad := by cases ad; simp [Addr.add]
theorem at_one {w : World} {A : Option Addr} {n : Nat} {x : List S23} (hn : 0 < n) (h : Kd.C (Kd.slice 23 k23) w A n [x]) : ∃ ad A0 c0, A = some ad ∧ w.cell? ad = some (.slice A0 x.length c0) ∧ k23.C w A0 x.length x ∧ x.length ≤ c0 := by
  obtain ⟨ad, A0, c0, e, hcell, hl, hC⟩ := at_L3 h 0 (by decide) (by omega)
  have e2 : rd_L3 [x] 0 = x := rfl
  rw [e2] at hcell hl hC
  rw [add0_] at hcell
  exact ⟨ad, A0, c0, e, hcell, hC, hl⟩
theorem drew0_below {w w1 : World} (h : Drawn0 w w1) : Below w.heap.size w w1 := dr_below h
theorem live_any (w : World) (hT : TabOK w) : Calls Tryd.prog 18 #[] w fun r w' => r = .returned (.bool true) ∧ Below w.heap.size w w' := by
  have HT := Lib.hid hT
  clear hT
  go_enter Tryd.func18, Tryd.ntmps18
  go_wp2_with (first
    | ((with_reducible refine gate_callee (f := 19) rfl ?_); refine goesL_ (some 8) rfl rfl Tryd.func19 (by kernel_rfl) rfl #[.int .i64 1, .int .i64 2] rfl (by (try simp only [List.map_toArray, List.map_cons, List.map_nil]); first | done | rfl) ?_; refine (tab_new w 1 2).mono ?_; rintro r' w1 ⟨gT, S, D, rfl, t1, b1⟩; refine ⟨_, rfl, ?_⟩; simp only [Act.put, sa_, sz_, ss_]; have T1 := Lib.hid t1; have B1 := Lib.hid b1; clear t1 b1; have Z0 := Lib.hid (show ∀ k, S k → k < w1.heap.size from fun k hs => (T1.out.dl k (T1.out.sd k hs)).2))
    | ((with_reducible refine gate_dst (N := 12) rfl ?_); refine Kd.R_lit k23 _ 23 ?hg (N := 12) ?hd (xs := ([(⟨1, 1, bE⟩ : S23)] : List S23)) (inner := [.int .i64 1, .int .i64 1, .string bE]) (ok := fun _ => True) (okp := fun _ => True) ?hr ?hp (fun _ hk => hk) trivial (Below.refl _ _) (Nat.le_refl _) (by simp) ?_; (case hd => rfl); (case hg => rfl); (case hr => first | (go_simp; done) | (go_simp; rfl)); (case hp => exact (Reps.c3 (show Kd.M k23 _ _ _ (⟨1, 1, bE⟩ : S23) [.int .i64 1, .int .i64 1, .string bE] from (k23_mkM _ _ _ (⟨1, 1, bE⟩ : S23) )) (Reps.none _ _))); intro v_ w2 hr_ hb_ hg_ hn_; clear hg_ hn_; obtain ⟨A2, c2, hv_⟩ := Kd.R_slice hr_; subst hv_; have R2 := Lib.hid (R_rng hr_); have B2 := Lib.hid hb_; clear hr_ hb_; simp only [Act.put, sa_, sz_, ss_])
    | ((with_reducible refine gate_dst (N := 14) rfl ?_); refine Kd.R_lit k23 _ 23 ?hg (N := 14) ?hd (xs := ([(⟨2, 0, bA⟩ : S23)] : List S23)) (inner := [.int .i64 2, .int .i64 0, .string bA]) (ok := fun _ => True) (okp := fun _ => True) ?hr ?hp (fun _ hk => hk) trivial (Below.refl _ _) (Nat.le_refl _) (by simp) ?_; (case hd => rfl); (case hg => rfl); (case hr => first | (go_simp; done) | (go_simp; rfl)); (case hp => exact (Reps.c3 (show Kd.M k23 _ _ _ (⟨2, 0, bA⟩ : S23) [.int .i64 2, .int .i64 0, .string bA] from (k23_mkM _ _ _ (⟨2, 0, bA⟩ : S23) )) (Reps.none _ _))); intro v_ w3 hr_ hb_ hg_ hn_; clear hg_ hn_; obtain ⟨A3, c3, hv_⟩ := Kd.R_slice hr_; subst hv_; have R3 := Lib.hid (R_rng hr_); have B3 := Lib.hid hb_; clear hr_ hb_; simp only [Act.put, sa_, sz_, ss_])
    | ((with_reducible refine gate_callee (f := 39) rfl ?_); refine goesL_ (some 18) rfl rfl Tryd.func39 (by kernel_rfl) rfl #[.pointer (some ⟨gT, 0, none⟩), .slice A2 kOne.length c2, .slice A3 rA.length c3] rfl (by (try simp only [List.map_toArray, List.map_cons, List.map_nil]); first | done | rfl) ?_; refine (tab_put (key := kOne) (row := rA) ((T1.out.below B2.out).below B3.out) (((HT.out.below B1.out).below B2.out).below B3.out) (by simp) (R_C (Kd.R_below R2.out B3.out)).1 (R_C R2.out).2 (R_C R3.out).1 (R_C R3.out).2 (kok1 _ _ _ (by decide)) (by simp)).mono ?_; rintro r' w4 ⟨rfl, S1, D1, t4, s4, d4, k4, b4⟩; refine ⟨_, rfl, ?_⟩; simp only [Act.put, sa_, sz_, ss_]; have T4 := Lib.hid t4; have S4 := Lib.hid s4; have BW4 := Lib.hid ((below_step (below_step B1.out B2.out) B3.out).trans b4); have R2b := Lib.hid (R_kp (Kd.R_below R2.out B3.out) k4 (fun k hk hs => by have h1 := Z0.out k hs; have h2 := hk.1; omega)); have R3b := Lib.hid (R_kp R3.out k4 (fun k hk hs => by have h1 := Z0.out k hs; have h2 := hk.1; have h3 := B2.out.size; omega)); have Z1 := Lib.hid (show w3.heap.size ≤ w4.heap.size from k4.1); clear t4 s4 d4 k4 b4)
    | ((with_reducible refine gate_dst (N := 21) rfl ?_); refine Kd.R_lit k23 _ 23 ?hg (N := 21) ?hd (xs := ([(⟨0, 0, bE⟩ : S23)] : List S23)) (inner := [.int .i64 0, .int .i64 0, .string bE]) (ok := fun _ => True) (okp := fun _ => True) ?hr ?hp (fun _ hk => hk) trivial (Below.refl _ _) (Nat.le_refl _) (by simp) ?_; (case hd => rfl); (case hg => rfl); (case hr => first | (go_simp; done) | (go_simp; rfl)); (case hp => exact (Reps.c3 (show Kd.M k23 _ _ _ (⟨0, 0, bE⟩ : S23) [.int .i64 0, .int .i64 0, .string bE] from (k23_mkM _ _ _ (⟨0, 0, bE⟩ : S23) )) (Reps.none _ _))); intro v_ w5 hr_ hb_ hg_ hn_; clear hg_ hn_; obtain ⟨A5, c5, hv_⟩ := Kd.R_slice hr_; subst hv_; have R5 := Lib.hid (R_rng hr_); have B5 := Lib.hid hb_; clear hr_ hb_; simp only [Act.put, sa_, sz_, ss_])
    | ((with_reducible refine gate_dst (N := 23) rfl ?_); refine Kd.R_lit k23 _ 23 ?hg (N := 23) ?hd (xs := ([(⟨2, 0, bB⟩ : S23)] : List S23)) (inner := [.int .i64 2, .int .i64 0, .string bB]) (ok := fun _ => True) (okp := fun _ => True) ?hr ?hp (fun _ hk => hk) trivial (Below.refl _ _) (Nat.le_refl _) (by simp) ?_; (case hd => rfl); (case hg => rfl); (case hr => first | (go_simp; done) | (go_simp; rfl)); (case hp => exact (Reps.c3 (show Kd.M k23 _ _ _ (⟨2, 0, bB⟩ : S23) [.int .i64 2, .int .i64 0, .string bB] from (k23_mkM _ _ _ (⟨2, 0, bB⟩ : S23) )) (Reps.none _ _))); intro v_ w6 hr_ hb_ hg_ hn_; clear hg_ hn_; obtain ⟨A6, c6, hv_⟩ := Kd.R_slice hr_; subst hv_; have R6 := Lib.hid (R_rng hr_); have B6 := Lib.hid hb_; clear hr_ hb_; simp only [Act.put, sa_, sz_, ss_])
    | ((with_reducible refine gate_callee (f := 39) rfl ?_); refine goesL_ (some 24) rfl rfl Tryd.func39 (by kernel_rfl) rfl #[.pointer (some ⟨gT, 0, none⟩), .slice A5 kNul.length c5, .slice A6 rB.length c6] rfl (by (try simp only [List.map_toArray, List.map_cons, List.map_nil]); first | done | rfl) ?_; refine (tab_put (key := kNul) (row := rB) ((T4.out.below B5.out).below B6.out) (((HT.out.below BW4.out).below B5.out).below B6.out) (by simp) (R_C (Kd.R_below R5.out B6.out)).1 (R_C R5.out).2 (R_C R6.out).1 (R_C R6.out).2 (kok1 _ _ _ (by decide)) (by simp)).mono ?_; rintro r' w7 ⟨rfl, S2, D2, t7, s7, d7, k7, b7⟩; refine ⟨_, rfl, ?_⟩; simp only [Act.put, sa_, sz_, ss_]; have T7 := Lib.hid t7; have S7 := Lib.hid s7; have BW7 := Lib.hid ((below_step (below_step BW4.out B5.out) B6.out).trans b7); have R2c := Lib.hid (R_kp (Kd.R_below (Kd.R_below R2b.out B5.out) B6.out) k7 (fun k hk => ns1 Z0.out S4.out k hk.1 (Nat.lt_of_lt_of_le hk.2 B3.out.size))); have R3c := Lib.hid (R_kp (Kd.R_below (Kd.R_below R3b.out B5.out) B6.out) k7 (fun k hk => ns1 Z0.out S4.out k (Nat.le_trans B2.out.size hk.1) hk.2)); have Z2 := Lib.hid (show w3.heap.size ≤ w6.heap.size from Nat.le_trans Z1.out (Nat.le_trans B5.out.size B6.out.size)); clear t7 s7 d7 k7 b7)
    | ((with_reducible refine gate_callee (f := 40) rfl ?_); refine goesL_ (some 26) rfl rfl Tryd.func40 (by kernel_rfl) rfl #[.pointer (some ⟨gT, 0, none⟩)] rfl (by (try simp only [List.map_toArray, List.map_cons, List.map_nil]); first | done | rfl) ?_; refine (tab_seal_no T7.out).mono ?_; rintro r' w8 ⟨rfl, t8, k8, b8⟩; refine ⟨_, rfl, ?_⟩; simp only [Act.put, sa_, sz_, ss_]; have T8 := Lib.hid t8; have BW8 := Lib.hid (BW7.out.trans b8); have R2d := Lib.hid (R_kp R2c.out k8 (fun k hk => ns2 Z0.out S4.out S7.out Z2.out k hk.1 (Nat.lt_of_lt_of_le hk.2 B3.out.size))); have R3d := Lib.hid (R_kp R3c.out k8 (fun k hk => ns2 Z0.out S4.out S7.out Z2.out k (Nat.le_trans B2.out.size hk.1) hk.2)); clear t8 k8 b8)
    | ((with_reducible refine gate_callee (f := 37) rfl ?_); refine goesL_ (some 30) rfl rfl Tryd.func37 (by kernel_rfl) rfl #[.pointer (some ⟨gT, 0, none⟩), .slice A2 kOne.length c2] rfl (by (try simp only [List.map_toArray, List.map_cons, List.map_nil]); first | done | rfl) ?_; refine (tab_find (key := kOne) T8.out (HT.out.below BW8.out) eok_live (R_C R2d.out).1 (R_C R2d.out).2 (kok1 _ _ _ (by decide))).mono ?_; rintro r' w9 ⟨v9, rfl, r9, b9⟩; refine ⟨_, rfl, ?_⟩; simp only [Act.put, sa_, sz_, ss_]; have R9 := Lib.hid (live_rows1 ▸ r9 : Kd.R (Kd.slice 23 k23) 24 w9 w8.heap.size (fun _ => True) v9 [rA]); have B9 := Lib.hid b9; obtain ⟨A9, c9, hv9⟩ := Kd.R_slice R9.out; subst hv9; clear r9 b9)
    | ((with_reducible refine gate_dst (N := 36) rfl ?_); refine Kd.R_lit k23 _ 23 ?hg (N := 36) ?hd (xs := ([(⟨0, 0, bE⟩ : S23)] : List S23)) (inner := [.int .i64 0, .int .i64 0, .string bE]) (ok := fun _ => True) (okp := fun _ => True) ?hr ?hp (fun _ hk => hk) trivial (Below.refl _ _) (Nat.le_refl _) (by simp) ?_; (case hd => rfl); (case hg => rfl); (case hr => first | (go_simp; done) | (go_simp; rfl)); (case hp => exact (Reps.c3 (show Kd.M k23 _ _ _ (⟨0, 0, bE⟩ : S23) [.int .i64 0, .int .i64 0, .string bE] from (k23_mkM _ _ _ (⟨0, 0, bE⟩ : S23) )) (Reps.none _ _))); intro v_ w10 hr_ hb_ hg_ hn_; clear hg_ hn_; obtain ⟨A10, c10, hv_⟩ := Kd.R_slice hr_; subst hv_; have R10 := Lib.hid (R_rng hr_); have B10 := Lib.hid hb_; clear hr_ hb_; simp only [Act.put, sa_, sz_, ss_])
    | ((with_reducible refine gate_callee (f := 37) rfl ?_); refine goesL_ (some 37) rfl rfl Tryd.func37 (by kernel_rfl) rfl #[.pointer (some ⟨gT, 0, none⟩), .slice A10 kNul.length c10] rfl (by (try simp only [List.map_toArray, List.map_cons, List.map_nil]); first | done | rfl) ?_; refine (tab_find (key := kNul) ((T8.out.below B9.out).below B10.out) (((HT.out.below BW8.out).below B9.out).below B10.out) eok_live (R_C R10.out).1 (R_C R10.out).2 (kok1 _ _ _ (by decide))).mono ?_; rintro r' w11 ⟨v11, rfl, r11, b11⟩; refine ⟨_, rfl, ?_⟩; simp only [Act.put, sa_, sz_, ss_]; have R11 := Lib.hid (live_rows2 ▸ r11 : Kd.R (Kd.slice 23 k23) 24 w11 w10.heap.size (fun _ => True) v11 []); have B11 := Lib.hid b11; obtain ⟨A11, c11, hv11⟩ := Kd.R_slice R11.out; subst hv11; clear r11 b11)
    | ((with_reducible refine gate_callee (f := 38) rfl ?_); refine goesL_ (some 41) rfl rfl Tryd.func38 (by kernel_rfl) rfl #[.int .i64 0] rfl (by (try simp only [List.map_toArray, List.map_cons, List.map_nil]); first | done | rfl) ?_; refine (w34_code.calls 0 0 w11 rfl).mono ?_; rintro r' w12 ⟨rfl, d12⟩; refine ⟨_, rfl, ?_⟩; simp only [Act.put, sa_, sz_, ss_]; have B12 := Lib.hid (drew0_below d12); clear d12)
    | ((with_reducible refine gate_callee (f := 38) rfl ?_); (refine gate_guard (by rfl) ?_; dsimp only); refine goesL_ (some 45) rfl rfl Tryd.func38 (by kernel_rfl) rfl #[.int .i64 0] rfl (by (try simp only [List.map_toArray, List.map_cons, List.map_nil]); first | done | rfl) ?_; refine (w34_code.calls 0 0 w12 rfl).mono ?_; rintro r' w13 ⟨rfl, d13⟩; refine ⟨_, rfl, ?_⟩; simp only [Act.put, sa_, sz_, ss_]; have B13 := Lib.hid (drew0_below d13); have R9e := Lib.hid (Kd.R_below (Kd.R_below (Kd.R_below (Kd.R_below R9.out B10.out) B11.out) B12.out) B13.out); obtain ⟨ad, A0, c0, e0, hc13, hC0⟩ := at_one (by decide) (R_C R9e.out).1; subst e0; have HC0 := Lib.hid hC0; clear d13 hC0)
    | ((with_reducible refine gate_callee (f := 26) rfl ?_); (refine gate_guard (by rfl) ?_; dsimp only); refine goesL_ (some 58) rfl rfl Tryd.func26 (by kernel_rfl) rfl #[.slice A0 rA.length c0, .slice A3 rA.length c3] rfl (by (try simp only [List.map_toArray, List.map_cons, List.map_nil]); first | done | rfl) ?_; refine (r04_Same.calls 5 A0 c0 rA A3 c3 rA true w13 HC0.out.1 HC0.out.2 (R_C (Kd.R_below (Kd.R_below (Kd.R_below (Kd.R_below (Kd.R_below R3d.out B9.out) B10.out) B11.out) B12.out) B13.out)).1 (R_C R3d.out).2 live_same).mono ?_; rintro r' w14 ⟨rfl, b14⟩; refine ⟨_, rfl, ?_⟩; simp only [Act.put, sa_, sz_, ss_]; have B14 := Lib.hid b14; clear b14))
  go_ret
  exact ⟨rfl, below_step (below_step (below_step (below_step (below_step (below_step BW8.out B9.out) B10.out) B11.out) B12.out) B13.out) B14.out⟩
end Go.Proofs.YtcfgjaggccnoaaaDoor.PTableSteps
namespace Go.Proofs.YtcfgjaggccnoaaaDoor.Open
open Go.RowKit Go.Proofs.YtcfgjaggccnoaaaDoorW.PrintWords
structure Opens {α : Type} (P : Program) (t : TypeId) (K : Kd α) (wf : α → Prop) (n : Nat) : Prop where
  opened : ∀ {H : Type} {enc : TypeId × Value → H} {w : World} {cs : List Value} {x : DataW H × List MemPlace},
    DataW.trod enc P w 0 (fun _ => true) true n t cs = some x → (x.1.weights P t).all (· ≤ reachBytes) = true → ∃ y, K.K w y cs ∧ wf y
structure OpensF {α : Type} (P : Program) (fs : List Field) (off : Nat) (K : Kd α) (wf : α → Prop) (n : Nat) : Prop where
  opened : ∀ {H : Type} {enc : TypeId × Value → H} {w : World} {cs : List Value} {xs : List (DataW H × List MemPlace)},
    off + K.sz ≤ cs.length → xs.length = fs.length →
    (∀ (i : Nat) (f : Field), fs[i]? = some f → DataW.trod enc P w 0 (fun _ => true) true n f.type ((cs.drop f.offset).take (P.cellsOf f.type)) = xs[i]?) →
    (DataW.weightsEach P (fs.map (·.type)) (xs.map (·.1))).all (· ≤ reachBytes) = true → ∃ y, K.K w y ((cs.drop off).take K.sz) ∧ wf y
theorem opens_int {P : Program} {t : TypeId} {k : IntKind} (ht : P.underlying t = some (.int k)) (n : Nat) : Opens P t (Kd.int k) (fun x => (Lit.int k x).wf = true) n := by
  refine ⟨?_⟩
  intro H enc w cs x h _
  obtain ⟨m, rfl, _, hw⟩ := DataW.trod_int ht h
  exact ⟨m, rfl, hw⟩
theorem opens_string {P : Program} {t : TypeId} (ht : P.underlying t = some .string) (n : Nat) : Opens P t Kd.string (fun s => s.size ≤ 140737488351232) n := by
  refine ⟨?_⟩
  intro H enc w cs x h hs
  obtain ⟨s, rfl, rfl, _⟩ := DataW.trod_string ht h
  refine ⟨s, rfl, ?_⟩
  have := List.all_eq_true.1 hs s.data.toList.length (by simp [DataW.weights])
  have h2 : s.data.toList.length ≤ reachBytes := by simpa using this
  rw [Array.length_toList] at h2
  exact h2
theorem weights_all {H : Type} {P : Program} {e : TypeId} : ∀ {l : List (DataW H)}, (DataW.weightsAll P e l).all (· ≤ reachBytes) = true → ∀ d ∈ l, (d.weights P e).all (· ≤ reachBytes) = true
  | [], _, d, hd => by cases hd
  | a :: r, h, d, hd => by
    simp only [DataW.weightsAll, List.all_append, Bool.and_eq_true] at h
    rcases List.mem_cons.1 hd with rfl | hd
    · exact h.1
    · exact weights_all h.2 d hd
theorem list_of {α β : Type} (R : α → β → Prop) : ∀ (xs : List α), (∀ x ∈ xs, ∃ y, R x y) → ∃ ys : List β, ys.length = xs.length ∧ ∀ (i : Nat) (x : α), xs[i]? = some x → ∃ y, ys[i]? = some y ∧ R x y
  | [], _ => ⟨[], rfl, by simp⟩
  | a :: r, h => by
    obtain ⟨y, hy⟩ := h a (by simp)
    obtain ⟨ys, hl, hr⟩ := list_of R r (fun x hx => h x (by simp [hx]))
    refine ⟨y :: ys, by simp [hl], ?_⟩
    intro i x hx
    cases i with
    | zero => simp at hx; subst hx; exact ⟨y, by simp, hy⟩
    | succ i => simp at hx; simpa using hr i x hx
theorem opens_slice {α : Type} {P : Program} {t e : TypeId} {K : Kd α} {wf : α → Prop} {B : Nat} (ht : P.underlying t = some (.slice e)) (hc : P.cellsOf e = K.sz) (hB : P.bytesOf e = B) (n : Nat) (he : Opens P e K wf n) :
    Opens P t (Kd.slice e K) (fun l => l.length * B ≤ 140737488351232 ∧ ∀ x ∈ l, wf x) (n + 1) := by
  refine ⟨?_⟩
  intro H enc w cs x h hs
  rcases DataW.trod_slice ht h with ⟨rfl, _⟩ | ⟨a, len, cap, elems, rest, m, hm, rfl, rfl, hb, hl, hcap, hlen, hel, _, _⟩
  · exact ⟨[], ⟨none, 0, rfl, by simp, rfl, by simp, by simp⟩, by simp, by simp⟩
  · obtain rfl : n = m := by omega
    simp only [DataW.weights, ht] at hs
    have hs2 : (elems.length + rest.length) * B ≤ 140737488351232 ∧ (DataW.weightsAll P e (elems.map (·.1))).all (· ≤ reachBytes) = true := by
      rw [List.all_cons, List.all_append] at hs
      simp only [Bool.and_eq_true, decide_eq_true_eq, List.length_map] at hs
      rw [hB] at hs
      exact ⟨hs.1, hs.2.1⟩
    have each : ∀ (i : Nat) (y : DataW H × List MemPlace), elems[i]? = some y → ∃ cs, (w.cells? 0 (a.add (i * K.sz)) K.sz) = some cs ∧ ∃ z, K.K w z cs ∧ wf z := by
      intro i y hy
      have hi : i < len := by
        have := (List.getElem?_eq_some_iff.1 hy).1
        omega
      have h1 := hel i hi
      rw [hy, hc, Option.bind_eq_some_iff] at h1
      obtain ⟨c, hcs, h2⟩ := h1
      have hw := weights_all hs2.2 y.1 (List.mem_map_of_mem (List.mem_of_getElem? hy))
      exact ⟨c, hcs, he.opened h2 hw⟩
    obtain ⟨ys, hyl, hys⟩ := list_of (fun (i : Nat) (z : α) => ∃ cs, (w.cells? 0 (a.add (i * K.sz)) K.sz) = some cs ∧ K.K w z cs ∧ wf z) (List.range len) (by
      intro i hi
      have hi2 : i < elems.length := by rw [hlen]; exact List.mem_range.1 hi
      obtain ⟨c, h1, z, h2, h3⟩ := each i elems[i] (List.getElem?_eq_getElem hi2)
      exact ⟨z, c, h1, h2, h3⟩)
    rw [List.length_range] at hyl
    have got : ∀ (j : Nat) (p : α), ys[j]? = some p → ∃ cs, (w.cells? 0 (a.add (j * K.sz)) K.sz) = some cs ∧ K.K w p cs ∧ wf p := by
      intro j p hp
      have hj : j < len := by
        have := (List.getElem?_eq_some_iff.1 hp).1
        omega
      obtain ⟨q, hq, hR⟩ := hys j j (by rw [List.getElem?_range hj])
      rw [hp] at hq
      obtain rfl := Option.some.inj hq
      exact hR
    refine ⟨ys, ⟨some a, cap, by rw [hyl], by omega, hyl ▸ rfl, ?_, ?_⟩, ?_, ?_⟩
    · unfold maxLen at hcap
      omega
    · intro _
      refine ⟨a, rfl, ?_⟩
      intro j p hp
      obtain ⟨c, h1, h2, _⟩ := got j p hp
      obtain ⟨_, hl2, hcell⟩ := _root_.Go.World.cells?_some h1
      refine ⟨c, hl2, h2, ?_⟩
      intro i u hu
      have hi : i < K.sz := by
        have := (List.getElem?_eq_some_iff.1 hu).1
        omega
      have := hcell i hi
      rw [Addr.add_add] at this
      rw [this, hu]
    · have : len * B ≤ (elems.length + rest.length) * B := Nat.mul_le_mul_right _ (by omega)
      rw [hyl]
      omega
    · intro x hx
      obtain ⟨j, hj⟩ := List.getElem?_of_mem hx
      obtain ⟨_, _, _, h3⟩ := got j x hj
      exact h3
theorem opensF_one {α : Type} {P : Program} {f : Field} {off : Nat} {K : Kd α} {wf : α → Prop} (ho : f.offset = off) (hc : P.cellsOf f.type = K.sz) (n : Nat) (h : Opens P f.type K wf n) : OpensF P [f] off K wf n := by
  refine ⟨?_⟩
  intro H enc w cs xs _ hx ht hs
  match xs, hx with
  | [y], _ =>
    have := ht 0 f rfl
    rw [ho, hc] at this
    simp only [List.map_cons, List.map_nil, DataW.weightsEach, List.append_nil] at hs
    exact h.opened this hs
theorem opensF_cons {α β : Type} {P : Program} {f : Field} {fs : List Field} {off : Nat} {K : Kd α} {L : Kd β} {wf : α → Prop} {wg : β → Prop} (ho : f.offset = off) (hc : P.cellsOf f.type = K.sz) (n : Nat) (h : Opens P f.type K wf n)
    (r : OpensF P fs (off + K.sz) L wg n) : OpensF P (f :: fs) off (Kd.pair K L) (fun x => wf x.1 ∧ wg x.2) n := by
  refine ⟨?_⟩
  intro H enc w cs xs hl hx ht hs
  have hsz : (Kd.pair K L).sz = K.sz + L.sz := rfl
  rw [hsz] at hl
  match xs, hx with
  | y :: ys, hx =>
    have h0 := ht 0 f rfl
    rw [ho, hc] at h0
    simp only [List.map_cons, DataW.weightsEach, List.all_append, Bool.and_eq_true] at hs
    obtain ⟨a, ha, wa⟩ := h.opened h0 hs.1
    obtain ⟨b, hb, wb⟩ := r.opened (cs := cs) (xs := ys) (by omega) (by simpa using hx) (fun i g hg => by simpa using ht (i + 1) g (by simpa using hg)) hs.2
    refine ⟨(a, b), ⟨_, _, ?_, ha, hb⟩, wa, wb⟩
    rw [hsz, List.take_add, List.drop_drop]
theorem opens_struct {α β : Type} {P : Program} {t : TypeId} {fs : Array Field} {L : Kd β} {wf : β → Prop} (g : α → β) (gi : β → α) (hg : ∀ b, g (gi b) = b) (ht : P.underlying t = some (.struct fs)) (hc : P.cellsOf t = L.sz) (n : Nat)
    (h : OpensF P fs.toList 0 L wf n) : Opens P t (Kd.iso L g) (fun x => wf (g x)) (n + 1) := by
  refine ⟨?_⟩
  intro H enc w cs x hx hs
  obtain ⟨xs, m, hm, rfl, hl, hlen, hf⟩ := DataW.trod_struct ht hx
  obtain rfl : n = m := by omega
  simp only [DataW.weights, ht] at hs
  obtain ⟨b, hb, wb⟩ := h.opened (cs := cs) (xs := xs) (by rw [hl, hc]; omega) (by simpa using hlen) (fun i f hfi => hf i f (by simpa using hfi)) hs
  have e : (cs.drop 0).take L.sz = cs := by rw [List.drop_zero, List.take_of_length_le (by omega)]
  rw [e] at hb
  refine ⟨gi b, ?_, by show wf (g (gi b)); rw [hg]; exact wb⟩
  show L.K w (g (gi b)) cs
  rw [hg]
  exact hb
theorem Opens.imp {α : Type} {P : Program} {t : TypeId} {K L : Kd α} {wf wg : α → Prop} {n : Nat} (h : Opens P t K wf n) (hk : ∀ w x cs, K.K w x cs → L.K w x cs) (hi : ∀ x, wf x → wg x) : Opens P t L wg n := by
  refine ⟨?_⟩
  intro H enc w cs x hx hs
  obtain ⟨y, h1, h2⟩ := h.opened hx hs
  exact ⟨y, hk _ _ _ h1, hi _ h2⟩
theorem opens_zero {α : Type} (P : Program) (t : TypeId) (K : Kd α) (wf : α → Prop) : Opens P t K wf 0 := by
  refine ⟨?_⟩
  intro H enc w cs x h _
  simp [DataW.trod] at h
theorem opens_arg {α : Type} {P : Program} {t : TypeId} {K : Kd α} {wf : α → Prop} (h : ∀ n, Opens P t K wf n) {H : Type} {enc : TypeId × Value → H} {w : World} {v : Value} {d : DataW H} {ps : List MemPlace} {ts : List TypeId} {ds : List (DataW H)} {j : Nat}
    (hsz : (DataW.weightsEach P ts ds).all (· ≤ reachBytes) = true) (hj : ts[j]? = some t) (hd : ds[j]? = some d) (hr : DataW.Trod enc P w 0 (fun _ => true) true t v d ps) : ∃ y, K.K w y v.cells.toList ∧ wf y := by
  obtain ⟨n, hn⟩ := hr
  refine (h n).opened hn ?_
  rw [List.all_eq_true]
  intro m hm
  exact List.all_eq_true.1 hsz m (DataW.weights_mem_each hj hd m hm)
end Go.Proofs.YtcfgjaggccnoaaaDoor.Open
namespace Go.Proofs.YtcfgjaggccnoaaaDoor.PTableSteps
open Go.RowKit Go.Proofs.YtcfgjaggccnoaaaDoorW.PrintWords Go.Proofs.YtcfgjaggccnoaaaDoorW.PrintLast Go.Proofs.YtcfgjaggccnoaaaDoorW.PrintMore
attribute [local go_sem] max2_int min2_int max_two min_two max_three min_three max_four min_four
set_option linter.unusedVariables false
set_option linter.unusedSimpArgs false
set_option maxRecDepth 100000
set_option maxHeartbeats 4000000
theorem k23_heap : Kd.Heap k23 := Kd.heap_iso _ (Kd.heap_pair (Kd.heap_int .i64) (Kd.heap_pair (Kd.heap_int .i64) Kd.heap_string))
def Wf23 (x : S23) : Prop := (Lit.int .i64 x.f0).wf = true ∧ (Lit.int .i64 x.f1).wf = true ∧ x.f2.size ≤ 140737488351232
theorem opens23 : ∀ n, Open.Opens Tryd.prog 23 k23 Wf23 n
  | 0 => Open.opens_zero _ _ _ _
  | n + 1 => (Open.opens_struct (t := 23) (L := (Kd.pair (Kd.int .i64) (Kd.pair (Kd.int .i64) Kd.string))) (fun x : S23 => (x.f0, x.f1, x.f2)) (fun b => (⟨b.1, b.2.1, b.2.2⟩ : S23)) (fun _ => rfl) Tryd.underlying23 (by kernel_rfl) n (Open.opensF_cons rfl (by kernel_rfl) n ((Open.opens_int Tryd.underlying3) n) (Open.opensF_cons rfl (by kernel_rfl) n ((Open.opens_int Tryd.underlying3) n) (Open.opensF_one rfl (by kernel_rfl) n ((Open.opens_string Tryd.underlying9) n))))).imp (fun _ _ _ h => h) (fun _ h => h)
end Go.Proofs.YtcfgjaggccnoaaaDoor.PTableSteps
namespace Go.Proofs.YtcfgjaggccnoaaaDoor.PTableSteps
open Go.RowKit Go.Proofs.YtcfgjaggccnoaaaDoorW.PrintWords Go.Proofs.YtcfgjaggccnoaaaDoorW.PrintLast Go.Proofs.YtcfgjaggccnoaaaDoorW.PrintMore
attribute [local go_sem] max2_int min2_int max_two min_two max_three min_three max_four min_four
set_option linter.unusedVariables false
set_option linter.unusedSimpArgs false
set_option maxRecDepth 100000
set_option maxHeartbeats 4000000
section
variable {w : World} {base gT : Nat} {S D : Nat → Prop} {seed : Int} {n : Nat} {E : List S116} {A0 A1 : Option Addr} {n0 n1 c0 c1 : Nat} {key row : List S23}
def NoD (w : World) (err : Int) (r : Ending) (w' : World) : Prop := r = .returned (.tuple #[.slice none 0 0, .int .i64 err]) ∧ Below w.heap.size w w'
theorem do_find (h : Tab w base S D gT seed n true E) (hT : TabOK w) (hE : EOK E) (hK : Kd.C k23 w A0 key.length key) (hc : key.length ≤ c0) (l1 : KOK key) :
    Calls Tryd.prog 20 #[.pointer (some ⟨gT, 0, none⟩), .agg #[.int .i64 2, .slice A0 key.length c0, .slice A1 n1 c1]] w (FinD w ((E.filter fun p => mt key p.f0).map (·.f1))) := by
  have H := Lib.hid h; have HT := Lib.hid hT; have HE := Lib.hid hE; have HK := Lib.hid (And.intro hK hc); have L1 := Lib.hid l1
  clear h hT hE hK hc l1
  go_enter Tryd.func20, Tryd.ntmps20
  go_wp2_with (first
    | ((with_reducible refine gate_dst (N := 3) rfl ?_); refine box_event ?hg (N := 3) ?hd (cs := #[.int .i64 2, .slice A0 key.length c0, .slice A1 n1 c1]) (t := 39) ?hr ?_; (case hd => rfl); (case hg => rfl); (case hr => first | (go_simp; done) | (go_simp; rfl)); intro g2 hg_ w1 hb_ hl_; have B1 := Lib.hid hl_; have G1 := Lib.hid hb_; obtain ⟨s0, s1, s2, f0, f1, f2⟩ := bw3_ hb_; clear hb_ hl_ hg_; simp only [Act.put, sa_, sz_, ss_])
    | ((with_reducible refine gate_callee (f := 37) rfl ?_); refine goesL_ (some 15) rfl rfl Tryd.func37 (by kernel_rfl) rfl #[.pointer (some ⟨gT, 0, none⟩), .slice A0 key.length c0] rfl (by (try simp only [List.map_toArray, List.map_cons, List.map_nil]); first | done | rfl) ?_; refine (tab_find (H.out.below B1.out) (HT.out.below B1.out) HE.out (Kd.C_below HK.out.1 B1.out) HK.out.2 L1.out).mono ?_; rintro r' w2 ⟨v2, rfl, r2, b2⟩; refine ⟨_, rfl, ?_⟩; simp only [Act.put, sa_, sz_, ss_]; have R2 := Lib.hid r2; have B2 := Lib.hid b2; obtain ⟨A2, c2, hv2⟩ := Kd.R_slice R2.out; subst hv2; clear r2 b2 s0 s1 s2 f0 f1 f2)
    | ((with_reducible refine gate_callee (f := 38) rfl ?_); refine goesL_ (some 20) rfl rfl Tryd.func38 (by kernel_rfl) rfl #[.int .i64 0] rfl (by (try simp only [List.map_toArray, List.map_cons, List.map_nil]); first | done | rfl) ?_; refine (w34_code.calls 0 0 w2 rfl).mono ?_; rintro r' w3 ⟨rfl, d3⟩; refine ⟨_, rfl, ?_⟩; simp only [Act.put, sa_, sz_, ss_]; have B3 := Lib.hid (dr_below d3); clear d3))
  go_ret2
  have R3 := Kd.R_lower (Kd.R_below R2.out B3.out) B1.out.size
  rw [List.length_map] at R3
  exact ⟨_, rfl, R3, below_step (below_step B1.out B2.out) B3.out⟩
theorem do_find_no (h : Tab w base S D gT seed n false E) (m : Nat) :
    Calls Tryd.prog 20 #[.pointer (some ⟨gT, 0, none⟩), .agg #[.int .i64 2, .slice A0 m c0, .slice A1 n1 c1]] w (NoD w 10) := by
  have H := Lib.hid h
  clear h
  go_enter Tryd.func20, Tryd.ntmps20
  go_wp2_with (first
    | ((with_reducible refine gate_dst (N := 3) rfl ?_); refine box_event ?hg (N := 3) ?hd (cs := #[.int .i64 2, .slice A0 m c0, .slice A1 n1 c1]) (t := 39) ?hr ?_; (case hd => rfl); (case hg => rfl); (case hr => first | (go_simp; done) | (go_simp; rfl)); intro g2 hg_ w1 hb_ hl_; have B1 := Lib.hid hl_; have G1 := Lib.hid hb_; obtain ⟨s0, s1, s2, f0, f1, f2⟩ := bw3_ hb_; clear hb_ hl_ hg_; simp only [Act.put, sa_, sz_, ss_])
    | ((with_reducible refine gate_callee (f := 37) rfl ?_); refine goesL_ (some 15) rfl rfl Tryd.func37 (by kernel_rfl) rfl #[.pointer (some ⟨gT, 0, none⟩), .slice A0 m c0] rfl (by (try simp only [List.map_toArray, List.map_cons, List.map_nil]); first | done | rfl) ?_; refine (tab_find_no (H.out.below B1.out) A0 m c0).mono ?_; rintro r' w2 ⟨rfl, b2⟩; refine ⟨_, rfl, ?_⟩; simp only [Act.put, sa_, sz_, ss_]; have B2 := Lib.hid b2; clear b2 s0 s1 s2 f0 f1 f2)
    | ((with_reducible refine gate_callee (f := 38) rfl ?_); refine goesL_ (some 20) rfl rfl Tryd.func38 (by kernel_rfl) rfl #[.int .i64 10] rfl (by (try simp only [List.map_toArray, List.map_cons, List.map_nil]); first | done | rfl) ?_; refine (w34_code.calls 10 10 w2 rfl).mono ?_; rintro r' w3 ⟨rfl, d3⟩; refine ⟨_, rfl, ?_⟩; simp only [Act.put, sa_, sz_, ss_]; have B3 := Lib.hid (dr_below d3); clear d3))
  go_ret2
  exact ⟨rfl, below_step (below_step B1.out B2.out) B3.out⟩
def WrD (w : World) (base : Nat) (S D : Nat → Prop) (gT : Nat) (seed : Int) (n : Nat) (sl : Bool) (E : List S116) (r : Ending) (w' : World) : Prop :=
  r = .returned (.tuple #[.slice none 0 0, .int .i64 0]) ∧ ∃ S' D', Tab w' base S' D' gT seed n sl E ∧ (∀ k, S' k → S k ∨ w.heap.size ≤ k) ∧ (∀ k, D' k → D k ∨ w.heap.size ≤ k) ∧ Kp S w w' ∧ Below base w w'
theorem do_seal (h : Tab w base S D gT seed n false E) (m : Nat) (hb : base ≤ w.heap.size) :
    Calls Tryd.prog 20 #[.pointer (some ⟨gT, 0, none⟩), .agg #[.int .i64 1, .slice A0 m c0, .slice A1 n1 c1]] w (WrD w base S D gT seed n true E) := by
  have H := Lib.hid h; have HB := Lib.hid hb
  clear h hb
  go_enter Tryd.func20, Tryd.ntmps20
  go_wp2_with (first
    | ((with_reducible refine gate_dst (N := 3) rfl ?_); refine box_event ?hg (N := 3) ?hd (cs := #[.int .i64 1, .slice A0 m c0, .slice A1 n1 c1]) (t := 39) ?hr ?_; (case hd => rfl); (case hg => rfl); (case hr => first | (go_simp; done) | (go_simp; rfl)); intro g2 hg_ w1 hb_ hl_; have B1 := Lib.hid hl_; have G1 := Lib.hid hb_; obtain ⟨s0, s1, s2, f0, f1, f2⟩ := bw3_ hb_; clear hb_ hl_ hg_; simp only [Act.put, sa_, sz_, ss_])
    | ((with_reducible refine gate_callee (f := 40) rfl ?_); refine goesL_ (some 25) rfl rfl Tryd.func40 (by kernel_rfl) rfl #[.pointer (some ⟨gT, 0, none⟩)] rfl (by (try simp only [List.map_toArray, List.map_cons, List.map_nil]); first | done | rfl) ?_; refine (tab_seal_no (H.out.below B1.out)).mono ?_; rintro r' w2 ⟨rfl, t2, k2, b2⟩; refine ⟨_, rfl, ?_⟩; simp only [Act.put, sa_, sz_, ss_]; have T2 := Lib.hid t2; have K2 := Lib.hid k2; have B2 := Lib.hid b2; clear t2 k2 b2 s0 s1 s2 f0 f1 f2)
    | ((with_reducible refine gate_callee (f := 38) rfl ?_); refine goesL_ (some 26) rfl rfl Tryd.func38 (by kernel_rfl) rfl #[.int .i64 0] rfl (by (try simp only [List.map_toArray, List.map_cons, List.map_nil]); first | done | rfl) ?_; refine (w34_code.calls 0 0 w2 rfl).mono ?_; rintro r' w3 ⟨rfl, d3⟩; refine ⟨_, rfl, ?_⟩; simp only [Act.put, sa_, sz_, ss_]; have B3 := Lib.hid (dr_below d3); clear d3))
  go_ret2
  have k1 : Kp S w w1 := Kp.of_below B1.out
  exact ⟨rfl, S, D, T2.out.below B3.out, fun k hk => .inl hk, fun k hk => .inl hk, (k1.trans K2.out fun x hx => .inl hx).trans (Kp.of_below B3.out : Kp S w2 _) fun x hx => .inl hx, ((B1.out.mono HB.out).trans B2.out).trans (B3.out.mono (Nat.le_trans HB.out (Nat.le_trans B1.out.size K2.out.1)))⟩
theorem do_seal_yes (h : Tab w base S D gT seed n true E) (m : Nat) :
    Calls Tryd.prog 20 #[.pointer (some ⟨gT, 0, none⟩), .agg #[.int .i64 1, .slice A0 m c0, .slice A1 n1 c1]] w (NoD w 10) := by
  have H := Lib.hid h
  clear h
  go_enter Tryd.func20, Tryd.ntmps20
  go_wp2_with (first
    | ((with_reducible refine gate_dst (N := 3) rfl ?_); refine box_event ?hg (N := 3) ?hd (cs := #[.int .i64 1, .slice A0 m c0, .slice A1 n1 c1]) (t := 39) ?hr ?_; (case hd => rfl); (case hg => rfl); (case hr => first | (go_simp; done) | (go_simp; rfl)); intro g2 hg_ w1 hb_ hl_; have B1 := Lib.hid hl_; have G1 := Lib.hid hb_; obtain ⟨s0, s1, s2, f0, f1, f2⟩ := bw3_ hb_; clear hb_ hl_ hg_; simp only [Act.put, sa_, sz_, ss_])
    | ((with_reducible refine gate_callee (f := 40) rfl ?_); refine goesL_ (some 25) rfl rfl Tryd.func40 (by kernel_rfl) rfl #[.pointer (some ⟨gT, 0, none⟩)] rfl (by (try simp only [List.map_toArray, List.map_cons, List.map_nil]); first | done | rfl) ?_; refine (tab_seal_yes (H.out.below B1.out)).mono ?_; rintro r' w2 ⟨rfl, rfl⟩; refine ⟨_, rfl, ?_⟩; simp only [Act.put, sa_, sz_, ss_]; clear s0 s1 s2 f0 f1 f2)
    | ((with_reducible refine gate_callee (f := 38) rfl ?_); refine goesL_ (some 26) rfl rfl Tryd.func38 (by kernel_rfl) rfl #[.int .i64 10] rfl (by (try simp only [List.map_toArray, List.map_cons, List.map_nil]); first | done | rfl) ?_; refine (w34_code.calls 10 10 w2 rfl).mono ?_; rintro r' w3 ⟨rfl, d3⟩; refine ⟨_, rfl, ?_⟩; simp only [Act.put, sa_, sz_, ss_]; have B3 := Lib.hid (dr_below d3); clear d3))
  go_ret2
  exact ⟨rfl, below_step B1.out B3.out⟩
theorem do_put (h : Tab w base S D gT seed n false E) (hT : TabOK w) (hE : E.length ≤ 1000) (hb : base ≤ w.heap.size) {d : Int} (h1 : d ≠ 1) (h2 : d ≠ 2) (hK : Kd.C k23 w A0 key.length key) (hc : key.length ≤ c0) (hR : Kd.C k23 w A1 row.length row) (hc' : row.length ≤ c1) (l1 : KOK key) (l2 : row.length ≤ 1000) :
    Calls Tryd.prog 20 #[.pointer (some ⟨gT, 0, none⟩), .agg #[.int .i64 d, .slice A0 key.length c0, .slice A1 row.length c1]] w (WrD w base S D gT seed n false (E ++ [⟨key, row⟩])) := by
  have H := Lib.hid h; have HB := Lib.hid hb; have HT := Lib.hid hT; have HE := Lib.hid hE; have HK := Lib.hid (And.intro hK hc); have HR := Lib.hid (And.intro hR hc'); have L1 := Lib.hid (And.intro l1 l2)
  have e1 : (d == 1) = false := beq_eq_false_iff_ne.2 h1
  have e2 : (d == 2) = false := beq_eq_false_iff_ne.2 h2
  clear h hb hT hE hK hc hR hc' l1 l2
  go_enter Tryd.func20, Tryd.ntmps20
  go_wp2_with (first
    | ((with_reducible refine gate_dst (N := 3) rfl ?_); refine box_event ?hg (N := 3) ?hd (cs := #[.int .i64 d, .slice A0 key.length c0, .slice A1 row.length c1]) (t := 39) ?hr ?_; (case hd => rfl); (case hg => rfl); (case hr => first | (go_simp; done) | (go_simp; rfl)); intro g2 hg_ w1 hb_ hl_; have B1 := Lib.hid hl_; have G1 := Lib.hid hb_; obtain ⟨s0, s1, s2, f0, f1, f2⟩ := bw3_ hb_; clear hb_ hl_ hg_; simp only [Act.put, sa_, sz_, ss_])
    | ((with_reducible refine gate_callee (f := 39) rfl ?_); refine goesL_ (some 32) rfl rfl Tryd.func39 (by kernel_rfl) rfl #[.pointer (some ⟨gT, 0, none⟩), .slice A0 key.length c0, .slice A1 row.length c1] rfl (by (try simp only [List.map_toArray, List.map_cons, List.map_nil]); first | done | rfl) ?_; refine (tab_put (H.out.below B1.out) (HT.out.below B1.out) HE.out (Kd.C_below HK.out.1 B1.out) HK.out.2 (Kd.C_below HR.out.1 B1.out) HR.out.2 L1.out.1 L1.out.2).mono ?_; rintro r' w2 ⟨rfl, S2, D2, t2, s2', d2, k2, b2⟩; refine ⟨_, rfl, ?_⟩; simp only [Act.put, sa_, sz_, ss_]; have T2 := Lib.hid t2; have S2_ := Lib.hid (And.intro s2' d2); have K2 := Lib.hid k2; have B2 := Lib.hid b2; clear t2 s2' d2 k2 b2 s0 s1 s2 f0 f1 f2)
    | ((with_reducible refine gate_callee (f := 38) rfl ?_); refine goesL_ (some 33) rfl rfl Tryd.func38 (by kernel_rfl) rfl #[.int .i64 0] rfl (by (try simp only [List.map_toArray, List.map_cons, List.map_nil]); first | done | rfl) ?_; refine (w34_code.calls 0 0 w2 rfl).mono ?_; rintro r' w3 ⟨rfl, d3⟩; refine ⟨_, rfl, ?_⟩; simp only [Act.put, sa_, sz_, ss_]; have B3 := Lib.hid (dr_below d3); clear d3))
  go_ret2
  have k1 : Kp S w w1 := Kp.of_below B1.out
  have hz := B1.out.size
  exact ⟨rfl, S2, D2, T2.out.below B3.out, fun k hk => (S2_.out.1 k hk).imp id fun q => Nat.le_trans hz q, fun k hk => (S2_.out.2 k hk).imp id fun q => Nat.le_trans hz q, (k1.trans K2.out fun x hx => .inl hx).trans (Kp.of_below B3.out : Kp S w2 _) fun x hx => .inl hx, ((B1.out.mono HB.out).trans B2.out).trans (B3.out.mono (Nat.le_trans HB.out (Nat.le_trans hz K2.out.1)))⟩
theorem do_put_sealed (h : Tab w base S D gT seed n true E) {d : Int} (h1 : d ≠ 1) (h2 : d ≠ 2) (m m' : Nat) :
    Calls Tryd.prog 20 #[.pointer (some ⟨gT, 0, none⟩), .agg #[.int .i64 d, .slice A0 m c0, .slice A1 m' c1]] w (NoD w 10) := by
  have H := Lib.hid h
  have e1 : (d == 1) = false := beq_eq_false_iff_ne.2 h1
  have e2 : (d == 2) = false := beq_eq_false_iff_ne.2 h2
  clear h
  go_enter Tryd.func20, Tryd.ntmps20
  go_wp2_with (first
    | ((with_reducible refine gate_dst (N := 3) rfl ?_); refine box_event ?hg (N := 3) ?hd (cs := #[.int .i64 d, .slice A0 m c0, .slice A1 m' c1]) (t := 39) ?hr ?_; (case hd => rfl); (case hg => rfl); (case hr => first | (go_simp; done) | (go_simp; rfl)); intro g2 hg_ w1 hb_ hl_; have B1 := Lib.hid hl_; have G1 := Lib.hid hb_; obtain ⟨s0, s1, s2, f0, f1, f2⟩ := bw3_ hb_; clear hb_ hl_ hg_; simp only [Act.put, sa_, sz_, ss_])
    | ((with_reducible refine gate_callee (f := 39) rfl ?_); refine goesL_ (some 32) rfl rfl Tryd.func39 (by kernel_rfl) rfl #[.pointer (some ⟨gT, 0, none⟩), .slice A0 m c0, .slice A1 m' c1] rfl (by (try simp only [List.map_toArray, List.map_cons, List.map_nil]); first | done | rfl) ?_; refine (tab_put_sealed (H.out.below B1.out) A0 A1 m m' c0 c1).mono ?_; rintro r' w2 ⟨rfl, rfl⟩; refine ⟨_, rfl, ?_⟩; simp only [Act.put, sa_, sz_, ss_]; clear s0 s1 s2 f0 f1 f2)
    | ((with_reducible refine gate_callee (f := 38) rfl ?_); refine goesL_ (some 33) rfl rfl Tryd.func38 (by kernel_rfl) rfl #[.int .i64 10] rfl (by (try simp only [List.map_toArray, List.map_cons, List.map_nil]); first | done | rfl) ?_; refine (w34_code.calls 10 10 w2 rfl).mono ?_; rintro r' w3 ⟨rfl, d3⟩; refine ⟨_, rfl, ?_⟩; simp only [Act.put, sa_, sz_, ss_]; have B3 := Lib.hid (dr_below d3); clear d3))
  go_ret2
  exact ⟨rfl, below_step B1.out B3.out⟩
end
end Go.Proofs.YtcfgjaggccnoaaaDoor.PTableSteps
namespace Go.Proofs.YtcfgjaggccnoaaaDoor.PTableSteps
open Go.RowKit Go.Proofs.YtcfgjaggccnoaaaDoorW.PrintWords Go.Proofs.YtcfgjaggccnoaaaDoorW.PrintLast Go.Proofs.YtcfgjaggccnoaaaDoorW.PrintMore
attribute [local go_sem] max2_int min2_int max_two min_two max_three min_three max_four min_four
set_option linter.unusedVariables false
set_option linter.unusedSimpArgs false
set_option maxRecDepth 100000
set_option maxHeartbeats 4000000
theorem same1 (x : S23) : r01_Same.f x.f0 x.f1 x.f2 x.f0 x.f1 x.f2 = some true := by
  unfold r01_Same.f
  rw [if_pos rfl, if_pos rfl]
  simp
theorem same_l0 (l : List S23) (hl : l.length ≤ 1000) (d : Nat) : ∀ (k i : Nat), l.length = i + d → d + 1 ≤ k → r04_Same.l0 k l l (i : Int) = some true := by
  induction d with
  | zero =>
    intro k i hd hk
    obtain ⟨k, rfl⟩ : ∃ m, k = m + 1 := ⟨k - 1, by omega⟩
    simp only [r04_Same.l0]
    rw [if_neg (by omega)]
  | succ d ih =>
    intro k i hd hk
    obtain ⟨k, rfl⟩ : ∃ m, k = m + 1 := ⟨k - 1, by omega⟩
    simp only [r04_Same.l0]
    rw [if_pos (by omega), if_pos (by omega), if_pos (by omega), same1, bs, if_pos rfl, w64 (by omega) (by omega), show (i : Int) + 1 = ((i + 1 : Nat) : Int) by omega, ih k (i + 1) (by omega) (by omega)]
theorem same_self (l : List S23) (hl : l.length ≤ 1000) (k : Nat) (hk : l.length + 1 ≤ k) : r04_Same.f k l l = some true := by
  unfold r04_Same.f
  rw [if_pos rfl, show (0 : Int) = ((0 : Nat) : Int) from rfl, same_l0 l hl l.length k 0 (by omega) hk]
theorem samelist_l0 (L : List (List S23)) (hL : L.length ≤ 1000) (hr : ∀ r ∈ L, r.length ≤ 1000) (d : Nat) : ∀ (k i : Nat), L.length = i + d → d + 1010 ≤ k → r04_SameList.l0 k L L (i : Int) = some true := by
  induction d with
  | zero =>
    intro k i hd hk
    obtain ⟨k, rfl⟩ : ∃ m, k = m + 1 := ⟨k - 1, by omega⟩
    simp only [r04_SameList.l0]
    rw [if_neg (by omega)]
  | succ d ih =>
    intro k i hd hk
    obtain ⟨k, rfl⟩ : ∃ m, k = m + 1 := ⟨k - 1, by omega⟩
    have hi : i < L.length := by omega
    have h1 := hr _ (List.getElem_mem hi)
    simp only [r04_SameList.l0]
    rw [if_pos (by omega), if_pos (by omega), if_pos (by omega), getL L i hi, same_self _ h1 k (by omega), bs, if_pos rfl, w64 (by omega) (by omega), show (i : Int) + 1 = ((i + 1 : Nat) : Int) by omega, ih k (i + 1) (by omega) (by omega)]
theorem samelist_self (L : List (List S23)) (hL : L.length ≤ 1000) (hr : ∀ r ∈ L, r.length ≤ 1000) (k : Nat) (hk : L.length + 1010 ≤ k) : r04_SameList.f k L L = some true := by
  unfold r04_SameList.f
  rw [if_pos rfl, show (0 : Int) = ((0 : Nat) : Int) from rfl, samelist_l0 L hL hr L.length k 0 (by omega) hk]
theorem get39 (l : List S39) (i : Nat) (h : i < l.length) : rd_T39 l (i : Int) = l[i] := by
  unfold rd_T39
  rw [Int.toNat_natCast, List.getD_eq_getElem?_getD, List.getElem?_eq_getElem h]
  rfl
theorem rmuch_l0 (l : List S39) (hl : l.length ≤ 40) (hs : ∀ s ∈ l, (∀ y ∈ s.f1, y.f2.size ≤ 140737488351232) ∧ ∀ y ∈ s.f2, y.f2.size ≤ 140737488351232) (d : Nat) : ∀ (k i : Nat), l.length = i + d → d + 3001 ≤ k →
    ∃ b, r34_Much.l0 k l ((l.take i).map (·.f1)) (i : Int) = some b ∧ (b = false → (∀ j (h : j < l.length), i ≤ j → l[j].f2.length ≤ 40) ∧ ∀ s ∈ l, s.f1.length ≤ 40) := by
  induction d with
  | zero =>
    intro k i hd hk
    obtain ⟨k, rfl⟩ : ∃ m, k = m + 1 := ⟨k - 1, by omega⟩
    simp only [r34_Much.l0]
    rw [if_neg (by omega)]
    obtain ⟨b, hb, hp⟩ := much_is ((l.take i).map (·.f1)) (fun r hr => by
      obtain ⟨s, h1, rfl⟩ := List.mem_map.1 hr
      exact (hs s (List.mem_of_mem_take h1)).1) (by rw [List.length_map, List.length_take]; omega) k (by omega)
    rw [hb, bs]
    refine ⟨b, rfl, fun hf => ⟨fun j h hj => by omega, fun s h => ?_⟩⟩
    refine (hp hf).2.1 s.f1 (List.mem_map.2 ⟨s, ?_, rfl⟩)
    rw [List.take_of_length_le (by omega)]
    exact h
  | succ d ih =>
    intro k i hd hk
    obtain ⟨k, rfl⟩ : ∃ m, k = m + 1 := ⟨k - 1, by omega⟩
    have hi : i < l.length := by omega
    have hsi := hs _ (List.getElem_mem hi)
    simp only [r34_Much.l0]
    rw [if_pos (by omega), if_pos (by omega), if_pos (by rw [List.length_map, List.length_take]; omega), get39 l i hi]
    by_cases c : (l[i].f2.length : Int) > 40
    · rw [if_pos c]
      exact ⟨true, rfl, fun h => by cases h⟩
    · rw [if_neg c]
      obtain ⟨b, hb, _⟩ := much_is [l[i].f2] (by simpa using hsi.2) (by simp) k (by omega)
      rw [hb, bs]
      cases b with
      | true => exact ⟨true, by rw [if_pos rfl], fun h => by cases h⟩
      | false =>
        obtain ⟨b, h1, h2⟩ := ih k (i + 1) (by omega) (by omega)
        have e : (l.take i).map (·.f1) ++ [l[i].f1] = (l.take (i + 1)).map (·.f1) := by
          rw [List.take_add_one, List.getElem?_eq_getElem hi, List.map_append]
          rfl
        rw [if_neg (by simp), e, w64 (by omega) (by omega), show (i : Int) + 1 = ((i + 1 : Nat) : Int) by omega, h1]
        refine ⟨b, rfl, fun hf => ⟨fun j h hj => ?_, (h2 hf).2⟩⟩
        by_cases q : j = i
        · subst q; omega
        · exact (h2 hf).1 j h (by omega)
theorem rmuch_is (l : List S39) (hs : ∀ s ∈ l, (∀ y ∈ s.f1, y.f2.size ≤ 140737488351232) ∧ ∀ y ∈ s.f2, y.f2.size ≤ 140737488351232) (k : Nat) (hk : 3100 ≤ k) :
    ∃ b, r34_Much.f k l = some b ∧ (b = false → l.length ≤ 40 ∧ ∀ s ∈ l, s.f1.length ≤ 40 ∧ s.f2.length ≤ 40) := by
  unfold r34_Much.f
  by_cases c : (l.length : Int) > 40
  · rw [if_pos c]
    exact ⟨true, rfl, fun h => by cases h⟩
  · rw [if_neg c]
    obtain ⟨b, h1, h2⟩ := rmuch_l0 l (by omega) hs l.length k 0 (by omega) (by omega)
    rw [show (0 : Int) = ((0 : Nat) : Int) from rfl]
    refine ⟨b, h1, fun hf => ⟨by omega, fun s h => ⟨(h2 hf).2 s h, ?_⟩⟩⟩
    obtain ⟨j, hj, rfl⟩ := List.getElem_of_mem h
    exact (h2 hf).1 j hj (Nat.zero_le _)
end Go.Proofs.YtcfgjaggccnoaaaDoor.PTableSteps
namespace Go.Proofs.YtcfgjaggccnoaaaDoor.PTableSteps
open Go.RowKit Go.Proofs.YtcfgjaggccnoaaaDoorW.PrintWords Go.Proofs.YtcfgjaggccnoaaaDoorW.PrintLast Go.Proofs.YtcfgjaggccnoaaaDoorW.PrintMore
attribute [local go_sem] max2_int min2_int max_two min_two max_three min_three max_four min_four
set_option linter.unusedVariables false
set_option linter.unusedSimpArgs false
set_option maxRecDepth 100000
set_option maxHeartbeats 4000000
def stp (sl : Bool) (E : List S116) (s : S39) : Bool × List S116 × List (List S23) × Int :=
  if s.f0 = 2 then (if sl = true then (sl, E, (E.filter fun p => mt s.f1 p.f0).map (·.f1), 0) else (sl, E, [], 10)) else if sl = true then (sl, E, [], 10) else if s.f0 = 1 then (true, E, [], 0) else (false, E ++ [⟨s.f1, s.f2⟩], [], 0)
def StpD (w : World) (base : Nat) (S D : Nat → Prop) (gT : Nat) (seed : Int) (n : Nat) (q : Bool × List S116 × List (List S23) × Int) (r : Ending) (w' : World) : Prop :=
  ∃ v, r = .returned (.tuple #[v, .int .i64 q.2.2.2]) ∧ Kd.R (Kd.slice 23 k23) 24 w' w.heap.size (fun _ => True) v q.2.2.1 ∧ ∃ S' D', Tab w' base S' D' gT seed n q.1 q.2.1 ∧ (∀ k, S' k → S k ∨ w.heap.size ≤ k) ∧ (∀ k, D' k → D k ∨ w.heap.size ≤ k) ∧ Kp S w w' ∧ Below base w w'
section
variable {w : World} {base gT : Nat} {S D : Nat → Prop} {seed : Int} {n : Nat} {sl : Bool} {E : List S116} {A0 A1 : Option Addr} {c0 c1 : Nat}
theorem stp_no {err : Int} {r : Ending} {w' : World} (h : Tab w base S D gT seed n sl E) (hb : base ≤ w.heap.size) (hr : NoD w err r w') : StpD w base S D gT seed n (sl, E, [], err) r w' :=
  ⟨_, hr.1, Kd.R_nil _ _ _ _ _, S, D, h.below hr.2, fun k hk => .inl hk, fun k hk => .inl hk, Kp.of_below hr.2, hr.2.mono hb⟩
theorem stp_wr {E' : List S116} {sl' : Bool} {r : Ending} {w' : World} (hr : WrD w base S D gT seed n sl' E' r w') : StpD w base S D gT seed n (sl', E', [], 0) r w' := by
  obtain ⟨e, S', D', h1, h2, h3, h4, h5⟩ := hr
  exact ⟨_, e, Kd.R_nil _ _ _ _ _, S', D', h1, h2, h3, h4, h5⟩
theorem do_any (h : Tab w base S D gT seed n sl E) (hT : TabOK w) (hE : EOK E) (hb : base ≤ w.heap.size) (s : S39) (hK : Kd.C k23 w A0 s.f1.length s.f1) (hc : s.f1.length ≤ c0) (hR : Kd.C k23 w A1 s.f2.length s.f2) (hc' : s.f2.length ≤ c1) (l1 : KOK s.f1) (l2 : KOK s.f2) :
    Calls Tryd.prog 20 #[.pointer (some ⟨gT, 0, none⟩), .agg #[.int .i64 s.f0, .slice A0 s.f1.length c0, .slice A1 s.f2.length c1]] w (StpD w base S D gT seed n (stp sl E s)) := by
  unfold stp
  by_cases q2 : s.f0 = 2
  · rw [if_pos q2, q2]
    cases sl with
    | true =>
      rw [if_pos rfl]
      refine (do_find h hT hE hK hc l1).mono ?_
      rintro r w' ⟨v, e, hr, hbl⟩
      exact ⟨v, e, hr, S, D, h.below hbl, fun k hk => .inl hk, fun k hk => .inl hk, Kp.of_below hbl, hbl.mono hb⟩
    | false =>
      rw [if_neg (by simp)]
      exact (do_find_no h _).mono fun r w' hr => stp_no h hb hr
  · rw [if_neg q2]
    cases sl with
    | true =>
      rw [if_pos rfl]
      by_cases q1 : s.f0 = 1
      · rw [q1]
        exact (do_seal_yes h _).mono fun r w' hr => stp_no h hb hr
      · exact (do_put_sealed h q1 q2 _ _).mono fun r w' hr => stp_no h hb hr
    | false =>
      rw [if_neg (by simp)]
      by_cases q1 : s.f0 = 1
      · rw [if_pos q1, q1]
        exact (do_seal h _ hb).mono fun r w' hr => stp_wr hr
      · rw [if_neg q1]
        exact (do_put h hT hE.1 hb q1 q2 hK hc hR hc' l1 l2.1).mono fun r w' hr => stp_wr hr
end
theorem stp_len (sl : Bool) (E : List S116) (s : S39) : (stp sl E s).2.1.length ≤ E.length + 1 := by
  unfold stp
  split
  · split <;> exact Nat.le_succ _
  · split
    · exact Nat.le_succ _
    · split
      · exact Nat.le_succ _
      · show (E ++ [_]).length ≤ _
        simp
theorem stp_ok {m : Nat} {sl : Bool} {E : List S116} {s : S39} (hE : EOK E) (hm : E.length ≤ m) (hm2 : m < 1000) (l1 : KOK s.f1) (l2 : KOK s.f2) : EOK (stp sl E s).2.1 ∧ (stp sl E s).2.1.length ≤ m + 1 ∧ (stp sl E s).2.2.1.length ≤ 1000 ∧ ∀ r, r ∈ (stp sl E s).2.2.1 → r.length ≤ 1000 := by
  have h1 := stp_len sl E s
  refine ⟨⟨by omega, ?_⟩, by omega, ?_⟩
  · unfold stp
    split
    · split <;> exact hE.2
    · split
      · exact hE.2
      · split
        · exact hE.2
        · intro p hp
          rcases List.mem_append.1 hp with hp | hp
          · exact hE.2 p hp
          · rw [List.mem_singleton.1 hp]
            exact ⟨l1, l2⟩
  · have hnil : ([] : List (List S23)).length ≤ 1000 ∧ ∀ r, r ∈ ([] : List (List S23)) → r.length ≤ 1000 := ⟨by simp, fun r hr => by cases hr⟩
    unfold stp
    split
    · split
      · refine ⟨?_, fun r hr => ?_⟩
        · show ((E.filter _).map _).length ≤ _
          rw [List.length_map]
          have := List.length_filter_le (fun p : S116 => mt s.f1 p.f0) E
          omega
        · obtain ⟨p, hp, rfl⟩ := List.mem_map.1 hr
          exact (hE.2 p (List.mem_filter.1 hp).1).2.1
      · exact hnil
    · split
      · exact hnil
      · split <;> exact hnil
end Go.Proofs.YtcfgjaggccnoaaaDoor.PTableSteps
namespace Go.Proofs.YtcfgjaggccnoaaaDoor.PTableSteps
open Go.RowKit Go.Proofs.YtcfgjaggccnoaaaDoorW.PrintWords Go.Proofs.YtcfgjaggccnoaaaDoorW.PrintLast Go.Proofs.YtcfgjaggccnoaaaDoorW.PrintMore
attribute [local go_sem] max2_int min2_int max_two min_two max_three min_three max_four min_four
set_option linter.unusedVariables false
set_option linter.unusedSimpArgs false
set_option maxRecDepth 100000
set_option maxHeartbeats 4000000
def Two (w W : World) (gx gy : Nat) (a b : Int) (nx ny : Nat) (qx qy : Bool × List S116) : Prop :=
  ∃ bx bY Sx Dx Sy Dy, Tab W bx Sx Dx gx a nx qx.1 qx.2 ∧ Tab W bY Sy Dy gy b ny qy.1 qy.2 ∧ (∀ k, Dx k → ¬ Dy k) ∧ (w.heap.size ≤ bx ∧ bx ≤ W.heap.size) ∧ (w.heap.size ≤ bY ∧ bY ≤ W.heap.size) ∧ Below w.heap.size w W
section
variable {w W : World} {gx gy nx ny : Nat} {a b : Int} {qx qy : Bool × List S116}
theorem Two.bl (h : Two w W gx gy a b nx ny qx qy) : Below w.heap.size w W := by
  obtain ⟨_, _, _, _, _, _, _, _, _, _, _, h⟩ := h
  exact h
theorem Two.below {W' : World} (h : Two w W gx gy a b nx ny qx qy) (hb : Below W.heap.size W W') : Two w W' gx gy a b nx ny qx qy := by
  obtain ⟨bx, bY, Sx, Dx, Sy, Dy, h1, h2, h3, h4, h5, h6⟩ := h
  exact ⟨bx, bY, Sx, Dx, Sy, Dy, h1.below hb, h2.below hb, h3, ⟨h4.1, Nat.le_trans h4.2 hb.size⟩, ⟨h5.1, Nat.le_trans h5.2 hb.size⟩, below_step h6 hb⟩
def TwoZ (w W : World) (gx gy : Nat) (a b : Int) (nx ny : Nat) (qx qy : Bool × List S116) (z : Nat) : Prop :=
  ∃ bx bY Sx Dx Sy Dy, Tab W bx Sx Dx gx a nx qx.1 qx.2 ∧ Tab W bY Sy Dy gy b ny qy.1 qy.2 ∧ (∀ k, Dx k → ¬ Dy k) ∧ (w.heap.size ≤ bx ∧ bx ≤ W.heap.size) ∧ (w.heap.size ≤ bY ∧ bY ≤ W.heap.size) ∧ Below w.heap.size w W ∧ ∀ k, Dy k → k < z
def TwoD (w W : World) (gx gy : Nat) (a b : Int) (nx ny : Nat) (q : Bool × List S116 × List (List S23) × Int) (qy : Bool × List S116) (r : Ending) (W' : World) : Prop :=
  ∃ v, r = .returned (.tuple #[v, .int .i64 q.2.2.2]) ∧ Kd.R (Kd.slice 23 k23) 24 W' W.heap.size (fun k => W.heap.size ≤ k ∧ k < W'.heap.size) v q.2.2.1 ∧ TwoZ w W' gx gy a b nx ny (q.1, q.2.1) qy W.heap.size
theorem Two.step (h : Two w W gx gy a b nx ny qx qy) {A0 A1 : Option Addr} {c0 c1 : Nat} (hT : TabOK w) (hE : EOK qx.2) (s : S39) (hK : Kd.C k23 W A0 s.f1.length s.f1) (hc : s.f1.length ≤ c0) (hR : Kd.C k23 W A1 s.f2.length s.f2) (hc' : s.f2.length ≤ c1) (l1 : KOK s.f1) (l2 : KOK s.f2) :
    Calls Tryd.prog 20 #[.pointer (some ⟨gx, 0, none⟩), .agg #[.int .i64 s.f0, .slice A0 s.f1.length c0, .slice A1 s.f2.length c1]] W (TwoD w W gx gy a b nx ny (stp qx.1 qx.2 s) qy) := by
  obtain ⟨bx, bY, Sx, Dx, Sy, Dy, h1, h2, h3, h4, h5, h6⟩ := h
  refine (do_any h1 (hT.below h6) hE h4.2 s hK hc hR hc' l1 l2).mono ?_
  rintro r W' ⟨v, e, hr, S', D', t1, t2, t3, t4, t5⟩
  have hx : ∀ k, Sx k → Dx k := h1.sd
  refine ⟨v, e, R_rng hr, bx, bY, S', D', Sy, Dy, t1, h2.kp t4 (fun k hk hs => h3 k (hx k hs) hk), fun k hk hy => ?_, ⟨h4.1, Nat.le_trans h4.2 t4.1⟩, ⟨h5.1, Nat.le_trans h5.2 t4.1⟩, h6.trans (t5.mono h4.1), fun k hk => (h2.dl k hk).2⟩
  rcases t3 k hk with q | q
  · exact h3 k q hy
  · have := (h2.dl k hy).2; omega
theorem TwoZ.step {z : Nat} (h : TwoZ w W gx gy a b nx ny qx qy z) {A0 A1 : Option Addr} {c0 c1 : Nat} (hT : TabOK w) (hE : EOK qy.2) (s : S39) (hK : Kd.C k23 W A0 s.f1.length s.f1) (hc : s.f1.length ≤ c0) (hR : Kd.C k23 W A1 s.f2.length s.f2) (hc' : s.f2.length ≤ c1) (l1 : KOK s.f1) (l2 : KOK s.f2) :
    Calls Tryd.prog 20 #[.pointer (some ⟨gy, 0, none⟩), .agg #[.int .i64 s.f0, .slice A0 s.f1.length c0, .slice A1 s.f2.length c1]] W fun r W' => TwoD w W gy gx b a ny nx (stp qy.1 qy.2 s) qx r W' ∧ ∀ k, z ≤ k → k < W.heap.size → W'.heap[k]? = W.heap[k]? := by
  obtain ⟨bx, bY, Sx, Dx, Sy, Dy, h1, h2, h3, h4, h5, h6, h7⟩ := h
  refine (do_any h2 (hT.below h6) hE h5.2 s hK hc hR hc' l1 l2).mono ?_
  rintro r W' ⟨v, e, hr, S', D', t1, t2, t3, t4, t5⟩
  refine ⟨⟨v, e, R_rng hr, bY, bx, S', D', Sx, Dx, t1, h1.kp t4 (fun k hk hs => h3 k hk (h2.sd k hs)), fun k hk hy => ?_, ⟨h5.1, Nat.le_trans h5.2 t4.1⟩, ⟨h4.1, Nat.le_trans h4.2 t4.1⟩, h6.trans (t5.mono h5.1), fun k hk => (h1.dl k hk).2⟩, fun k hz hk => t4.2 k hk fun hs => ?_⟩
  · rcases t3 k hk with q | q
    · exact h3 k hy q
    · have := (h1.dl k hy).2; omega
  · have := h7 k (h2.sd k hs); omega
end
def runs (l : List S39) : Nat → Bool × List S116
  | 0 => (false, [])
  | i + 1 => ((stp (runs l i).1 (runs l i).2 (rd_T39 l i)).1, (stp (runs l i).1 (runs l i).2 (rd_T39 l i)).2.1)
theorem runs_ok {l : List S39} (hs : ∀ s ∈ l, KOK s.f1 ∧ KOK s.f2) (hl : l.length ≤ 40) : ∀ i, i ≤ l.length → EOK (runs l i).2 ∧ (runs l i).2.length ≤ i
  | 0, _ => ⟨⟨by simp [runs], fun p hp => by simp [runs] at hp⟩, by simp [runs]⟩
  | i + 1, h => by
    have ih := runs_ok hs hl i (by omega)
    have hk := hs _ (List.getElem_mem (show i < l.length by omega))
    rw [← get39 l i (by omega)] at hk
    have := stp_ok (sl := (runs l i).1) (s := rd_T39 l i) ih.1 ih.2 (by omega) hk.1 hk.2
    exact ⟨this.1, this.2.1⟩
end Go.Proofs.YtcfgjaggccnoaaaDoor.PTableSteps
namespace Go.Proofs.YtcfgjaggccnoaaaDoor.PTableSteps
open Go.RowKit Go.Proofs.YtcfgjaggccnoaaaDoorW.PrintWords Go.Proofs.YtcfgjaggccnoaaaDoorW.PrintLast Go.Proofs.YtcfgjaggccnoaaaDoorW.PrintMore
attribute [local go_sem] max2_int min2_int max_two min_two max_three min_three max_four min_four
set_option linter.unusedVariables false
set_option linter.unusedSimpArgs false
set_option maxRecDepth 100000
set_option maxHeartbeats 4000000
theorem rbucket_is (h n : Nat) (h0 : h < 18446744073709551616) (n1 : 1 ≤ n) (n2 : n ≤ 4096) : r17_Bucket.f (h : Int) (n : Int) = some ((h / 4294967296 % n : Nat) : Int) := by
  unfold r17_Bucket.f
  have e0 : Int.tdiv (h : Int) 4294967296 = ((h / 4294967296 : Nat) : Int) := by
    rw [Int.tdiv_eq_ediv_of_nonneg (by omega), Int.natCast_ediv]
    rfl
  have h4 : h / 4294967296 < 4294967296 := by omega
  rw [if_neg (by omega), if_neg (by omega), e0]
  generalize h / 4294967296 = z at *
  have e : IntKind.u64.wrap (z : Int) = z := by rw [u64_wrap]; omega
  rw [e, w64 (by omega) (by omega), Int.tmod_eq_emod_of_nonneg (by omega), Int.natCast_emod]
section
variable (E : List S116)
theorem rdk {i : Nat} (h : i < E.length) : rd_L3 (E.map (·.f0)) (i : Int) = E[i].f0 := by rw [getL _ i (by rw [List.length_map]; exact h), List.getElem_map]
theorem rdr {i : Nat} (h : i < E.length) : rd_L3 (E.map (·.f1)) (i : Int) = E[i].f1 := by rw [getL _ i (by rw [List.length_map]; exact h), List.getElem_map]
theorem flt_take {β : Type} (p : S116 → Bool) (f : S116 → β) {i : Nat} (h : i < E.length) : ((E.take (i + 1)).filter p).map f = if p E[i] = true then ((E.take i).filter p).map f ++ [f E[i]] else ((E.take i).filter p).map f := by
  rw [List.take_add_one, List.getElem?_eq_getElem h, Option.toList_some, List.filter_append, List.map_append]
  by_cases c : p E[i] = true
  · rw [if_pos c, List.filter_cons_of_pos c]
    rfl
  · rw [if_neg c, List.filter_cons_of_neg c]
    simp
theorem flt_len {β : Type} (p : S116 → Bool) (f : S116 → β) (i : Nat) (hE : E.length ≤ 1000) : (((E.take i).filter p).map f).length ≤ 1000 := by
  rw [List.length_map]
  have h1 := List.length_filter_le p (E.take i)
  have h2 : (E.take i).length ≤ E.length := by rw [List.length_take]; omega
  omega
theorem find_l0 (hE : E.length ≤ 1000) (sl : Bool) (key : List S23) (hk : KOK key) (d : Nat) : ∀ (k i : Nat), E.length = i + d → d + (key.length + 2 * rowN key + 4) ≤ k →
    r34_Find.l0 k key (((E.take i).filter fun p => mt key p.f0).map (·.f1)) (i : Int) (E.map (·.f0)) (E.map (·.f1)) sl = some ((E.filter fun p => mt key p.f0).map (·.f1)) := by
  induction d with
  | zero =>
    intro k i hd hk2
    obtain ⟨k, rfl⟩ : ∃ m, k = m + 1 := ⟨k - 1, by omega⟩
    simp only [r34_Find.l0]
    rw [if_neg (by rw [List.length_map]; omega), List.take_of_length_le (by omega)]
  | succ d ih =>
    intro k i hd hk2
    obtain ⟨k, rfl⟩ : ∃ m, k = m + 1 := ⟨k - 1, by omega⟩
    have hi : i < E.length := by omega
    have hl := flt_len E (fun p => mt key p.f0) (·.f1) i hE
    have ihh := ih k (i + 1) (by omega) (by omega)
    rw [flt_take E _ _ hi] at ihh
    simp only [r34_Find.l0]
    rw [if_pos (by rw [List.length_map]; omega), if_pos (by omega), rdk E hi, rmatch_is key _ hk.1 hk.2 k (by omega), bs]
    by_cases c : mt key E[i].f0 = true
    · rw [if_pos c] at ihh
      rw [if_pos c, if_pos (by rw [List.length_map]; omega), if_pos (by omega), rdr E hi, w64 (by omega) (by omega), show (i : Int) + 1 = ((i + 1 : Nat) : Int) by omega, ihh]
    · rw [if_neg c] at ihh
      rw [if_neg c, w64 (by omega) (by omega), show (i : Int) + 1 = ((i + 1 : Nat) : Int) by omega, ihh]
theorem go_is (hE : E.length ≤ 1000) (sl : Bool) (s : S39) (hk : KOK s.f1) (k : Nat) (hk2 : E.length + (s.f1.length + 2 * rowN s.f1 + 4) ≤ k) :
    r34_Go.f k (E.map (·.f0)) (E.map (·.f1)) sl s.f0 s.f1 s.f2 = some ((stp sl E s).2.1.map (·.f0), (stp sl E s).2.1.map (·.f1), (stp sl E s).1, (stp sl E s).2.2.1, (stp sl E s).2.2.2) := by
  unfold r34_Go.f stp
  by_cases q2 : s.f0 = 2
  · rw [if_pos q2, if_pos q2]
    cases sl with
    | true =>
      simp only [if_true]
      unfold r34_Find.f
      have := find_l0 E hE true s.f1 hk E.length k 0 (by omega) (by omega)
      rw [show (([] : List (List S23))) = (((E.take 0).filter fun p => mt s.f1 p.f0).map (·.f1)) by simp, show (0 : Int) = ((0 : Nat) : Int) from rfl, this, bs]
    | false => simp only [Bool.false_eq_true, if_false]
  · rw [if_neg q2, if_neg q2]
    cases sl with
    | true => simp only [if_true]
    | false =>
      simp only [Bool.false_eq_true, if_false]
      by_cases q1 : s.f0 = 1
      · rw [if_pos q1, if_pos q1]
      · rw [if_neg q1, if_neg q1]
        have l0 : (E.map (·.f0)).length = E.length := List.length_map _
        have l1 : (E.map (·.f1)).length = E.length := List.length_map _
        rw [bs, if_pos (by rw [l0, List.length_nil]; omega), bs, bs, if_pos (by rw [List.length_append, l0, List.length_nil, List.length_singleton]; omega), bs, if_pos (by rw [l1, List.length_nil]; omega), bs, bs, if_pos (by rw [List.length_append, l1, List.length_nil, List.length_singleton]; omega)]
        rw [List.nil_append, List.nil_append, List.map_append, List.map_append]
        rfl
theorem rkeys_l0 (hE : E.length ≤ 1000) (hK : ∀ p, p ∈ E → p.f0.length ≤ 1000) (sl : Bool) (R : List (List S23)) (d : Nat) : ∀ (k i : Nat), E.length = i + d → d + 1010 ≤ k →
    r34_Keys.l0 k (((E.take i).filter fun p => whB p.f0).map (·.f0)) (i : Int) (E.map (·.f0)) R sl = some ((E.filter fun p => whB p.f0).map (·.f0)) := by
  induction d with
  | zero =>
    intro k i hd hk2
    obtain ⟨k, rfl⟩ : ∃ m, k = m + 1 := ⟨k - 1, by omega⟩
    simp only [r34_Keys.l0]
    rw [if_neg (by rw [List.length_map]; omega), List.take_of_length_le (by omega)]
  | succ d ih =>
    intro k i hd hk2
    obtain ⟨k, rfl⟩ : ∃ m, k = m + 1 := ⟨k - 1, by omega⟩
    have hi : i < E.length := by omega
    have hl := flt_len E (fun p => whB p.f0) (·.f0) i hE
    have ihh := ih k (i + 1) (by omega) (by omega)
    have h1 := hK _ (List.getElem_mem hi)
    rw [flt_take E _ _ hi] at ihh
    simp only [r34_Keys.l0]
    rw [if_pos (by rw [List.length_map]; omega), if_pos (by omega), rdk E hi, rwhole_is _ h1 k (by omega), bs]
    by_cases c : whB E[i].f0 = true
    · rw [if_pos c] at ihh
      rw [if_pos c, if_pos (by omega), w64 (by omega) (by omega), show (i : Int) + 1 = ((i + 1 : Nat) : Int) by omega, ihh]
    · rw [if_neg c] at ihh
      rw [if_neg c, w64 (by omega) (by omega), show (i : Int) + 1 = ((i + 1 : Nat) : Int) by omega, ihh]
theorem rkeys_is (hE : E.length ≤ 1000) (hK : ∀ p, p ∈ E → p.f0.length ≤ 1000) (sl : Bool) (R : List (List S23)) (k : Nat) (hk : 2100 ≤ k) : r34_Keys.f k (E.map (·.f0)) R sl = some ((E.filter fun p => whB p.f0).map (·.f0)) := by
  unfold r34_Keys.f
  have := rkeys_l0 E hE hK sl R E.length k 0 (by omega) (by omega)
  rw [show (([] : List (List S23))) = (((E.take 0).filter fun p => whB p.f0).map (·.f0)) by simp, show (0 : Int) = ((0 : Nat) : Int) from rfl, this]
def cnt (seed : Int) (n j : Nat) : Nat := (E.filter fun p => bk seed n p.f0 == j).length
def rnd : Nat := (E.map fun p => (rkey p.f0).size).sum
theorem rnd_le {p : S116} (h : p ∈ E) : (rkey p.f0).size ≤ rnd E := by
  induction E with
  | nil => cases h
  | cons q E ih =>
    unfold rnd
    rw [List.map_cons, List.sum_cons]
    rcases List.mem_cons.1 h with rfl | h
    · omega
    · have := ih h
      unfold rnd at this
      omega
theorem cnt_take (seed : Int) (n j : Nat) {i : Nat} (h : i < E.length) : cnt (E.take (i + 1)) seed n j = if bk seed n E[i].f0 = j then cnt (E.take i) seed n j + 1 else cnt (E.take i) seed n j := by
  unfold cnt
  rw [List.take_add_one, List.getElem?_eq_getElem h, Option.toList_some, List.filter_append, List.length_append]
  by_cases c : bk seed n E[i].f0 = j
  · rw [if_pos c, List.filter_cons_of_pos (by simpa using c)]
    rfl
  · rw [if_neg c, List.filter_cons_of_neg (by simpa using c)]
    rfl
theorem cnt_le (seed : Int) (n j : Nat) : cnt E seed n j ≤ E.length := List.length_filter_le _ _
def most (seed : Int) (n : Nat) : Nat → Nat
  | 0 => 0
  | i + 1 => max (most seed n i) (if h : i < E.length then cnt E seed n (bk seed n E[i].f0) else 0)
theorem most_succ (seed : Int) (n : Nat) {i : Nat} (h : i < E.length) : most E seed n (i + 1) = max (most E seed n i) (cnt E seed n (bk seed n E[i].f0)) := by
  show max (most E seed n i) (if h : i < E.length then cnt E seed n (bk seed n E[i].f0) else 0) = _
  rw [dif_pos h]
theorem most_le (seed : Int) (n : Nat) : ∀ i, most E seed n i ≤ E.length
  | 0 => Nat.zero_le _
  | i + 1 => by
    have h1 := most_le seed n i
    unfold most
    split
    · have := cnt_le E seed n (bk seed n E[i].f0)
      omega
    · omega
theorem rhash (hE : EOK E) (seed : Int) (n : Nat) (n1 : 1 ≤ n) (n2 : n ≤ 4096) {i : Nat} (h : i < E.length) (k : Nat) (hk : 1100 + rnd E ≤ k) : ∃ v, r17_Row.f k seed E[i].f0 = some v ∧ r17_Bucket.f v n = some (bk seed n E[i].f0 : Int) := by
  have hm := List.getElem_mem h
  obtain ⟨h1, h2⟩ := (hE.2 _ hm).1
  have h3 := rnd_le E hm
  obtain ⟨_, h4, h5⟩ := rhv_is seed E[i].f0 h2 h1 k (by omega) (by omega)
  exact ⟨_, h4, rbucket_is _ _ h5 n1 n2⟩
theorem lng_l1 (hE : EOK E) (seed : Int) (n : Nat) (n1 : 1 ≤ n) (n2 : n ≤ 4096) (R : List (List S23)) (sl : Bool) (i : Nat) (hi : i < E.length) (m : Nat) (hm : m ≤ 1000) (r : Option Int) (d : Nat) :
    ∀ (k j : Nat), E.length = j + d → d + 1101 + rnd E ≤ k → (∀ k', k ≤ k' + d + 1 → r34_Longest.l0 k' seed n (if cnt E seed n (bk seed n E[i].f0) > m then (cnt E seed n (bk seed n E[i].f0) : Int) else (m : Int)) ((i + 1 : Nat) : Int) (E.map (·.f0)) R sl = r) →
    r34_Longest.l1 k seed n m i (cnt (E.take j) seed n (bk seed n E[i].f0)) j (E.map (·.f0)) R sl = r := by
  have hle := hE.1
  induction d with
  | zero =>
    intro k j hd hk hr
    obtain ⟨k, rfl⟩ : ∃ m, k = m + 1 := ⟨k - 1, by omega⟩
    have h0 := hr k (by omega)
    simp only [r34_Longest.l1]
    rw [if_neg (by rw [List.length_map]; omega), List.take_of_length_le (by omega)]
    by_cases c : cnt E seed n (bk seed n E[i].f0) > m
    · rw [if_pos (by omega), w64 (by omega) (by omega), show (i : Int) + 1 = ((i + 1 : Nat) : Int) by omega]
      rw [if_pos c] at h0
      exact h0
    · rw [if_neg (by omega), w64 (by omega) (by omega), show (i : Int) + 1 = ((i + 1 : Nat) : Int) by omega]
      rw [if_neg c] at h0
      exact h0
  | succ d ih =>
    intro k j hd hk hr
    obtain ⟨k, rfl⟩ : ∃ m, k = m + 1 := ⟨k - 1, by omega⟩
    have hj : j < E.length := by omega
    obtain ⟨v, a1, a2⟩ := rhash E hE seed n n1 n2 hi k (by omega)
    obtain ⟨u, b1, b2⟩ := rhash E hE seed n n1 n2 hj k (by omega)
    have ihh := ih k (j + 1) (by omega) (by omega) (fun k' hk' => hr k' (by omega))
    rw [cnt_take E seed n _ hj] at ihh
    have hc := cnt_le (E.take j) seed n (bk seed n E[i].f0)
    have hc2 : (E.take j).length ≤ E.length := by rw [List.length_take]; omega
    simp only [r34_Longest.l1]
    rw [if_pos (by rw [List.length_map]; omega), if_pos (by omega), if_pos (by rw [List.length_map]; omega), rdk E hi, a1, bs, a2, bs, if_pos (by omega), rdk E hj, b1, bs, b2, bs]
    by_cases c : bk seed n E[j].f0 = bk seed n E[i].f0
    · rw [if_pos c] at ihh
      rw [if_pos (by rw [c]), w64 (by omega) (by omega), w64 (by omega) (by omega), show (j : Int) + 1 = ((j + 1 : Nat) : Int) by omega]
      exact ihh
    · rw [if_neg c] at ihh
      rw [if_neg (by omega), w64 (by omega) (by omega), show (j : Int) + 1 = ((j + 1 : Nat) : Int) by omega]
      exact ihh
theorem lng_l0 (hE : EOK E) (seed : Int) (n : Nat) (n1 : 1 ≤ n) (n2 : n ≤ 4096) (R : List (List S23)) (sl : Bool) (d : Nat) : ∀ (k i : Nat), E.length = i + d → d * (E.length + 2) + 1103 + E.length + rnd E ≤ k →
    r34_Longest.l0 k seed n (most E seed n i) i (E.map (·.f0)) R sl = some (most E seed n E.length : Int) := by
  have hle := hE.1
  induction d with
  | zero =>
    intro k i hd hk
    obtain ⟨k, rfl⟩ : ∃ m, k = m + 1 := ⟨k - 1, by omega⟩
    simp only [r34_Longest.l0]
    rw [if_neg (by rw [List.length_map]; omega), show i = E.length by omega]
  | succ d ih =>
    intro k i hd hk
    obtain ⟨k, rfl⟩ : ∃ m, k = m + 1 := ⟨k - 1, by omega⟩
    have hi : i < E.length := by omega
    have hml := most_le E seed n i
    rw [Nat.succ_mul] at hk
    simp only [r34_Longest.l0]
    rw [if_pos (by rw [List.length_map]; omega)]
    have h0 := lng_l1 E hE seed n n1 n2 R sl i hi (most E seed n i) (by omega) (some (most E seed n E.length : Int)) E.length k 0 (by omega) (by omega) (fun k' hk' => by
      have := ih k' (i + 1) (by omega) (by omega)
      rw [most_succ E seed n hi] at this
      rw [← this]
      congr 1
      split <;> omega)
    have e0 : cnt (E.take 0) seed n (bk seed n E[i].f0) = 0 := by simp [cnt]
    rw [e0] at h0
    exact h0
theorem rlng_is (hE : EOK E) (seed b : Int) (R : List (List S23)) (sl : Bool) : ∃ k, r34_Longest.f k (E.map (·.f0)) R sl seed b = some (most E seed (nbk b) E.length : Int) := by
  obtain ⟨K, hK⟩ : ∃ K, K = E.length * (E.length + 2) + 1103 + E.length + rnd E := ⟨_, rfl⟩
  refine ⟨K + 2, ?_⟩
  have key : ∀ n : Nat, 1 ≤ n → n ≤ 4096 → r34_Longest.j1 (K + 1) seed n (E.map (·.f0)) R sl = some (most E seed n E.length : Int) := by
    intro n n1 n2
    simp only [r34_Longest.j1]
    exact lng_l0 E hE seed n n1 n2 R sl E.length K 0 (by omega) (by omega)
  unfold r34_Longest.f
  have e : K + 2 = K + 1 + 1 := rfl
  by_cases c : b < 1
  · have hn : nbk b = 1 := by unfold nbk; rw [if_pos c]
    rw [if_pos c, e, hn]
    simp only [r34_Longest.j0]
    rw [if_neg (by omega)]
    exact key 1 (by omega) (by omega)
  · rw [if_neg c, e]
    simp only [r34_Longest.j0]
    by_cases c2 : b > 4096
    · have hn : nbk b = 4096 := by unfold nbk; rw [if_neg c, if_pos (by omega)]
      rw [if_pos c2, hn]
      exact key 4096 (by omega) (by omega)
    · have hn : (nbk b : Int) = b := by unfold nbk; rw [if_neg c, if_neg (by omega)]; omega
      rw [if_neg c2]
      have := key (nbk b) (by omega) (by omega)
      rw [hn] at this
      exact this
theorem most_ge (seed : Int) (n : Nat) {j : Nat} (hj : j < E.length) : ∀ i, j < i → cnt E seed n (bk seed n E[j].f0) ≤ most E seed n i
  | 0, h => by omega
  | i + 1, h => by
    unfold most
    by_cases c : j = i
    · subst c
      rw [dif_pos hj]
      omega
    · have := most_ge seed n hj i (by omega)
      omega
theorem most_ex (seed : Int) (n : Nat) : ∀ i, most E seed n i = 0 ∨ ∃ j, ∃ h : j < E.length, most E seed n i = cnt E seed n (bk seed n E[j].f0)
  | 0 => .inl rfl
  | i + 1 => by
    unfold most
    by_cases c : i < E.length
    · rw [dif_pos c]
      rcases Nat.le_total (most E seed n i) (cnt E seed n (bk seed n E[i].f0)) with q | q
      · exact .inr ⟨i, c, by omega⟩
      · rcases most_ex seed n i with h | ⟨j, h, e⟩
        · exact .inl (by omega)
        · exact .inr ⟨j, h, by omega⟩
    · rw [dif_neg c]
      rcases most_ex seed n i with h | ⟨j, h, e⟩
      · exact .inl (by omega)
      · exact .inr ⟨j, h, by omega⟩
end
theorem lgst_ge {T : Tb} {j : Nat} : ∀ k, j < k → ((T.ch j).length : Int) ≤ lgst T k
  | 0, h => by omega
  | k + 1, h => by
    unfold lgst mx
    by_cases c : j = k
    · subst c
      split <;> omega
    · have := lgst_ge (T := T) k (show j < k by omega)
      split <;> omega
theorem lgst_ex {T : Tb} : ∀ k, lgst T k = 0 ∨ ∃ j, j < k ∧ lgst T k = ((T.ch j).length : Int)
  | 0 => .inl rfl
  | k + 1 => by
    unfold lgst mx
    split
    · exact .inr ⟨k, by omega, rfl⟩
    · rcases lgst_ex (T := T) k with h | ⟨j, h, e⟩
      · exact .inl h
      · exact .inr ⟨j, by omega, e⟩
theorem lgst_nn {T : Tb} : ∀ k, 0 ≤ lgst T k
  | 0 => Int.le_refl _
  | k + 1 => by
    have := lgst_nn (T := T) k
    unfold lgst mx
    split <;> omega
theorem good_cnt {T : Tb} (h : Good T) {j : Nat} (hj : j < T.n) : (T.ch j).length = cnt (T.ch T.n) T.seed T.n j := congrArg List.length (h j hj)
theorem lgst_up {T : Tb} (h : Good T) : lgst T T.n ≤ (most (T.ch T.n) T.seed T.n (T.ch T.n).length : Int) := by
  rcases lgst_ex (T := T) T.n with e | ⟨j, hj, e⟩
  · rw [e]; exact Int.natCast_nonneg _
  · have e1 := good_cnt h hj
    rw [e, e1]
    clear e e1
    obtain ⟨E, hE⟩ : ∃ E, E = T.ch T.n := ⟨_, rfl⟩
    rw [← hE]
    clear hE h hj
    by_cases z : cnt E T.seed T.n j = 0
    · rw [z]; exact Int.natCast_nonneg _
    · have z2 : (E.filter fun p => bk T.seed T.n p.f0 == j).length ≠ 0 := by
        unfold cnt at z
        exact z
      obtain ⟨p, hp⟩ := List.exists_mem_of_length_pos (Nat.pos_of_ne_zero z2)
      have hp2 := List.mem_filter.1 hp
      obtain ⟨i, hi, rfl⟩ := List.getElem_of_mem hp2.1
      have := most_ge E T.seed T.n hi E.length hi
      rw [beq_iff_eq.1 hp2.2] at this
      exact Int.ofNat_le.2 this
theorem lgst_down {T : Tb} (h : Good T) (n1 : 1 ≤ T.n) : (most (T.ch T.n) T.seed T.n (T.ch T.n).length : Int) ≤ lgst T T.n := by
  rcases most_ex (T.ch T.n) T.seed T.n (T.ch T.n).length with e | ⟨j, hj, e⟩
  · rw [e]
    exact lgst_nn _
  · rw [e, ← good_cnt h (bk_lt _ _ _ n1)]
    exact lgst_ge (T := T) T.n (bk_lt _ _ _ n1)
theorem lgst_is {T : Tb} (h : Good T) (n1 : 1 ≤ T.n) : lgst T T.n = (most (T.ch T.n) T.seed T.n (T.ch T.n).length : Int) := Int.le_antisymm (lgst_up h) (lgst_down h n1)
theorem tab_longest {w : World} {base gT : Nat} {S D : Nat → Prop} {seed : Int} {n : Nat} {sl : Bool} {E : List S116} (h : Tab w base S D gT seed n sl E) :
    Calls Tryd.prog 35 #[.pointer (some ⟨gT, 0, none⟩)] w fun r w' => r = .returned (.int .i64 (most E seed n E.length)) ∧ w' = w := by
  obtain ⟨T, gB, v, h1, rfl, rfl, h4, rfl, h6⟩ := h
  rw [← lgst_is h6 h1.n1]
  exact longest_any h1
end Go.Proofs.YtcfgjaggccnoaaaDoor.PTableSteps
namespace Go.Proofs.YtcfgjaggccnoaaaDoor.PTableSteps
open Go.RowKit Go.Proofs.YtcfgjaggccnoaaaDoorW.PrintWords Go.Proofs.YtcfgjaggccnoaaaDoorW.PrintLast Go.Proofs.YtcfgjaggccnoaaaDoorW.PrintMore
attribute [local go_sem] max2_int min2_int max_two min_two max_three min_three max_four min_four
set_option linter.unusedVariables false
set_option linter.unusedSimpArgs false
set_option maxRecDepth 100000
set_option maxHeartbeats 4000000
def HF (W : World) (ok : Nat → Prop) (A : Option Addr) (c : Nat) (l : List (List S23)) : Prop := l.length ≤ c ∧ Kd.F (Kd.slice 23 k23) W ok A l.length l
def noD (D : Nat → Prop) (gH : Nat) (k : Nat) : Prop := ¬ D k ∧ k ≠ gH
def HB (W : World) (gH : Nat) (A0 : Option Addr) (c0 : Nat) (A1 : Option Addr) (c1 n : Nat) (b : Bool) : Prop := W.heap[gH]? = some (.cells #[.slice A0 n c0, .slice A1 n c1, .bool b] 58 (0, 0))
def TS (w W : World) (gx gH : Nat) (a : Int) (n : Nat) (q p : Bool × List S116) : Prop :=
  ∃ bx S D A0 c0 A1 c1, Tab W bx S D gx a n q.1 q.2 ∧ (w.heap.size ≤ bx ∧ bx ≤ W.heap.size) ∧ Below w.heap.size w W ∧ HB W gH A0 c0 A1 c1 p.2.length p.1 ∧ (w.heap.size ≤ gH ∧ gH < W.heap.size ∧ ¬ D gH) ∧ HF W (noD D gH) A0 c0 (p.2.map (·.f0)) ∧ HF W (noD D gH) A1 c1 (p.2.map (·.f1))
section
variable {w W W' : World} {gx gH n : Nat} {a : Int} {q p : Bool × List S116}
theorem HF.below {ok : Nat → Prop} {A : Option Addr} {c : Nat} {l : List (List S23)} (h : HF W ok A c l) (hb : Below W.heap.size W W') : HF W' ok A c l := ⟨h.1, Kd.F_below h.2 hb⟩
theorem HF.mono {ok ok' : Nat → Prop} {A : Option Addr} {c : Nat} {l : List (List S23)} (h : HF W ok A c l) (hm : ∀ k, ok k → k < W.heap.size → ok' k) : HF W ok' A c l := ⟨h.1, Kd.F_mono (Kd.F_bound h.2) fun k hk => hm k hk.1 hk.2⟩
theorem HF.step {ok : Nat → Prop} {A : Option Addr} {c : Nat} {l : List (List S23)} (h : HF W ok A c l) (hm : ∀ k, ok k → k < W.heap.size → W'.heap[k]? = W.heap[k]?) : HF W' ok A c l := ⟨h.1, Kd.F_step h.2 hm⟩
theorem HF.C {ok : Nat → Prop} {A : Option Addr} {c : Nat} {l : List (List S23)} (h : HF W ok A c l) : Kd.C (Kd.slice 23 k23) W A l.length l := Kd.F_now h.2
theorem HF.V {ok : Nat → Prop} {A : Option Addr} {c b e : Nat} {l : List (List S23)} (h : HF W ok A c l) : Kd.V (Kd.slice 23 k23) e W b ok (.slice A l.length c) l := Kd.V_mk h.1 h.2
theorem TS.bl (h : TS w W gx gH a n q p) : Below w.heap.size w W := by
  obtain ⟨_, _, _, _, _, _, _, _, _, h, _⟩ := h
  exact h
theorem TS.below (h : TS w W gx gH a n q p) (hb : Below W.heap.size W W') : TS w W' gx gH a n q p := by
  obtain ⟨bx, S, D, A0, c0, A1, c1, h1, h2, h3, h4, h5, h6, h7⟩ := h
  exact ⟨bx, S, D, A0, c0, A1, c1, h1.below hb, ⟨h2.1, Nat.le_trans h2.2 hb.size⟩, below_step h3 hb, blk_below h4 hb, ⟨h5.1, Nat.lt_of_lt_of_le h5.2.1 hb.size, h5.2.2⟩, h6.below hb, h7.below hb⟩
theorem HF.go {S D D' : Nat → Prop} {A : Option Addr} {c : Nat} {l : List (List S23)} (h : HF W (noD D gH) A c l) (hk : Kp S W W') (hs : ∀ k, S k → D k) (hd : ∀ k, D' k → D k ∨ W.heap.size ≤ k) : HF W' (noD D' gH) A c l := by
  have h1 := h.mono (ok' := fun k => noD D gH k ∧ k < W.heap.size) fun k hk hl => ⟨hk, hl⟩
  have h2 := h1.step (W' := W') fun k hk2 hl => hk.2 k hl fun hS => hk2.1.1 (hs k hS)
  exact h2.mono fun k hk2 _ => ⟨fun hD => (hd k hD).elim hk2.1.1 fun q => by have := hk2.2; omega, hk2.1.2⟩
def TSD (w W : World) (gx gH : Nat) (a : Int) (n : Nat) (r : Bool × List S116 × List (List S23) × Int) (p : Bool × List S116) (ret : Ending) (W' : World) : Prop :=
  ∃ v, ret = .returned (.tuple #[v, .int .i64 r.2.2.2]) ∧ Kd.R (Kd.slice 23 k23) 24 W' W.heap.size (fun k => W.heap.size ≤ k ∧ k < W'.heap.size) v r.2.2.1 ∧ TS w W' gx gH a n (r.1, r.2.1) p ∧ W.heap.size ≤ W'.heap.size
theorem TS.step (h : TS w W gx gH a n q p) {A0 A1 : Option Addr} {c0 c1 : Nat} (hT : TabOK w) (hE : EOK q.2) (s : S39) (hK : Kd.C k23 W A0 s.f1.length s.f1) (hc : s.f1.length ≤ c0) (hR : Kd.C k23 W A1 s.f2.length s.f2) (hc' : s.f2.length ≤ c1) (l1 : KOK s.f1) (l2 : KOK s.f2) :
    Calls Tryd.prog 20 #[.pointer (some ⟨gx, 0, none⟩), .agg #[.int .i64 s.f0, .slice A0 s.f1.length c0, .slice A1 s.f2.length c1]] W (TSD w W gx gH a n (stp q.1 q.2 s) p) := by
  obtain ⟨bx, S, D, A0', c0', A1', c1', h1, h2, h3, h4, h5, h6, h7⟩ := h
  refine (do_any h1 (hT.below h3) hE h2.2 s hK hc hR hc' l1 l2).mono ?_
  rintro r W' ⟨v, e, hr, S', D', t1, t2, t3, t4, t5⟩
  exact ⟨v, e, R_rng hr, ⟨bx, S', D', A0', c0', A1', c1', t1, ⟨h2.1, Nat.le_trans h2.2 t4.1⟩, h3.trans (t5.mono h2.1), (t4.2 gH h5.2.1 fun hs => h5.2.2 (h1.sd gH hs)).trans h4, ⟨h5.1, Nat.lt_of_lt_of_le h5.2.1 t4.1, fun hd => (t3 gH hd).elim h5.2.2 fun z => by have := h5.2.1; omega⟩, h6.go t4 h1.sd t3, h7.go t4 h1.sd t3⟩, t4.1⟩
theorem TS.len (h : TS w W gx gH a n q p) : Calls Tryd.prog 23 #[.pointer (some ⟨gx, 0, none⟩)] W fun r w' => r = .returned (.int .i64 q.2.length) ∧ w' = W := by
  obtain ⟨bx, S, D, A0, c0, A1, c1, h1, h2⟩ := h
  exact tab_len h1
theorem TS.sealed (h : TS w W gx gH a n q p) : Calls Tryd.prog 32 #[.pointer (some ⟨gx, 0, none⟩)] W fun r w' => r = .returned (.bool q.1) ∧ w' = W := by
  obtain ⟨bx, S, D, A0, c0, A1, c1, h1, h2⟩ := h
  exact tab_sealed h1
theorem TS.keys (h : TS w W gx gH a n q p) (hE : EOK q.2) : Calls Tryd.prog 33 #[.pointer (some ⟨gx, 0, none⟩)] W (KeyD W ((q.2.filter fun p => whB p.f0).map (·.f0))) := by
  obtain ⟨bx, S, D, A0, c0, A1, c1, h1, h2⟩ := h
  exact tab_keys h1 hE
theorem TS.longest (h : TS w W gx gH a n q p) : Calls Tryd.prog 35 #[.pointer (some ⟨gx, 0, none⟩)] W fun r w' => r = .returned (.int .i64 (most q.2 a n q.2.length)) ∧ w' = W := by
  obtain ⟨bx, S, D, A0, c0, A1, c1, h1, h2⟩ := h
  exact tab_longest h1
theorem ts_new {w1 w2 : World} {m : Int} (h : ∃ S D, Tab w1 w.heap.size S D gx a (nbk m) false [] ∧ Below w.heap.size w w1) (hg : gH = w1.heap.size) (hb : w2.heap[gH]? = some (.cells #[.slice none 0 0, .slice none 0 0, .bool false] 58 (0, 0))) (hl : Below w1.heap.size w1 w2) : TS w w2 gx gH a (nbk m) (false, []) (false, []) := by
  obtain ⟨S, D, t, b⟩ := h
  have hz := b.size
  have h0 : ∀ ok, HF w2 ok none 0 ([] : List (List S23)) := fun ok => ⟨Nat.le_refl _, Kd.F_nil _ _ _⟩
  exact ⟨w.heap.size, S, D, none, 0, none, 0, t.below hl, ⟨Nat.le_refl _, Nat.le_trans hz hl.size⟩, below_step b hl, hb, ⟨by omega, blk_lt hb, fun hd => by have := (t.dl gH hd).2; omega⟩, h0 _, h0 _⟩
def okG (D : Nat → Prop) (gH N z : Nat) (k : Nat) : Prop := noD D gH k ∨ k < N ∨ z ≤ k
def GoR (W : World) (D : Nat → Prop) (gH N : Nat) (r : Bool × List S116 × List (List S23) × Int) (ret : Ending) (W' : World) : Prop :=
  ∃ A0 c0 A1 c1 A2 c2, ret = .returned (.tuple #[.agg #[.slice A0 r.2.1.length c0, .slice A1 r.2.1.length c1, .bool r.1], .slice A2 r.2.2.1.length c2, .int .i64 r.2.2.2]) ∧ HF W' (okG D gH N W.heap.size) A0 c0 (r.2.1.map (·.f0)) ∧ HF W' (okG D gH N W.heap.size) A1 c1 (r.2.1.map (·.f1)) ∧ HF W' (okG D gH N W.heap.size) A2 c2 r.2.2.1 ∧ Below W.heap.size W W'
theorem go_any {D : Nat → Prop} {A0 A1 B1 B2 : Option Addr} {c0 c1 b1 b2 N : Nat} (h0 : HF W (noD D gH) A0 c0 (p.2.map (·.f0))) (h1 : HF W (noD D gH) A1 c1 (p.2.map (·.f1))) (hE : p.2.length ≤ 1000) (s : S39) (l1 : KOK s.f1) (hB1 : Kd.F k23 W (fun k => k < N) B1 s.f1.length s.f1) (hb1 : s.f1.length ≤ b1) (hB2 : Kd.F k23 W (fun k => k < N) B2 s.f2.length s.f2) (hb2 : s.f2.length ≤ b2) :
    Calls Tryd.prog 31 #[.agg #[.slice A0 p.2.length c0, .slice A1 p.2.length c1, .bool p.1], .agg #[.int .i64 s.f0, .slice B1 s.f1.length b1, .slice B2 s.f2.length b2]] W (GoR W D gH N (stp p.1 p.2 s)) := by
  have e0 : (p.2.map (·.f0)).length = p.2.length := List.length_map _
  have e1 : (p.2.map (·.f1)).length = p.2.length := List.length_map _
  have hc := r34_Go.calls (p.2.length + (s.f1.length + 2 * rowN s.f1 + 4)) (noD D gH) A0 c0 (p.2.map (·.f0)) (noD D gH) A1 c1 (p.2.map (·.f1)) p.1 s.f0 (fun k => k < N) B1 b1 s.f1 (fun k => k < N) B2 b2 s.f2 _ _ _ _ _ W h0.V h1.V (Kd.V_mk hb1 hB1) (Kd.V_mk hb2 hB2) (go_is p.2 hE p.1 s l1 _ (Nat.le_refl _))
  rw [e0, e1] at hc
  refine hc.mono ?_
  rintro r W' ⟨v0, v1, v3, e, k0, k1, k3, kb⟩
  have hok : ∀ k, ((noD D gH k ∨ noD D gH k ∨ k < N ∨ k < N) ∨ W.heap.size ≤ k) → okG D gH N W.heap.size k := fun k hk => by
    rcases hk with (h | h | h | h) | h
    · exact .inl h
    · exact .inl h
    · exact .inr (.inl h)
    · exact .inr (.inl h)
    · exact .inr (.inr h)
  obtain ⟨A0', c0', rfl⟩ := Kd.V_slice k0
  obtain ⟨A1', c1', rfl⟩ := Kd.V_slice k1
  obtain ⟨A2', c2', rfl⟩ := Kd.N_slice k3
  have f0 := Kd.V_at k0
  have f1 := Kd.V_at k1
  have f2 := Kd.V_at (Kd.N_V (base' := 0) k3)
  have q0 : ((stp p.1 p.2 s).2.1.map (·.f0)).length = (stp p.1 p.2 s).2.1.length := List.length_map _
  have q1 : ((stp p.1 p.2 s).2.1.map (·.f1)).length = (stp p.1 p.2 s).2.1.length := List.length_map _
  refine ⟨A0', c0', A1', c1', A2', c2', ?_, ⟨f0.2.1, Kd.F_mono f0.2.2 fun k hk => hok k hk.1⟩, ⟨f1.2.1, Kd.F_mono f1.2.2 fun k hk => hok k hk.1⟩, ⟨f2.2.1, Kd.F_mono f2.2.2 fun k hk => hok k hk⟩, kb⟩
  rw [e, q0, q1]
end
end Go.Proofs.YtcfgjaggccnoaaaDoor.PTableSteps
namespace Go.Proofs.YtcfgjaggccnoaaaDoor.PTableSteps
open Go.RowKit Go.Proofs.YtcfgjaggccnoaaaDoorW.PrintWords Go.Proofs.YtcfgjaggccnoaaaDoorW.PrintLast Go.Proofs.YtcfgjaggccnoaaaDoorW.PrintMore
attribute [local go_sem] max2_int min2_int max_two min_two max_three min_three max_four min_four
set_option linter.unusedVariables false
set_option linter.unusedSimpArgs false
set_option maxRecDepth 100000
set_option maxHeartbeats 4000000
theorem at_F39 {W : World} {ok : Nat → Prop} {A : Option Addr} {n : Nat} {xs : List S39} (h : Kd.F k39 W ok A n xs) (i : Int) (h0 : 0 ≤ i) (h1 : i < n) : ∃ ad A1 c1 A2 c2, A = some ad ∧ W.cell? (ad.add (i.toNat * 3)) = some (.int .i64 (rd_T39 xs i).f0) ∧ W.cell? ⟨(ad.add (i.toNat * 3)).block, (ad.add (i.toNat * 3)).off + 1, none⟩ = some (.slice A1 (rd_T39 xs i).f1.length c1) ∧ W.cell? ⟨(ad.add (i.toNat * 3)).block, (ad.add (i.toNat * 3)).off + 2, none⟩ = some (.slice A2 (rd_T39 xs i).f2.length c2) ∧ (rd_T39 xs i).f1.length ≤ c1 ∧ Kd.F k23 W ok A1 (rd_T39 xs i).f1.length (rd_T39 xs i).f1 ∧ (rd_T39 xs i).f2.length ≤ c2 ∧ Kd.F k23 W ok A2 (rd_T39 xs i).f2.length (rd_T39 xs i).f2 := by
  obtain ⟨ad, c, e, _, hK, hc0, _⟩ := Kd.F_get h z39 i h0 h1
  have hc : ∀ j u, c[j]? = some u → W.cell? (ad.add (i.toNat * 3 + j)) = some u := hc0
  obtain ⟨A1, c1, A2, c2, rfl, l1, g1, l2, g2⟩ := k39_openF hK
  exact ⟨ad, A1, c1, A2, c2, e, hc 0 _ rfl, by rw [← add_field _ _ 1 (by omega)]; exact hc 1 _ rfl, by rw [← add_field _ _ 2 (by omega)]; exact hc 2 _ rfl, l1, g1, l2, g2⟩
theorem msr2_ {k n : Nat} (h : k < n) : n - (intOf (.int .i64 ((k : Int) + 1))).toNat < n - (intOf (.int .i64 (k : Int))).toNat := by
  simp only [intOf]
  omega
theorem boxV_ {P : Program} {ops : Array Oper} {Q : Exit → Act → World → Prop} {oi : Oper} {N : Tmp} {a : Act} {w : World} {K : Act → World → Prop} {cs : Array Value} {t : TypeId} (hw : Region.wanted oi (yielded ops a.tmps) = true) (hN : oi.dst = some N) (hrun : (execOp a.eval oi).run P w = .ok (.value (.pointer (some ⟨w.heap.size, 0, none⟩))) (w.alloc (.cells cs t (0, 0))))
    (h : ∀ g, g = w.heap.size → ∀ w1, w1.heap[g]? = some (.cells cs t (0, 0)) → Below w.heap.size w w1 → K (a.put (some N) (.pointer (some ⟨g, 0, none⟩))) w1) : if Region.wanted oi (yielded ops a.tmps) = true then Oper.wp P oi a w K Q else K (a.put (some N) undef) w :=
  value_ hw hN hrun (h _ rfl _ (blk_new w _) (below_alloc (Below.refl _ _) _))
theorem put3_ {W : World} {gb t : Nat} {c0 c1 c2 v0 v1 v2 : Value} (hb : W.heap[gb]? = some (.cells #[c0, c1, c2] t (0, 0))) : (((W.setCell ⟨gb, 0, none⟩ v0).setCell ⟨gb, 1, none⟩ v1).setCell ⟨gb, 2, none⟩ v2).heap[gb]? = some (.cells #[v0, v1, v2] t (0, 0)) := by
  replace hb := blk_put (cs := #[c0, c1, c2]) (cs' := #[v0, c1, c2]) hb 0 v0 rfl
  replace hb := blk_put (cs := #[v0, c1, c2]) (cs' := #[v0, v1, c2]) hb 1 v1 rfl
  replace hb := blk_put (cs := #[v0, v1, c2]) (cs' := #[v0, v1, v2]) hb 2 v2 rfl
  exact hb
theorem st3_far {W : World} {g k : Nat} {v0 v1 v2 : Value} (h : k ≠ g) : (((W.setCell ⟨g, 0, none⟩ v0).setCell ⟨g, 1, none⟩ v1).setCell ⟨g, 2, none⟩ v2).heap[k]? = W.heap[k]? := by
  rw [Below.heap_setCell _ _ _ k (by exact h), Below.heap_setCell _ _ _ k (by exact h), Below.heap_setCell _ _ _ k (by exact h)]
theorem st3_below {W : World} {g b : Nat} {v0 v1 v2 : Value} (h : b ≤ g) : Below b W (((W.setCell ⟨g, 0, none⟩ v0).setCell ⟨g, 1, none⟩ v1).setCell ⟨g, 2, none⟩ v2) := (((Below.refl b W).setCell h _).setCell h _).setCell h _
theorem okG_le {D : Nat → Prop} {gH N z z' k : Nat} (h : z' ≤ z) (hk : okG D gH N z k) : okG D gH N z' k := hk.imp id (fun q => q.imp id fun q => Nat.le_trans h q)
theorem ts_close {w w0 W Wx : World} {gx gH g12 n bx c0 c1 c2 m e0 e1 : Nat} {a : Int} {S D : Nat → Prop} {q p : Bool × List S116} {E0 E1 A0 A1 A2 : Option Addr} {b b0 : Bool} {rows want : List (List S23)} {v z0 z1 z2 : Value} {zW : Nat} (h1 : Tab W bx S D gx a n q.1 q.2) (h2 : w.heap.size ≤ bx ∧ bx ≤ W.heap.size) (h3 : Below w.heap.size w W) (h4 : HB W gH E0 e0 E1 e1 m b0) (h5 : w.heap.size ≤ gH ∧ gH < W.heap.size ∧ ¬ D gH) (hw : w0.heap.size ≤ w.heap.size)
    (hb : Below W.heap.size W Wx) (hg : W.heap.size ≤ g12) (h12 : Wx.heap[g12]? = some (.cells #[z0, z1, z2] 58 (0, 0))) (k0 : HF Wx (fun k => okG D gH w0.heap.size W.heap.size k ∧ k ≠ g12) A0 c0 (p.2.map (·.f0))) (k1 : HF Wx (fun k => okG D gH w0.heap.size W.heap.size k ∧ k ≠ g12) A1 c1 (p.2.map (·.f1))) (k2 : HF Wx (fun k => okG D gH w0.heap.size W.heap.size k ∧ k ≠ g12) A2 c2 want)
    (hr : Kd.R (Kd.slice 23 k23) 24 W zW (fun k => zW ≤ k ∧ k < W.heap.size) v rows) (hz : gH < zW) (hp : p.1 = b) :
    ∃ W4, W4 = (((((((Wx.setCell ⟨g12, 0, none⟩ (.slice A0 p.2.length c0)).setCell ⟨g12, 1, none⟩ (.slice A1 p.2.length c1)).setCell ⟨g12, 2, none⟩ (.bool b))).setCell ⟨gH, 0, none⟩ (.slice A0 p.2.length c0)).setCell ⟨gH, 1, none⟩ (.slice A1 p.2.length c1)).setCell ⟨gH, 2, none⟩ (.bool b)) ∧ TS w W4 gx gH a n q p ∧ HF W4 (fun _ => True) A2 c2 want ∧ Kd.R (Kd.slice 23 k23) 24 W4 zW (fun k => zW ≤ k ∧ k < W.heap.size) v rows := by
  subst hp
  have e3 := st3_below (W := Wx) (g := g12) (b := Wx.heap.size) (v0 := .slice A0 p.2.length c0) (v1 := .slice A1 p.2.length c1) (v2 := .bool p.1)
  obtain ⟨Wy, hWy⟩ : ∃ Wy, Wy = (((Wx.setCell ⟨g12, 0, none⟩ (.slice A0 p.2.length c0)).setCell ⟨g12, 1, none⟩ (.slice A1 p.2.length c1)).setCell ⟨g12, 2, none⟩ (.bool p.1)) := ⟨_, rfl⟩
  have yfar : ∀ k, k ≠ g12 → Wy.heap[k]? = Wx.heap[k]? := fun k hk => by rw [hWy]; exact st3_far hk
  have ysz : Wx.heap.size ≤ Wy.heap.size := by rw [hWy]; exact (st3_below (Nat.le_refl g12)).size
  have yb : Below w.heap.size w Wy := by rw [hWy]; exact (below_step h3 hb).trans (st3_below (by omega))
  obtain ⟨W4, hW4⟩ : ∃ W4, W4 = (((Wy.setCell ⟨gH, 0, none⟩ (.slice A0 p.2.length c0)).setCell ⟨gH, 1, none⟩ (.slice A1 p.2.length c1)).setCell ⟨gH, 2, none⟩ (.bool p.1)) := ⟨_, rfl⟩
  have far : ∀ k, k ≠ gH → W4.heap[k]? = Wy.heap[k]? := fun k hk => by rw [hW4]; exact st3_far hk
  have sz : Wy.heap.size ≤ W4.heap.size := by rw [hW4]; exact (st3_below (Nat.le_refl gH)).size
  have b4 : Below w.heap.size w W4 := by rw [hW4]; exact yb.trans (st3_below h5.1)
  have hxs := hb.size
  have keep : ∀ k, k < W.heap.size → k ≠ gH → W4.heap[k]? = W.heap[k]? := fun k hk hk2 => ((far k hk2).trans (yfar k (by omega))).trans (hb.block k hk)
  have st : ∀ k, (okG D gH w0.heap.size W.heap.size k ∧ k ≠ g12) → k < Wx.heap.size → W4.heap[k]? = Wx.heap[k]? := fun k hk _ => by
    refine (far k ?_).trans (yfar k hk.2)
    rcases hk.1 with q | q | q
    · exact q.2
    · omega
    · omega
  have fin : ∀ k, (okG D gH w0.heap.size W.heap.size k ∧ k ≠ g12) → k < W4.heap.size → noD D gH k := fun k hk _ => by
    rcases hk.1 with q | q | q
    · exact q
    · exact ⟨fun hD => by have := (h1.dl k hD).1; omega, by omega⟩
    · exact ⟨fun hD => by have := (h1.dl k hD).2; omega, by omega⟩
  have hB : HB W4 gH A0 c0 A1 c1 p.2.length p.1 := by
    have hy : Wy.heap[gH]? = some (.cells #[.slice E0 m e0, .slice E1 m e1, .bool b0] 58 (0, 0)) := (yfar gH (by omega)).trans ((hb.block gH h5.2.1).trans h4)
    rw [hW4]
    exact put3_ hy
  have hTab : Tab W4 bx S D gx a n q.1 q.2 := h1.kp (S' := fun k => k = gH) ⟨by omega, fun k hk hn => keep k hk hn⟩ fun k hk e => h5.2.2 (e ▸ hk)
  refine ⟨W4, by rw [hW4, hWy], ⟨bx, S, D, A0, c0, A1, c1, hTab, ⟨h2.1, by omega⟩, b4, hB, ⟨h5.1, by omega, h5.2.2⟩, (k0.step st).mono fin, (k1.step st).mono fin⟩, (k2.step st).mono fun _ _ _ => trivial, Kd.R_step hr fun k hk hl => keep k hl (by omega)⟩
def RkR (W : World) (L : List (List S23)) (ret : Ending) (W' : World) : Prop := ∃ A c, ret = .returned (.slice A L.length c) ∧ Kd.C (Kd.slice 23 k23) W' A L.length L ∧ L.length ≤ c ∧ Below W.heap.size W W'
theorem rk_any {w W : World} {gx gH n : Nat} {a : Int} {q p : Bool × List S116} {D : Nat → Prop} {A0 A1 : Option Addr} {c0 c1 : Nat} (h0 : HF W (noD D gH) A0 c0 (p.2.map (·.f0))) (h1 : HF W (noD D gH) A1 c1 (p.2.map (·.f1))) (hE : EOK p.2) :
    Calls Tryd.prog 34 #[.agg #[.slice A0 p.2.length c0, .slice A1 p.2.length c1, .bool p.1]] W (RkR W ((p.2.filter fun p => whB p.f0).map (·.f0))) := by
  have e0 : (p.2.map (·.f0)).length = p.2.length := List.length_map _
  have e1 : (p.2.map (·.f1)).length = p.2.length := List.length_map _
  have hc := r34_Keys.calls 2100 (noD D gH) A0 c0 (p.2.map (·.f0)) A1 c1 (p.2.map (·.f1)) p.1 _ W h0.V h1.C h1.1 (rkeys_is p.2 hE.1 (fun z hz => (hE.2 z hz).1.1) p.1 _ 2100 (Nat.le_refl _))
  rw [e0, e1] at hc
  refine hc.mono ?_
  rintro r W' ⟨v, e, k, kb⟩
  obtain ⟨A, c, rfl⟩ := Kd.N_slice k
  have f := Kd.N_reads' k
  exact ⟨A, c, e, f.2.2, f.2.1, kb⟩
theorem rl_any {W : World} {gH : Nat} {a b : Int} {p : Bool × List S116} {D : Nat → Prop} {A0 A1 : Option Addr} {c0 c1 : Nat} (h0 : HF W (noD D gH) A0 c0 (p.2.map (·.f0))) (h1 : HF W (noD D gH) A1 c1 (p.2.map (·.f1))) (hE : EOK p.2) :
    Calls Tryd.prog 36 #[.agg #[.slice A0 p.2.length c0, .slice A1 p.2.length c1, .bool p.1], .int .i64 a, .int .i64 b] W fun r W' => r = .returned (.int .i64 (most p.2 a (nbk b) p.2.length)) ∧ Below W.heap.size W W' := by
  have e0 : (p.2.map (·.f0)).length = p.2.length := List.length_map _
  have e1 : (p.2.map (·.f1)).length = p.2.length := List.length_map _
  obtain ⟨k, hk⟩ := rlng_is p.2 hE a b (p.2.map (·.f1)) p.1
  have hc := r34_Longest.calls k A0 c0 (p.2.map (·.f0)) A1 c1 (p.2.map (·.f1)) p.1 a b _ W h0.C h0.1 h1.C h1.1 hk
  rw [e0, e1] at hc
  exact hc
theorem okx {D : Nat → Prop} {gH g12 N z2 z4 k : Nat} (h1 : z2 ≤ g12) (h2 : g12 < z4) (h3 : z2 ≤ z4) (h4 : N ≤ z2) (hk : okG (fun k => D k ∨ k = g12) gH N z4 k) : okG D gH N z2 k ∧ k ≠ g12 := by
  rcases hk with q | q | q
  · exact ⟨.inl ⟨fun h => q.1 (.inl h), q.2⟩, fun h => q.1 (.inr h)⟩
  · exact ⟨.inr (.inl q), by omega⟩
  · exact ⟨.inr (.inr (Nat.le_trans h3 q)), by omega⟩
theorem steps_any (w : World) {l : List S39} {A : Option Addr} {c : Nat} (a m : Int) (hF : Kd.F k39 w (fun _ => True) A l.length l) (hV : Kd.V k39 39 w w.heap.size (fun _ => True) (.slice A l.length c) l) (hc : l.length ≤ c) (hs : ∀ s ∈ l, (∀ y ∈ s.f1, y.f2.size ≤ 140737488351232) ∧ ∀ y ∈ s.f2, y.f2.size ≤ 140737488351232) (hT : TabOK w) :
    Calls Tryd.prog 6 #[.int .i64 a, .int .i64 m, .slice A l.length c] w fun r w' => r = .returned (.bool true) ∧ Below w.heap.size w w' := by
  obtain ⟨bb, hb, hp⟩ := rmuch_is l hs 3100 (by omega)
  have HT := Lib.hid hT; have HV := Lib.hid hV; have HM := Lib.hid hb
  have HL : Hid (∀ W, Below w.heap.size w W → Kd.F k39 W (fun k => k < w.heap.size) A l.length l) := Lib.hid fun W hW => Kd.F_mono (Kd.F_old hF hW) fun k hk => hk.2
  cases bb
  · obtain ⟨hl, hlen⟩ := hp rfl
    have hko : ∀ s ∈ l, KOK s.f1 ∧ KOK s.f2 := fun s h => ⟨⟨by have := (hlen s h).1; omega, (hs s h).1⟩, by have := (hlen s h).2; omega, (hs s h).2⟩
    have HKO0 := Lib.hid hko; have HLL := Lib.hid hl
    have hru := Lib.hid (runs_ok hko hl)
    clear hT hV hb hp hF hs hlen hko
    go_enter Tryd.func6, Tryd.ntmps6
    go_wp2_with (first
      | ((with_reducible refine gate_callee (f := 17) rfl ?_); refine goesL_ (some 16) rfl rfl Tryd.func17 (by kernel_rfl) rfl #[.slice A l.length c] rfl (by (try simp only [List.map_toArray, List.map_cons, List.map_nil]); first | done | rfl) ?_; refine (r34_Much.calls 3100 (fun _ => True) A c l false w HV.out HM.out).mono ?_; rintro r' w1 ⟨rfl, b1⟩; refine ⟨_, rfl, ?_⟩; simp only [Act.put, sa_, sz_, ss_]; have B1 := Lib.hid b1; clear b1)
      | ((with_reducible refine gate_callee (f := 19) rfl ?_); refine goesL_ (some 20) rfl rfl Tryd.func19 (by kernel_rfl) rfl #[.int .i64 a, .int .i64 m] rfl (by (try simp only [List.map_toArray, List.map_cons, List.map_nil]); first | done | rfl) ?_; refine (tab_new w1 a m).mono ?_; rintro r' w2 ⟨gx, S_, D_, rfl, t_, b_⟩; refine ⟨_, rfl, ?_⟩; simp only [Act.put, sa_, sz_, ss_]; have N2 := Lib.hid (show ∃ S D, Tab w2 w1.heap.size S D gx a (nbk m) false [] ∧ Below w1.heap.size w1 w2 from ⟨S_, D_, t_, b_⟩); clear t_ b_)
      | ((with_reducible refine gate_dst (N := 8) rfl ?_); refine box_event ?hg (N := 8) ?hd (cs := #[.slice none 0 0, .slice none 0 0, .bool false]) (t := 58) ?hr ?_; (case hd => rfl); (case hg => rfl); (case hr => first | (go_simp; done) | (go_simp; rfl)); intro gH hg_ w3 hb_ hl_; have HTw := Lib.hid (ts_new (w := w1) N2.out hg_ hb_ hl_); clear hb_ hl_ hg_; simp only [Act.put, sa_, sz_, ss_]))
    clear N2
    go_loopw [9] (fun i wr => ∃ j : Nat, j ≤ l.length ∧ i = .int .i64 j ∧ TS w1 wr gx gH a (nbk m) (runs l j) (runs l j)) (fun i _ => l.length - (intOf i).toNat)
    case atStart => exact ⟨0, Nat.zero_le _, rfl, HTw.out⟩
    case round =>
      obtain ⟨j, hj, rfl, hts⟩ := hrel
      have HTS := Lib.hid hts
      clear hts
      have HT1 := Lib.hid (HT.out.below B1.out)
      have HE := Lib.hid ((hru.out j hj).1)
      by_cases hlt : j < l.length
      · have HJ : Hid ((j : Int) < (l.length : Int)) := Lib.hid (by omega)
        have HKO := Lib.hid (by have h := HKO0.out _ (List.getElem_mem hlt); rw [← get39 l j hlt] at h; exact h)
        obtain ⟨ad, B1', b1, B2, b2, eA, x0, x1, x2, p1, q1, p2, q2⟩ := at_F39 (HL.out _ (below_step B1.out HTS.out.bl)) (j : Int) (Int.natCast_nonneg _) HJ.out
        have HQ := Lib.hid (And.intro q1 (And.intro p1 (And.intro q2 p2)))
        subst eA
        clear q1 p1 q2 p2
        simp only [Int.toNat_natCast] at x0 x1 x2
        have HS := Lib.hid (stp_ok (sl := (runs l j).1) (s := rd_T39 l j) HE.out (hru.out j hj).2 (by have := HLL.out; omega) HKO.out.1 HKO.out.2)
        have HWR := Lib.hid (wr_succ hlt (Nat.le_trans HLL.out (by decide)))
        go_wp2_with (first
          | ((with_reducible refine gate_callee (f := 20) rfl ?_); refine goesL_ (some 35) rfl rfl Tryd.func20 (by kernel_rfl) rfl #[.pointer (some ⟨gx, 0, none⟩), .agg #[.int .i64 (rd_T39 l j).f0, .slice B1' (rd_T39 l j).f1.length b1, .slice B2 (rd_T39 l j).f2.length b2]] rfl (by (try simp only [List.map_toArray, List.map_cons, List.map_nil]); first | done | rfl) ?_; refine (HTS.out.step HT1.out HE.out (rd_T39 l j) (Kd.F_now HQ.out.1) HQ.out.2.1 (Kd.F_now HQ.out.2.2.1) HQ.out.2.2.2 HKO.out.1 HKO.out.2).mono ?_; rintro r' w2 ⟨v2, rfl, r2, t2, z2⟩; refine ⟨_, rfl, ?_⟩; simp only [Act.put, sa_, sz_, ss_]; have R2 := Lib.hid r2; have T2 := Lib.hid t2; have Z2 := Lib.hid z2; obtain ⟨V2, d2, hv2⟩ := Kd.R_slice R2.out; subst hv2; clear r2 t2 z2 x0 x1 x2))
        have hgz : gH < wr.heap.size := by
          obtain ⟨_, _, _, _, _, _, _, _, _, _, _, hq, _⟩ := HTS.out
          exact hq.2.1
        have HGZ := Lib.hid hgz
        obtain ⟨bx, S, D, A0, c0, A1, c1, h1, h2, h3, h4, h5, h6, h7⟩ := T2.out
        have H1 := Lib.hid h1; have H2 := Lib.hid h2; have H3 := Lib.hid h3; have GH := Lib.hid h4; have H5 := Lib.hid h5; have H6 := Lib.hid h6; have H7 := Lib.hid h7
        clear h1 h2 h3 h4 h5 h6 h7 hgz
        obtain ⟨ady, C1, g1, C2, g2, ey, y0, y1, y2, p1, q1, p2, q2⟩ := at_F39 (HL.out _ (below_step B1.out T2.out.bl)) (j : Int) (Int.natCast_nonneg _) HJ.out
        have HQ2 := Lib.hid (And.intro q1 (And.intro p1 (And.intro q2 p2)))
        obtain rfl : ad = ady := (by injection ey)
        clear ey q1 p1 q2 p2
        simp only [Int.toNat_natCast] at y0 y1 y2
        have HE1 := Lib.hid HE.out.1
        have HN := Lib.hid (show w.heap.size ≤ w2.heap.size from Nat.le_trans B1.out.size T2.out.bl.size)
        refine startW_ (X := fun w' => Below w2.heap.size w2 w') (n := 14) (S := fun w' => Below w2.heap.size w2 w') (ds := []) #[false, false, false, false, false, false, false, false, false, false, false, false, false, false] (by kernel_rfl) rfl rfl (Below.drew (Below.refl _ _)) (fun w' h => h) (fun w3 hX_ hHeld => ?_)
        clear hX_
        refine take_ (i := 0) (N := some 39) (v := ?_) (a' := ?_) #[true, false, false, false, false, false, false, false, false, false, false, false, false, false] rfl rfl (by kernel_rfl) (fun _ _ _ h => h) (Or.inl ⟨by rfl, ?_⟩) hHeld ?_ ?_; rotate_left
        · intro w' hS; obtain ⟨s0, s1, s2, f0, f1, f2⟩ := bw3_ (blk_below GH.out hS); go_simp; (with_reducible rfl)
        rotate_left
        · simp only [Act.put, sa_, sz_, ss_, i64_w, i32_w]
          rfl
        refine pure_ (i := 1) (N := some 40) (v := ?_) (a' := ?_) #[true, true, false, false, false, false, false, false, false, false, false, false, false, false] rfl rfl (by kernel_rfl) (fun _ _ _ h => h) (Or.inl ⟨by rfl, ?_⟩) ?_ ?_; rotate_left
        · intro w'
          go_simp; (with_reducible rfl)
        rotate_left
        · simp only [Act.put, sa_, sz_, ss_, i64_w, i32_w]
          rfl
        refine pure_ (i := 2) (N := some 41) (v := ?_) (a' := ?_) #[true, true, true, false, false, false, false, false, false, false, false, false, false, false] rfl rfl (by kernel_rfl) (fun _ _ _ h => h) (Or.inl ⟨by rfl, ?_⟩) ?_ ?_; rotate_left
        · intro w'
          go_simp; (with_reducible rfl)
        rotate_left
        · simp only [Act.put, sa_, sz_, ss_, i64_w, i32_w]
          rfl
        refine pure_ (i := 3) (N := some 42) (v := ?_) (a' := ?_) #[true, true, true, true, false, false, false, false, false, false, false, false, false, false] rfl rfl (by kernel_rfl) (fun _ _ _ h => h) (Or.inl ⟨by rfl, ?_⟩) ?_ ?_; rotate_left
        · intro w'
          go_simp; (with_reducible rfl)
        rotate_left
        · simp only [Act.put, sa_, sz_, ss_, i64_w, i32_w]
          rfl
        refine take_ (i := 4) (N := some 43) (v := ?_) (a' := ?_) #[true, true, true, true, true, false, false, false, false, false, false, false, false, false] rfl rfl (by kernel_rfl) (fun _ _ _ h => h) (Or.inl ⟨by rfl, ?_⟩) hHeld ?_ ?_; rotate_left
        · intro w' hS; have u0 := pw_cell_below hS y0; have u1 := pw_cell_below hS y1; have u2 := pw_cell_below hS y2; go_simp; (with_reducible rfl)
        rotate_left
        · simp only [Act.put, sa_, sz_, ss_, i64_w, i32_w]
          rfl
        refine two_ (i := 5) (j := 10) (Ni := some 44) (Nj := some 12) #[true, true, true, true, true, true, false, false, false, false, false, false, false, false] #[true, true, true, true, true, false, false, false, false, false, true, false, false, false] rfl rfl rfl rfl (by kernel_rfl) (by decide) (by decide) (fun K hK => ?_) (fun K hK => ?_)
        · refine goes_ Tryd.func31 (by kernel_rfl) rfl #[.agg #[.slice A0 (runs l j).2.length c0, .slice A1 (runs l j).2.length c1, .bool (runs l j).1], .agg #[.int .i64 (rd_T39 l j).f0, .slice C1 (rd_T39 l j).f1.length g1, .slice C2 (rd_T39 l j).f2.length g2]] (by rfl) rfl rfl (by (try simp only [List.map_toArray, List.map_cons, List.map_nil]); first | done | rfl) ?_; refine (go_any (D := D) (gH := gH) (N := w.heap.size) (p := (runs l j)) (H6.out.below hHeld) (H7.out.below hHeld) HE1.out (rd_T39 l j) HKO.out.1 (Kd.F_below HQ2.out.1 hHeld) HQ2.out.2.1 (Kd.F_below HQ2.out.2.2.1 hHeld) HQ2.out.2.2.2).mono ?_; rintro e' w4 ⟨E0, e0, E1, e1, E2, e2, rfl, k0, k1, k2, kb⟩; refine ⟨_, rfl, ?_⟩; have X4 := Lib.hid (below_step hHeld kb); have XZ := Lib.hid (show w2.heap.size ≤ w3.heap.size from hHeld.size); have K0 := Lib.hid k0; have K1 := Lib.hid k1; have K2 := Lib.hid k2; clear k0 k1 k2 kb; refine hK.out _ _ (X4.out) (fun hHeld => ?_); clear hK K; refine norm_ (a' := ?_) ?_ ?_; rotate_left
          · show Act.put _ (some 44) _ = _
            simp only [Act.put, sa_, sz_, ss_, i64_w, i32_w]; rfl
          refine pure_ (i := 6) (N := some 38) (v := ?_) (a' := ?_) #[true, true, true, true, true, true, true, false, false, false, false, false, false, false] rfl rfl (by kernel_rfl) (fun _ _ _ h => h) (Or.inl ⟨by rfl, ?_⟩) ?_ ?_; rotate_left
          · intro w'
            go_simp; (with_reducible rfl)
          rotate_left
          · simp only [Act.put, sa_, sz_, ss_, i64_w, i32_w]
            rfl
          refine pure_ (i := 7) (N := some 45) (v := ?_) (a' := ?_) #[true, true, true, true, true, true, true, true, false, false, false, false, false, false] rfl rfl (by kernel_rfl) (fun _ _ _ h => h) (Or.inl ⟨by rfl, ?_⟩) ?_ ?_; rotate_left
          · intro w'
            go_simp; (with_reducible rfl)
          rotate_left
          · simp only [Act.put, sa_, sz_, ss_, i64_w, i32_w]
            rfl
          refine pure_ (i := 8) (N := some 46) (v := ?_) (a' := ?_) #[true, true, true, true, true, true, true, true, true, false, false, false, false, false] rfl rfl (by kernel_rfl) (fun _ _ _ h => h) (Or.inl ⟨by rfl, ?_⟩) ?_ ?_; rotate_left
          · intro w'
            go_simp; (with_reducible rfl)
          rotate_left
          · simp only [Act.put, sa_, sz_, ss_, i64_w, i32_w]
            rfl
          refine pure_ (i := 9) (N := some 47) (v := ?_) (a' := ?_) #[true, true, true, true, true, true, true, true, true, true, false, false, false, false] rfl rfl (by kernel_rfl) (fun _ _ _ h => h) (Or.inl ⟨by rfl, ?_⟩) ?_ ?_; rotate_left
          · intro w'
            go_simp; (with_reducible rfl)
          rotate_left
          · simp only [Act.put, sa_, sz_, ss_, i64_w, i32_w]
            rfl
          refine one_ (i := 10) (N := some 12) #[true, true, true, true, true, true, true, true, true, true, true, false, false, false] rfl rfl (by kernel_rfl) (by decide) (fun K hK => ?_)
          refine boxV_ (by rfl) rfl (cs := #[.slice none 0 0, .slice none 0 0, .bool false]) (t := 58) ?hr ?_; (case hr => first | (go_simp; done) | (go_simp; rfl)); intro g12 hg_ w5 hb_ hl_; have G12 := Lib.hid hb_; have X5 := Lib.hid (below_step X4.out hl_); have HG := Lib.hid (show w2.heap.size ≤ g12 from by rw [hg_]; exact X4.out.size); have M0 : Hid (HF w5 (fun k => okG D gH w.heap.size w2.heap.size k ∧ k ≠ g12) E0 e0 _) := Lib.hid ((K0.out.mono (fun k hk hl => ⟨okG_le XZ.out hk, by omega⟩)).below hl_); have M1 : Hid (HF w5 (fun k => okG D gH w.heap.size w2.heap.size k ∧ k ≠ g12) E1 e1 _) := Lib.hid ((K1.out.mono (fun k hk hl => ⟨okG_le XZ.out hk, by omega⟩)).below hl_); have M2 : Hid (HF w5 (fun k => okG D gH w.heap.size w2.heap.size k ∧ k ≠ g12) E2 e2 _) := Lib.hid ((K2.out.mono (fun k hk hl => ⟨okG_le XZ.out hk, by omega⟩)).below hl_); clear hb_ hl_ hg_ K0 K1 K2; refine hK.out _ _ (X5.out) (fun hHeld => ?_); clear hK K; refine norm_ (a' := ?_) ?_ ?_; rotate_left
          · show Act.put _ (some 12) _ = _
            simp only [Act.put, sa_, sz_, ss_, i64_w, i32_w]; rfl
          obtain ⟨s0, s1, s2, f0, f1, f2⟩ := bw3_ G12.out
          refine one_ (i := 11) (N := none) #[true, true, true, true, true, true, true, true, true, true, true, true, false, false] rfl rfl (by kernel_rfl) (by decide) (fun K hK => ?_); refine skip_ (w1 := ?_) (by rfl) rfl ?_ ?_; rotate_left
          · go_simp
            rfl
          refine hK.out _ _ (X5.out.trans (st3_below HG.out)) (fun hHeld => ?_); clear hK K
          refine pure_ (i := 12) (N := some 13) (v := ?_) (a' := ?_) #[true, true, true, true, true, true, true, true, true, true, true, true, true, false] rfl rfl (by kernel_rfl) (fun _ _ _ h => h) (Or.inl ⟨by rfl, ?_⟩) ?_ ?_; rotate_left
          · intro w'
            go_simp; (with_reducible rfl)
          rotate_left
          · simp only [Act.put, sa_, sz_, ss_, i64_w, i32_w]
            rfl
          refine pure_ (i := 13) (N := some 14) (v := ?_) (a' := ?_) #[true, true, true, true, true, true, true, true, true, true, true, true, true, true] rfl rfl (by kernel_rfl) (fun _ _ _ h => h) (Or.inl ⟨by rfl, ?_⟩) ?_ ?_; rotate_left
          · intro w'
            go_simp; (with_reducible rfl)
          rotate_left
          · simp only [Act.put, sa_, sz_, ss_, i64_w, i32_w]
            rfl
          refine done_ (by kernel_rfl) ?_
          clear s0 s1 s2 f0 f1 f2
          obtain ⟨s0, s1, s2, f0, f1, f2⟩ := bw3_ (put3_ (v0 := .slice E0 (stp (runs l j).1 (runs l j).2 (rd_T39 l j)).2.1.length e0) (v1 := .slice E1 (stp (runs l j).1 (runs l j).2 (rd_T39 l j)).2.1.length e1) (v2 := .bool (stp (runs l j).1 (runs l j).2 (rd_T39 l j)).1) G12.out)
          obtain ⟨t0, t1, t2, i0, i1, i2⟩ := bw3_ ((st3_far (v0 := .slice E0 (stp (runs l j).1 (runs l j).2 (rd_T39 l j)).2.1.length e0) (v1 := .slice E1 (stp (runs l j).1 (runs l j).2 (rd_T39 l j)).2.1.length e1) (v2 := .bool (stp (runs l j).1 (runs l j).2 (rd_T39 l j)).1) (show gH ≠ g12 from by have := H5.out.2.1; have := HG.out; omega)).trans (blk_below GH.out X5.out))
          go_wp2
          clear s0 s1 s2 f0 f1 f2 t0 t1 t2 i0 i1 i2 y0 y1 y2
          obtain ⟨W4, hW4, ts4, k4, r4⟩ := ts_close (q := ((stp (runs l j).1 (runs l j).2 (rd_T39 l j)).1, (stp (runs l j).1 (runs l j).2 (rd_T39 l j)).2.1)) (p := ((stp (runs l j).1 (runs l j).2 (rd_T39 l j)).1, (stp (runs l j).1 (runs l j).2 (rd_T39 l j)).2.1)) (v := .slice V2 (stp (runs l j).1 (runs l j).2 (rd_T39 l j)).2.2.1.length d2) H1.out H2.out H3.out GH.out H5.out B1.out.size X5.out HG.out G12.out M0.out M1.out M2.out R2.out HGZ.out rfl
          rw [← hW4]
          have T4 := Lib.hid ts4; have K4 := Lib.hid k4; have R4 := Lib.hid r4
          clear hW4 ts4 k4 r4 M0 M1 M2 X5 G12 HG H1 H2 H3 H5 H6 H7 GH T2 R2 XZ
          have hE2 := Lib.hid (HS.out.1)
          obtain ⟨bx', S', D', A0', c0', A1', c1', h1, h2, h3, h4, h5, h6, h7⟩ := T4.out
          have GH := Lib.hid h4
          clear h1 h2 h3 h4 h5 h6 h7
          have hbb : ((stp (runs l j).1 (runs l j).2 (rd_T39 l j)).1 != (stp (runs l j).1 (runs l j).2 (rd_T39 l j)).1) = false := by simp
          refine startW_ (X := fun w' => Below W4.heap.size W4 w') (n := 24) (S := fun w' => Below W4.heap.size W4 w') (ds := []) #[false, false, false, false, false, false, false, false, false, false, false, false, false, false, false, false, false, false, false, false, false, false, false, false] (by kernel_rfl) rfl rfl (Below.drew (Below.refl _ _)) (fun w' h => h) (fun w6 hX_ hHeld => ?_)
          clear hX_
          refine pure_ (i := 0) (N := some 49) (v := ?_) (a' := ?_) #[true, false, false, false, false, false, false, false, false, false, false, false, false, false, false, false, false, false, false, false, false, false, false, false] rfl rfl (by kernel_rfl) (fun _ _ _ h => h) (Or.inl ⟨by rfl, ?_⟩) ?_ ?_; rotate_left
          · intro w'
            go_simp; (with_reducible rfl)
          rotate_left
          · simp only [Act.put, sa_, sz_, ss_, i64_w, i32_w]
            rfl
          refine pure_ (i := 1) (N := some 50) (v := ?_) (a' := ?_) #[true, true, false, false, false, false, false, false, false, false, false, false, false, false, false, false, false, false, false, false, false, false, false, false] rfl rfl (by kernel_rfl) (fun _ _ _ h => h) (Or.inl ⟨by rfl, ?_⟩) ?_ ?_; rotate_left
          · intro w'
            go_simp; (with_reducible rfl)
          rotate_left
          · simp only [Act.put, sa_, sz_, ss_, i64_w, i32_w]
            rfl
          refine one_ (i := 2) (N := some 51) #[true, true, true, false, false, false, false, false, false, false, false, false, false, false, false, false, false, false, false, false, false, false, false, false] rfl rfl (by kernel_rfl) (by decide) (fun K hK => ?_); refine goes_ Tryd.func21 (by kernel_rfl) rfl #[.slice V2 (stp (runs l j).1 (runs l j).2 (rd_T39 l j)).2.2.1.length d2, .slice E2 (stp (runs l j).1 (runs l j).2 (rd_T39 l j)).2.2.1.length e2] (by rfl) rfl rfl (by (try simp only [List.map_toArray, List.map_cons, List.map_nil]); first | done | rfl) ?_; refine (r04_SameList.calls 3000 V2 d2 _ E2 e2 _ true w6 (Kd.C_below (R_C R4.out).1 hHeld) (R_C R4.out).2 (Kd.C_below K4.out.C hHeld) K4.out.1 (samelist_self _ HS.out.2.2.1 HS.out.2.2.2 3000 (by have := HS.out.2.2.1; omega))).mono ?_; rintro e' w7 ⟨rfl, b7⟩; refine ⟨_, rfl, ?_⟩; have X7 := Lib.hid (below_step hHeld b7); clear b7; refine hK.out _ _ (X7.out) (fun hHeld => ?_); clear hK K; refine norm_ (a' := ?_) ?_ ?_; rotate_left
          · show Act.put _ (some 51) _ = _
            simp only [Act.put, sa_, sz_, ss_, i64_w, i32_w]; rfl
          refine pure_ (i := 3) (N := some 52) (v := ?_) (a' := ?_) #[true, true, true, true, false, false, false, false, false, false, false, false, false, false, false, false, false, false, false, false, false, false, false, false] rfl rfl (by kernel_rfl) (fun _ _ _ h => h) (Or.inl ⟨by rfl, ?_⟩) ?_ ?_; rotate_left
          · intro w'
            go_simp; (with_reducible rfl)
          rotate_left
          · simp only [Act.put, sa_, sz_, ss_, i64_w, i32_w]
            rfl
          refine pure_ (i := 4) (N := some 53) (v := ?_) (a' := ?_) #[true, true, true, true, true, false, false, false, false, false, false, false, false, false, false, false, false, false, false, false, false, false, false, false] rfl rfl (by kernel_rfl) (fun _ _ _ h => h) (Or.inl ⟨by rfl, ?_⟩) ?_ ?_; rotate_left
          · intro w'
            go_simp; (with_reducible rfl)
          rotate_left
          · simp only [Act.put, sa_, sz_, ss_, i64_w, i32_w]
            rfl
          refine pure_ (i := 5) (N := some 54) (v := ?_) (a' := ?_) #[true, true, true, true, true, true, false, false, false, false, false, false, false, false, false, false, false, false, false, false, false, false, false, false] rfl rfl (by kernel_rfl) (fun _ _ _ h => h) (Or.inl ⟨by rfl, ?_⟩) ?_ ?_; rotate_left
          · intro w'
            go_simp; (with_reducible rfl)
          rotate_left
          · simp only [Act.put, sa_, sz_, ss_, i64_w, i32_w]
            rfl
          refine pure_ (i := 6) (N := some 55) (v := ?_) (a' := ?_) #[true, true, true, true, true, true, true, false, false, false, false, false, false, false, false, false, false, false, false, false, false, false, false, false] rfl rfl (by kernel_rfl) (fun _ _ _ h => h) (Or.inl ⟨by rfl, ?_⟩) ?_ ?_; rotate_left
          · intro w'
            go_simp; (with_reducible rfl)
          rotate_left
          · simp only [Act.put, sa_, sz_, ss_, i64_w, i32_w]
            rfl
          refine pure_ (i := 7) (N := some 56) (v := ?_) (a' := ?_) #[true, true, true, true, true, true, true, true, false, false, false, false, false, false, false, false, false, false, false, false, false, false, false, false] rfl rfl (by kernel_rfl) (fun _ _ _ h => h) (Or.inl ⟨by rfl, ?_⟩) ?_ ?_; rotate_left
          · intro w'
            go_simp; (with_reducible rfl)
          rotate_left
          · simp only [Act.put, sa_, sz_, ss_, i64_w, i32_w]
            rfl
          refine pure_ (i := 8) (N := some 57) (v := ?_) (a' := ?_) #[true, true, true, true, true, true, true, true, true, false, false, false, false, false, false, false, false, false, false, false, false, false, false, false] rfl rfl (by kernel_rfl) (fun _ _ _ h => h) (Or.inl ⟨by rfl, ?_⟩) ?_ ?_; rotate_left
          · intro w'
            go_simp; (with_reducible rfl)
          rotate_left
          · simp only [Act.put, sa_, sz_, ss_, i64_w, i32_w]
            rfl
          refine pure_ (i := 9) (N := some 58) (v := ?_) (a' := ?_) #[true, true, true, true, true, true, true, true, true, true, false, false, false, false, false, false, false, false, false, false, false, false, false, false] rfl rfl (by kernel_rfl) (fun _ _ _ h => h) (Or.inl ⟨by rfl, ?_⟩) ?_ ?_; rotate_left
          · intro w'
            go_simp; (with_reducible rfl)
          rotate_left
          · simp only [Act.put, sa_, sz_, ss_, i64_w, i32_w]
            rfl
          refine pure_ (i := 10) (N := some 59) (v := ?_) (a' := ?_) #[true, true, true, true, true, true, true, true, true, true, true, false, false, false, false, false, false, false, false, false, false, false, false, false] rfl rfl (by kernel_rfl) (fun _ _ _ h => h) (Or.inl ⟨by rfl, ?_⟩) ?_ ?_; rotate_left
          · intro w'
            go_simp; (with_reducible rfl)
          rotate_left
          · simp only [Act.put, sa_, sz_, ss_, i64_w, i32_w]
            rfl
          refine pure_ (i := 12) (N := some 61) (v := ?_) (a' := ?_) #[true, true, true, true, true, true, true, true, true, true, true, false, true, false, false, false, false, false, false, false, false, false, false, false] rfl rfl (by kernel_rfl) (fun _ _ _ h => h) (Or.inl ⟨by rfl, ?_⟩) ?_ ?_; rotate_left
          · intro w'
            go_simp; (with_reducible rfl)
          rotate_left
          · simp only [Act.put, sa_, sz_, ss_, i64_w, i32_w]
            rfl
          refine take_ (i := 13) (N := some 62) (v := ?_) (a' := ?_) #[true, true, true, true, true, true, true, true, true, true, true, false, true, true, false, false, false, false, false, false, false, false, false, false] rfl rfl (by kernel_rfl) (fun _ _ _ h => h) (Or.inl ⟨by rfl, ?_⟩) hHeld ?_ ?_; rotate_left
          · intro w' hS; obtain ⟨s0, s1, s2, f0, f1, f2⟩ := bw3_ (blk_below GH.out hS); go_simp; (with_reducible rfl)
          rotate_left
          · simp only [Act.put, sa_, sz_, ss_, i64_w, i32_w]
            rfl
          refine pure_ (i := 14) (N := some 63) (v := ?_) (a' := ?_) #[true, true, true, true, true, true, true, true, true, true, true, false, true, true, true, false, false, false, false, false, false, false, false, false] rfl rfl (by kernel_rfl) (fun _ _ _ h => h) (Or.inl ⟨by rfl, ?_⟩) ?_ ?_; rotate_left
          · intro w'
            go_simp; (with_reducible rfl)
          rotate_left
          · simp only [Act.put, sa_, sz_, ss_, i64_w, i32_w]
            rfl
          refine one_ (i := 11) (N := some 60) #[true, true, true, true, true, true, true, true, true, true, true, true, true, true, true, false, false, false, false, false, false, false, false, false] rfl rfl (by kernel_rfl) (by decide) (fun K hK => ?_); refine goes_ Tryd.func23 (by kernel_rfl) rfl #[.pointer (some ⟨gx, 0, none⟩)] (by rfl) rfl rfl (by (try simp only [List.map_toArray, List.map_cons, List.map_nil]); first | done | rfl) ?_; refine ((T4.out.below X7.out).len).mono ?_; rintro e' w8 ⟨rfl, rfl⟩; refine ⟨_, rfl, ?_⟩; refine hK.out _ _ (X7.out) (fun hHeld => ?_); clear hK K; refine norm_ (a' := ?_) ?_ ?_; rotate_left
          · show Act.put _ (some 60) _ = _
            simp only [Act.put, sa_, sz_, ss_, i64_w, i32_w]; rfl
          refine pure_ (i := 15) (N := some 64) (v := ?_) (a' := ?_) #[true, true, true, true, true, true, true, true, true, true, true, true, true, true, true, true, false, false, false, false, false, false, false, false] rfl rfl (by kernel_rfl) (fun _ _ _ h => h) (Or.inl ⟨by rfl, ?_⟩) ?_ ?_; rotate_left
          · intro w'
            go_simp; (with_reducible rfl)
          rotate_left
          · simp only [Act.put, sa_, sz_, ss_, i64_w, i32_w]
            rfl
          refine pure_ (i := 16) (N := some 65) (v := ?_) (a' := ?_) #[true, true, true, true, true, true, true, true, true, true, true, true, true, true, true, true, true, false, false, false, false, false, false, false] rfl rfl (by kernel_rfl) (fun _ _ _ h => h) (Or.inl ⟨by rfl, ?_⟩) ?_ ?_; rotate_left
          · intro w'
            go_simp; (with_reducible rfl)
          rotate_left
          · simp only [Act.put, sa_, sz_, ss_, i64_w, i32_w]
            rfl
          refine pure_ (i := 17) (N := some 66) (v := ?_) (a' := ?_) #[true, true, true, true, true, true, true, true, true, true, true, true, true, true, true, true, true, true, false, false, false, false, false, false] rfl rfl (by kernel_rfl) (fun _ _ _ h => h) (Or.inl ⟨by rfl, ?_⟩) ?_ ?_; rotate_left
          · intro w'
            go_simp; (with_reducible rfl)
          rotate_left
          · simp only [Act.put, sa_, sz_, ss_, i64_w, i32_w]
            rfl
          refine pure_ (i := 18) (N := some 67) (v := ?_) (a' := ?_) #[true, true, true, true, true, true, true, true, true, true, true, true, true, true, true, true, true, true, true, false, false, false, false, false] rfl rfl (by kernel_rfl) (fun _ _ _ h => h) (Or.inl ⟨by rfl, ?_⟩) ?_ ?_; rotate_left
          · intro w'
            go_simp; (with_reducible rfl)
          rotate_left
          · simp only [Act.put, sa_, sz_, ss_, i64_w, i32_w]
            rfl
          refine pure_ (i := 20) (N := some 69) (v := ?_) (a' := ?_) #[true, true, true, true, true, true, true, true, true, true, true, true, true, true, true, true, true, true, true, false, true, false, false, false] rfl rfl (by kernel_rfl) (fun _ _ _ h => h) (Or.inl ⟨by rfl, ?_⟩) ?_ ?_; rotate_left
          · intro w'
            go_simp; (with_reducible rfl)
          rotate_left
          · simp only [Act.put, sa_, sz_, ss_, i64_w, i32_w]
            rfl
          refine take_ (i := 21) (N := some 70) (v := ?_) (a' := ?_) #[true, true, true, true, true, true, true, true, true, true, true, true, true, true, true, true, true, true, true, false, true, true, false, false] rfl rfl (by kernel_rfl) (fun _ _ _ h => h) (Or.inl ⟨by rfl, ?_⟩) hHeld ?_ ?_; rotate_left
          · intro w' hS; obtain ⟨s0, s1, s2, f0, f1, f2⟩ := bw3_ (blk_below GH.out hS); go_simp; (with_reducible rfl)
          rotate_left
          · simp only [Act.put, sa_, sz_, ss_, i64_w, i32_w]
            rfl
          refine one_ (i := 19) (N := some 68) #[true, true, true, true, true, true, true, true, true, true, true, true, true, true, true, true, true, true, true, true, true, true, false, false] rfl rfl (by kernel_rfl) (by decide) (fun K hK => ?_); refine goes_ Tryd.func32 (by kernel_rfl) rfl #[.pointer (some ⟨gx, 0, none⟩)] (by rfl) rfl rfl (by (try simp only [List.map_toArray, List.map_cons, List.map_nil]); first | done | rfl) ?_; refine ((T4.out.below X7.out).sealed).mono ?_; rintro e' w9 ⟨rfl, rfl⟩; refine ⟨_, rfl, ?_⟩; refine hK.out _ _ (X7.out) (fun hHeld => ?_); clear hK K; refine norm_ (a' := ?_) ?_ ?_; rotate_left
          · show Act.put _ (some 68) _ = _
            simp only [Act.put, sa_, sz_, ss_, i64_w, i32_w]; rfl
          refine pure_ (i := 22) (N := some 71) (v := ?_) (a' := ?_) #[true, true, true, true, true, true, true, true, true, true, true, true, true, true, true, true, true, true, true, true, true, true, true, false] rfl rfl (by kernel_rfl) (fun _ _ _ h => h) (Or.inl ⟨by rfl, ?_⟩) ?_ ?_; rotate_left
          · intro w'
            go_simp; (with_reducible rfl)
          rotate_left
          · simp only [Act.put, sa_, sz_, ss_, i64_w, i32_w]
            rfl
          refine pure_ (i := 23) (N := some 72) (v := ?_) (a' := ?_) #[true, true, true, true, true, true, true, true, true, true, true, true, true, true, true, true, true, true, true, true, true, true, true, true] rfl rfl (by kernel_rfl) (fun _ _ _ h => h) (Or.inl ⟨by rfl, ?_⟩) ?_ ?_; rotate_left
          · intro w'
            go_simp; (with_reducible rfl)
          rotate_left
          · simp only [Act.put, sa_, sz_, ss_, i64_w, i32_w]
            rfl
          refine done_ (by kernel_rfl) ?_
          go_wp2
          go_roundw
          case rel => exact ⟨j + 1, by omega, by simp [HWR.out], T4.out.below X7.out⟩
          case measure => first | exact msr2_ hlt | exact msr_ hlt HWR.out

        · refine boxV_ (by rfl) rfl (cs := #[.slice none 0 0, .slice none 0 0, .bool false]) (t := 58) ?hr ?_; (case hr => first | (go_simp; done) | (go_simp; rfl)); intro g12 hg_ w4 hb_ hl_; have G12a := Lib.hid hb_; have X4 := Lib.hid (below_step hHeld hl_); have HG := Lib.hid (show w2.heap.size ≤ g12 from by rw [hg_]; exact hHeld.size); have HG2 := Lib.hid (show g12 < w4.heap.size from blk_lt hb_); have Q6 := Lib.hid (((H6.out.below hHeld).mono (ok' := noD (fun k => D k ∨ k = g12) gH) (fun k hk hl => ⟨fun z => z.elim hk.1 (fun z => by omega), hk.2⟩)).below hl_); have Q7 := Lib.hid (((H7.out.below hHeld).mono (ok' := noD (fun k => D k ∨ k = g12) gH) (fun k hk hl => ⟨fun z => z.elim hk.1 (fun z => by omega), hk.2⟩)).below hl_); clear hb_ hl_ hg_; refine hK.out _ _ (X4.out) (fun hHeld => ?_); clear hK K; refine norm_ (a' := ?_) ?_ ?_; rotate_left
          · show Act.put _ (some 12) _ = _
            simp only [Act.put, sa_, sz_, ss_, i64_w, i32_w]; rfl
          refine one_ (i := 5) (N := some 44) #[true, true, true, true, true, true, false, false, false, false, true, false, false, false] rfl rfl (by kernel_rfl) (by decide) (fun K hK => ?_); refine goes_ Tryd.func31 (by kernel_rfl) rfl #[.agg #[.slice A0 (runs l j).2.length c0, .slice A1 (runs l j).2.length c1, .bool (runs l j).1], .agg #[.int .i64 (rd_T39 l j).f0, .slice C1 (rd_T39 l j).f1.length g1, .slice C2 (rd_T39 l j).f2.length g2]] (by rfl) rfl rfl (by (try simp only [List.map_toArray, List.map_cons, List.map_nil]); first | done | rfl) ?_; refine (go_any (D := (fun k => D k ∨ k = g12)) (gH := gH) (N := w.heap.size) (p := (runs l j)) Q6.out Q7.out HE1.out (rd_T39 l j) HKO.out.1 (Kd.F_below HQ2.out.1 X4.out) HQ2.out.2.1 (Kd.F_below HQ2.out.2.2.1 X4.out) HQ2.out.2.2.2).mono ?_; rintro e' w5 ⟨E0, e0, E1, e1, E2, e2, rfl, k0, k1, k2, kb⟩; refine ⟨_, rfl, ?_⟩; have G12 := Lib.hid (blk_below G12a.out kb); have X5 := Lib.hid (below_step X4.out kb); have XZ := Lib.hid (show w2.heap.size ≤ w4.heap.size from X4.out.size); have M0 : Hid (HF w5 (fun k => okG D gH w.heap.size w2.heap.size k ∧ k ≠ g12) E0 e0 _) := Lib.hid (k0.mono fun k hk _ => okx HG.out HG2.out XZ.out HN.out hk); have M1 : Hid (HF w5 (fun k => okG D gH w.heap.size w2.heap.size k ∧ k ≠ g12) E1 e1 _) := Lib.hid (k1.mono fun k hk _ => okx HG.out HG2.out XZ.out HN.out hk); have M2 : Hid (HF w5 (fun k => okG D gH w.heap.size w2.heap.size k ∧ k ≠ g12) E2 e2 _) := Lib.hid (k2.mono fun k hk _ => okx HG.out HG2.out XZ.out HN.out hk); clear k0 k1 k2 kb; refine hK.out _ _ (X5.out) (fun hHeld => ?_); clear hK K; refine norm_ (a' := ?_) ?_ ?_; rotate_left
          · show Act.put _ (some 44) _ = _
            simp only [Act.put, sa_, sz_, ss_, i64_w, i32_w]; rfl
          refine pure_ (i := 6) (N := some 38) (v := ?_) (a' := ?_) #[true, true, true, true, true, true, true, false, false, false, true, false, false, false] rfl rfl (by kernel_rfl) (fun _ _ _ h => h) (Or.inl ⟨by rfl, ?_⟩) ?_ ?_; rotate_left
          · intro w'
            go_simp; (with_reducible rfl)
          rotate_left
          · simp only [Act.put, sa_, sz_, ss_, i64_w, i32_w]
            rfl
          refine pure_ (i := 7) (N := some 45) (v := ?_) (a' := ?_) #[true, true, true, true, true, true, true, true, false, false, true, false, false, false] rfl rfl (by kernel_rfl) (fun _ _ _ h => h) (Or.inl ⟨by rfl, ?_⟩) ?_ ?_; rotate_left
          · intro w'
            go_simp; (with_reducible rfl)
          rotate_left
          · simp only [Act.put, sa_, sz_, ss_, i64_w, i32_w]
            rfl
          refine pure_ (i := 8) (N := some 46) (v := ?_) (a' := ?_) #[true, true, true, true, true, true, true, true, true, false, true, false, false, false] rfl rfl (by kernel_rfl) (fun _ _ _ h => h) (Or.inl ⟨by rfl, ?_⟩) ?_ ?_; rotate_left
          · intro w'
            go_simp; (with_reducible rfl)
          rotate_left
          · simp only [Act.put, sa_, sz_, ss_, i64_w, i32_w]
            rfl
          refine pure_ (i := 9) (N := some 47) (v := ?_) (a' := ?_) #[true, true, true, true, true, true, true, true, true, true, true, false, false, false] rfl rfl (by kernel_rfl) (fun _ _ _ h => h) (Or.inl ⟨by rfl, ?_⟩) ?_ ?_; rotate_left
          · intro w'
            go_simp; (with_reducible rfl)
          rotate_left
          · simp only [Act.put, sa_, sz_, ss_, i64_w, i32_w]
            rfl
          obtain ⟨s0, s1, s2, f0, f1, f2⟩ := bw3_ G12.out
          refine one_ (i := 11) (N := none) #[true, true, true, true, true, true, true, true, true, true, true, true, false, false] rfl rfl (by kernel_rfl) (by decide) (fun K hK => ?_); refine skip_ (w1 := ?_) (by rfl) rfl ?_ ?_; rotate_left
          · go_simp
            rfl
          refine hK.out _ _ (X5.out.trans (st3_below HG.out)) (fun hHeld => ?_); clear hK K
          refine pure_ (i := 12) (N := some 13) (v := ?_) (a' := ?_) #[true, true, true, true, true, true, true, true, true, true, true, true, true, false] rfl rfl (by kernel_rfl) (fun _ _ _ h => h) (Or.inl ⟨by rfl, ?_⟩) ?_ ?_; rotate_left
          · intro w'
            go_simp; (with_reducible rfl)
          rotate_left
          · simp only [Act.put, sa_, sz_, ss_, i64_w, i32_w]
            rfl
          refine pure_ (i := 13) (N := some 14) (v := ?_) (a' := ?_) #[true, true, true, true, true, true, true, true, true, true, true, true, true, true] rfl rfl (by kernel_rfl) (fun _ _ _ h => h) (Or.inl ⟨by rfl, ?_⟩) ?_ ?_; rotate_left
          · intro w'
            go_simp; (with_reducible rfl)
          rotate_left
          · simp only [Act.put, sa_, sz_, ss_, i64_w, i32_w]
            rfl
          refine done_ (by kernel_rfl) ?_
          clear s0 s1 s2 f0 f1 f2
          obtain ⟨s0, s1, s2, f0, f1, f2⟩ := bw3_ (put3_ (v0 := .slice E0 (stp (runs l j).1 (runs l j).2 (rd_T39 l j)).2.1.length e0) (v1 := .slice E1 (stp (runs l j).1 (runs l j).2 (rd_T39 l j)).2.1.length e1) (v2 := .bool (stp (runs l j).1 (runs l j).2 (rd_T39 l j)).1) G12.out)
          obtain ⟨t0, t1, t2, i0, i1, i2⟩ := bw3_ ((st3_far (v0 := .slice E0 (stp (runs l j).1 (runs l j).2 (rd_T39 l j)).2.1.length e0) (v1 := .slice E1 (stp (runs l j).1 (runs l j).2 (rd_T39 l j)).2.1.length e1) (v2 := .bool (stp (runs l j).1 (runs l j).2 (rd_T39 l j)).1) (show gH ≠ g12 from by have := H5.out.2.1; have := HG.out; omega)).trans (blk_below GH.out X5.out))
          go_wp2
          clear s0 s1 s2 f0 f1 f2 t0 t1 t2 i0 i1 i2 y0 y1 y2
          obtain ⟨W4, hW4, ts4, k4, r4⟩ := ts_close (q := ((stp (runs l j).1 (runs l j).2 (rd_T39 l j)).1, (stp (runs l j).1 (runs l j).2 (rd_T39 l j)).2.1)) (p := ((stp (runs l j).1 (runs l j).2 (rd_T39 l j)).1, (stp (runs l j).1 (runs l j).2 (rd_T39 l j)).2.1)) (v := .slice V2 (stp (runs l j).1 (runs l j).2 (rd_T39 l j)).2.2.1.length d2) H1.out H2.out H3.out GH.out H5.out B1.out.size X5.out HG.out G12.out M0.out M1.out M2.out R2.out HGZ.out rfl
          rw [← hW4]
          have T4 := Lib.hid ts4; have K4 := Lib.hid k4; have R4 := Lib.hid r4
          clear hW4 ts4 k4 r4 M0 M1 M2 X5 G12 HG H1 H2 H3 H5 H6 H7 GH T2 R2 XZ
          have hE2 := Lib.hid (HS.out.1)
          obtain ⟨bx', S', D', A0', c0', A1', c1', h1, h2, h3, h4, h5, h6, h7⟩ := T4.out
          have GH := Lib.hid h4
          clear h1 h2 h3 h4 h5 h6 h7
          have hbb : ((stp (runs l j).1 (runs l j).2 (rd_T39 l j)).1 != (stp (runs l j).1 (runs l j).2 (rd_T39 l j)).1) = false := by simp
          refine startW_ (X := fun w' => Below W4.heap.size W4 w') (n := 24) (S := fun w' => Below W4.heap.size W4 w') (ds := []) #[false, false, false, false, false, false, false, false, false, false, false, false, false, false, false, false, false, false, false, false, false, false, false, false] (by kernel_rfl) rfl rfl (Below.drew (Below.refl _ _)) (fun w' h => h) (fun w6 hX_ hHeld => ?_)
          clear hX_
          refine pure_ (i := 0) (N := some 49) (v := ?_) (a' := ?_) #[true, false, false, false, false, false, false, false, false, false, false, false, false, false, false, false, false, false, false, false, false, false, false, false] rfl rfl (by kernel_rfl) (fun _ _ _ h => h) (Or.inl ⟨by rfl, ?_⟩) ?_ ?_; rotate_left
          · intro w'
            go_simp; (with_reducible rfl)
          rotate_left
          · simp only [Act.put, sa_, sz_, ss_, i64_w, i32_w]
            rfl
          refine pure_ (i := 1) (N := some 50) (v := ?_) (a' := ?_) #[true, true, false, false, false, false, false, false, false, false, false, false, false, false, false, false, false, false, false, false, false, false, false, false] rfl rfl (by kernel_rfl) (fun _ _ _ h => h) (Or.inl ⟨by rfl, ?_⟩) ?_ ?_; rotate_left
          · intro w'
            go_simp; (with_reducible rfl)
          rotate_left
          · simp only [Act.put, sa_, sz_, ss_, i64_w, i32_w]
            rfl
          refine one_ (i := 2) (N := some 51) #[true, true, true, false, false, false, false, false, false, false, false, false, false, false, false, false, false, false, false, false, false, false, false, false] rfl rfl (by kernel_rfl) (by decide) (fun K hK => ?_); refine goes_ Tryd.func21 (by kernel_rfl) rfl #[.slice V2 (stp (runs l j).1 (runs l j).2 (rd_T39 l j)).2.2.1.length d2, .slice E2 (stp (runs l j).1 (runs l j).2 (rd_T39 l j)).2.2.1.length e2] (by rfl) rfl rfl (by (try simp only [List.map_toArray, List.map_cons, List.map_nil]); first | done | rfl) ?_; refine (r04_SameList.calls 3000 V2 d2 _ E2 e2 _ true w6 (Kd.C_below (R_C R4.out).1 hHeld) (R_C R4.out).2 (Kd.C_below K4.out.C hHeld) K4.out.1 (samelist_self _ HS.out.2.2.1 HS.out.2.2.2 3000 (by have := HS.out.2.2.1; omega))).mono ?_; rintro e' w7 ⟨rfl, b7⟩; refine ⟨_, rfl, ?_⟩; have X7 := Lib.hid (below_step hHeld b7); clear b7; refine hK.out _ _ (X7.out) (fun hHeld => ?_); clear hK K; refine norm_ (a' := ?_) ?_ ?_; rotate_left
          · show Act.put _ (some 51) _ = _
            simp only [Act.put, sa_, sz_, ss_, i64_w, i32_w]; rfl
          refine pure_ (i := 3) (N := some 52) (v := ?_) (a' := ?_) #[true, true, true, true, false, false, false, false, false, false, false, false, false, false, false, false, false, false, false, false, false, false, false, false] rfl rfl (by kernel_rfl) (fun _ _ _ h => h) (Or.inl ⟨by rfl, ?_⟩) ?_ ?_; rotate_left
          · intro w'
            go_simp; (with_reducible rfl)
          rotate_left
          · simp only [Act.put, sa_, sz_, ss_, i64_w, i32_w]
            rfl
          refine pure_ (i := 4) (N := some 53) (v := ?_) (a' := ?_) #[true, true, true, true, true, false, false, false, false, false, false, false, false, false, false, false, false, false, false, false, false, false, false, false] rfl rfl (by kernel_rfl) (fun _ _ _ h => h) (Or.inl ⟨by rfl, ?_⟩) ?_ ?_; rotate_left
          · intro w'
            go_simp; (with_reducible rfl)
          rotate_left
          · simp only [Act.put, sa_, sz_, ss_, i64_w, i32_w]
            rfl
          refine pure_ (i := 5) (N := some 54) (v := ?_) (a' := ?_) #[true, true, true, true, true, true, false, false, false, false, false, false, false, false, false, false, false, false, false, false, false, false, false, false] rfl rfl (by kernel_rfl) (fun _ _ _ h => h) (Or.inl ⟨by rfl, ?_⟩) ?_ ?_; rotate_left
          · intro w'
            go_simp; (with_reducible rfl)
          rotate_left
          · simp only [Act.put, sa_, sz_, ss_, i64_w, i32_w]
            rfl
          refine pure_ (i := 6) (N := some 55) (v := ?_) (a' := ?_) #[true, true, true, true, true, true, true, false, false, false, false, false, false, false, false, false, false, false, false, false, false, false, false, false] rfl rfl (by kernel_rfl) (fun _ _ _ h => h) (Or.inl ⟨by rfl, ?_⟩) ?_ ?_; rotate_left
          · intro w'
            go_simp; (with_reducible rfl)
          rotate_left
          · simp only [Act.put, sa_, sz_, ss_, i64_w, i32_w]
            rfl
          refine pure_ (i := 7) (N := some 56) (v := ?_) (a' := ?_) #[true, true, true, true, true, true, true, true, false, false, false, false, false, false, false, false, false, false, false, false, false, false, false, false] rfl rfl (by kernel_rfl) (fun _ _ _ h => h) (Or.inl ⟨by rfl, ?_⟩) ?_ ?_; rotate_left
          · intro w'
            go_simp; (with_reducible rfl)
          rotate_left
          · simp only [Act.put, sa_, sz_, ss_, i64_w, i32_w]
            rfl
          refine pure_ (i := 8) (N := some 57) (v := ?_) (a' := ?_) #[true, true, true, true, true, true, true, true, true, false, false, false, false, false, false, false, false, false, false, false, false, false, false, false] rfl rfl (by kernel_rfl) (fun _ _ _ h => h) (Or.inl ⟨by rfl, ?_⟩) ?_ ?_; rotate_left
          · intro w'
            go_simp; (with_reducible rfl)
          rotate_left
          · simp only [Act.put, sa_, sz_, ss_, i64_w, i32_w]
            rfl
          refine pure_ (i := 9) (N := some 58) (v := ?_) (a' := ?_) #[true, true, true, true, true, true, true, true, true, true, false, false, false, false, false, false, false, false, false, false, false, false, false, false] rfl rfl (by kernel_rfl) (fun _ _ _ h => h) (Or.inl ⟨by rfl, ?_⟩) ?_ ?_; rotate_left
          · intro w'
            go_simp; (with_reducible rfl)
          rotate_left
          · simp only [Act.put, sa_, sz_, ss_, i64_w, i32_w]
            rfl
          refine pure_ (i := 10) (N := some 59) (v := ?_) (a' := ?_) #[true, true, true, true, true, true, true, true, true, true, true, false, false, false, false, false, false, false, false, false, false, false, false, false] rfl rfl (by kernel_rfl) (fun _ _ _ h => h) (Or.inl ⟨by rfl, ?_⟩) ?_ ?_; rotate_left
          · intro w'
            go_simp; (with_reducible rfl)
          rotate_left
          · simp only [Act.put, sa_, sz_, ss_, i64_w, i32_w]
            rfl
          refine pure_ (i := 12) (N := some 61) (v := ?_) (a' := ?_) #[true, true, true, true, true, true, true, true, true, true, true, false, true, false, false, false, false, false, false, false, false, false, false, false] rfl rfl (by kernel_rfl) (fun _ _ _ h => h) (Or.inl ⟨by rfl, ?_⟩) ?_ ?_; rotate_left
          · intro w'
            go_simp; (with_reducible rfl)
          rotate_left
          · simp only [Act.put, sa_, sz_, ss_, i64_w, i32_w]
            rfl
          refine take_ (i := 13) (N := some 62) (v := ?_) (a' := ?_) #[true, true, true, true, true, true, true, true, true, true, true, false, true, true, false, false, false, false, false, false, false, false, false, false] rfl rfl (by kernel_rfl) (fun _ _ _ h => h) (Or.inl ⟨by rfl, ?_⟩) hHeld ?_ ?_; rotate_left
          · intro w' hS; obtain ⟨s0, s1, s2, f0, f1, f2⟩ := bw3_ (blk_below GH.out hS); go_simp; (with_reducible rfl)
          rotate_left
          · simp only [Act.put, sa_, sz_, ss_, i64_w, i32_w]
            rfl
          refine pure_ (i := 14) (N := some 63) (v := ?_) (a' := ?_) #[true, true, true, true, true, true, true, true, true, true, true, false, true, true, true, false, false, false, false, false, false, false, false, false] rfl rfl (by kernel_rfl) (fun _ _ _ h => h) (Or.inl ⟨by rfl, ?_⟩) ?_ ?_; rotate_left
          · intro w'
            go_simp; (with_reducible rfl)
          rotate_left
          · simp only [Act.put, sa_, sz_, ss_, i64_w, i32_w]
            rfl
          refine one_ (i := 11) (N := some 60) #[true, true, true, true, true, true, true, true, true, true, true, true, true, true, true, false, false, false, false, false, false, false, false, false] rfl rfl (by kernel_rfl) (by decide) (fun K hK => ?_); refine goes_ Tryd.func23 (by kernel_rfl) rfl #[.pointer (some ⟨gx, 0, none⟩)] (by rfl) rfl rfl (by (try simp only [List.map_toArray, List.map_cons, List.map_nil]); first | done | rfl) ?_; refine ((T4.out.below X7.out).len).mono ?_; rintro e' w8 ⟨rfl, rfl⟩; refine ⟨_, rfl, ?_⟩; refine hK.out _ _ (X7.out) (fun hHeld => ?_); clear hK K; refine norm_ (a' := ?_) ?_ ?_; rotate_left
          · show Act.put _ (some 60) _ = _
            simp only [Act.put, sa_, sz_, ss_, i64_w, i32_w]; rfl
          refine pure_ (i := 15) (N := some 64) (v := ?_) (a' := ?_) #[true, true, true, true, true, true, true, true, true, true, true, true, true, true, true, true, false, false, false, false, false, false, false, false] rfl rfl (by kernel_rfl) (fun _ _ _ h => h) (Or.inl ⟨by rfl, ?_⟩) ?_ ?_; rotate_left
          · intro w'
            go_simp; (with_reducible rfl)
          rotate_left
          · simp only [Act.put, sa_, sz_, ss_, i64_w, i32_w]
            rfl
          refine pure_ (i := 16) (N := some 65) (v := ?_) (a' := ?_) #[true, true, true, true, true, true, true, true, true, true, true, true, true, true, true, true, true, false, false, false, false, false, false, false] rfl rfl (by kernel_rfl) (fun _ _ _ h => h) (Or.inl ⟨by rfl, ?_⟩) ?_ ?_; rotate_left
          · intro w'
            go_simp; (with_reducible rfl)
          rotate_left
          · simp only [Act.put, sa_, sz_, ss_, i64_w, i32_w]
            rfl
          refine pure_ (i := 17) (N := some 66) (v := ?_) (a' := ?_) #[true, true, true, true, true, true, true, true, true, true, true, true, true, true, true, true, true, true, false, false, false, false, false, false] rfl rfl (by kernel_rfl) (fun _ _ _ h => h) (Or.inl ⟨by rfl, ?_⟩) ?_ ?_; rotate_left
          · intro w'
            go_simp; (with_reducible rfl)
          rotate_left
          · simp only [Act.put, sa_, sz_, ss_, i64_w, i32_w]
            rfl
          refine pure_ (i := 18) (N := some 67) (v := ?_) (a' := ?_) #[true, true, true, true, true, true, true, true, true, true, true, true, true, true, true, true, true, true, true, false, false, false, false, false] rfl rfl (by kernel_rfl) (fun _ _ _ h => h) (Or.inl ⟨by rfl, ?_⟩) ?_ ?_; rotate_left
          · intro w'
            go_simp; (with_reducible rfl)
          rotate_left
          · simp only [Act.put, sa_, sz_, ss_, i64_w, i32_w]
            rfl
          refine pure_ (i := 20) (N := some 69) (v := ?_) (a' := ?_) #[true, true, true, true, true, true, true, true, true, true, true, true, true, true, true, true, true, true, true, false, true, false, false, false] rfl rfl (by kernel_rfl) (fun _ _ _ h => h) (Or.inl ⟨by rfl, ?_⟩) ?_ ?_; rotate_left
          · intro w'
            go_simp; (with_reducible rfl)
          rotate_left
          · simp only [Act.put, sa_, sz_, ss_, i64_w, i32_w]
            rfl
          refine take_ (i := 21) (N := some 70) (v := ?_) (a' := ?_) #[true, true, true, true, true, true, true, true, true, true, true, true, true, true, true, true, true, true, true, false, true, true, false, false] rfl rfl (by kernel_rfl) (fun _ _ _ h => h) (Or.inl ⟨by rfl, ?_⟩) hHeld ?_ ?_; rotate_left
          · intro w' hS; obtain ⟨s0, s1, s2, f0, f1, f2⟩ := bw3_ (blk_below GH.out hS); go_simp; (with_reducible rfl)
          rotate_left
          · simp only [Act.put, sa_, sz_, ss_, i64_w, i32_w]
            rfl
          refine one_ (i := 19) (N := some 68) #[true, true, true, true, true, true, true, true, true, true, true, true, true, true, true, true, true, true, true, true, true, true, false, false] rfl rfl (by kernel_rfl) (by decide) (fun K hK => ?_); refine goes_ Tryd.func32 (by kernel_rfl) rfl #[.pointer (some ⟨gx, 0, none⟩)] (by rfl) rfl rfl (by (try simp only [List.map_toArray, List.map_cons, List.map_nil]); first | done | rfl) ?_; refine ((T4.out.below X7.out).sealed).mono ?_; rintro e' w9 ⟨rfl, rfl⟩; refine ⟨_, rfl, ?_⟩; refine hK.out _ _ (X7.out) (fun hHeld => ?_); clear hK K; refine norm_ (a' := ?_) ?_ ?_; rotate_left
          · show Act.put _ (some 68) _ = _
            simp only [Act.put, sa_, sz_, ss_, i64_w, i32_w]; rfl
          refine pure_ (i := 22) (N := some 71) (v := ?_) (a' := ?_) #[true, true, true, true, true, true, true, true, true, true, true, true, true, true, true, true, true, true, true, true, true, true, true, false] rfl rfl (by kernel_rfl) (fun _ _ _ h => h) (Or.inl ⟨by rfl, ?_⟩) ?_ ?_; rotate_left
          · intro w'
            go_simp; (with_reducible rfl)
          rotate_left
          · simp only [Act.put, sa_, sz_, ss_, i64_w, i32_w]
            rfl
          refine pure_ (i := 23) (N := some 72) (v := ?_) (a' := ?_) #[true, true, true, true, true, true, true, true, true, true, true, true, true, true, true, true, true, true, true, true, true, true, true, true] rfl rfl (by kernel_rfl) (fun _ _ _ h => h) (Or.inl ⟨by rfl, ?_⟩) ?_ ?_; rotate_left
          · intro w'
            go_simp; (with_reducible rfl)
          rotate_left
          · simp only [Act.put, sa_, sz_, ss_, i64_w, i32_w]
            rfl
          refine done_ (by kernel_rfl) ?_
          go_wp2
          go_roundw
          case rel => exact ⟨j + 1, by omega, by simp [HWR.out], T4.out.below X7.out⟩
          case measure => first | exact msr2_ hlt | exact msr_ hlt HWR.out

      · obtain rfl : j = l.length := by omega
        go_wp2
        obtain ⟨bx, S, D, A0, c0, A1, c1, h1, h2, h3, h4, h5, h6, h7⟩ := HTS.out
        have GH := Lib.hid h4; have H6 := Lib.hid h6; have H7 := Lib.hid h7
        clear h1 h2 h3 h4 h5 h6 h7
        have hkl : Hid ((((runs l l.length).2.filter fun p => whB p.f0).map (·.f0)).length ≤ 1000 ∧ ∀ r, r ∈ (((runs l l.length).2.filter fun p => whB p.f0).map (·.f0)) → r.length ≤ 1000) := Lib.hid ⟨by
          rw [List.length_map]
          exact Nat.le_trans (List.length_filter_le _ _) HE.out.1, fun r hr => by
          obtain ⟨p, hp, rfl⟩ := List.mem_map.1 hr
          exact (HE.out.2 p (List.mem_filter.1 hp).1).1.1⟩
        refine startW_ (X := fun w' => Below wr.heap.size wr w') (n := 18) (S := fun w' => Below wr.heap.size wr w') (ds := []) #[false, false, false, false, false, false, false, false, false, false, false, false, false, false, false, false, false, false] (by kernel_rfl) rfl rfl (Below.drew (Below.refl _ _)) (fun w' h => h) (fun w3 hX_ hHeld => ?_)
        clear hX_
        refine pure_ (i := 0) (N := some 73) (v := ?_) (a' := ?_) #[true, false, false, false, false, false, false, false, false, false, false, false, false, false, false, false, false, false] rfl rfl (by kernel_rfl) (fun _ _ _ h => h) (Or.inl ⟨by rfl, ?_⟩) ?_ ?_; rotate_left
        · intro w'
          go_simp; (with_reducible rfl)
        rotate_left
        · simp only [Act.put, sa_, sz_, ss_, i64_w, i32_w]
          rfl
        refine take_ (i := 2) (N := some 75) (v := ?_) (a' := ?_) #[true, false, true, false, false, false, false, false, false, false, false, false, false, false, false, false, false, false] rfl rfl (by kernel_rfl) (fun _ _ _ h => h) (Or.inl ⟨by rfl, ?_⟩) hHeld ?_ ?_; rotate_left
        · intro w' hS; obtain ⟨s0, s1, s2, f0, f1, f2⟩ := bw3_ (blk_below GH.out hS); go_simp; (with_reducible rfl)
        rotate_left
        · simp only [Act.put, sa_, sz_, ss_, i64_w, i32_w]
          rfl
        refine one_ (i := 1) (N := some 74) #[true, true, true, false, false, false, false, false, false, false, false, false, false, false, false, false, false, false] rfl rfl (by kernel_rfl) (by decide) (fun K hK => ?_); refine goes_ Tryd.func33 (by kernel_rfl) rfl #[.pointer (some ⟨gx, 0, none⟩)] (by rfl) rfl rfl (by (try simp only [List.map_toArray, List.map_cons, List.map_nil]); first | done | rfl) ?_; refine ((HTS.out.below hHeld).keys HE.out).mono ?_; rintro e' w4 ⟨v4, rfl, r4, b4⟩; refine ⟨_, rfl, ?_⟩; obtain ⟨A4, d4, hv4⟩ := Kd.R_slice r4; subst hv4; have R4 := Lib.hid r4; have X4 := Lib.hid (below_step hHeld b4); clear r4 b4; refine hK.out _ _ (X4.out) (fun hHeld => ?_); clear hK K; refine norm_ (a' := ?_) ?_ ?_; rotate_left
        · show Act.put _ (some 74) _ = _
          simp only [Act.put, sa_, sz_, ss_, i64_w, i32_w]; rfl
        refine one_ (i := 3) (N := some 76) #[true, true, true, true, false, false, false, false, false, false, false, false, false, false, false, false, false, false] rfl rfl (by kernel_rfl) (by decide) (fun K hK => ?_); refine goes_ Tryd.func34 (by kernel_rfl) rfl #[.agg #[.slice A0 (runs l l.length).2.length c0, .slice A1 (runs l l.length).2.length c1, .bool (runs l l.length).1]] (by rfl) rfl rfl (by (try simp only [List.map_toArray, List.map_cons, List.map_nil]); first | done | rfl) ?_; refine (rk_any (w := w4) (gx := gx) (n := 0) (a := 0) (q := (true, [])) (H6.out.below X4.out) (H7.out.below X4.out) HE.out).mono ?_; rintro e' w5 ⟨A5, d5, rfl, k5, l5, b5⟩; refine ⟨_, rfl, ?_⟩; have K5 := Lib.hid (And.intro k5 l5); have R5 := Lib.hid (Kd.R_below R4.out b5); have X5 := Lib.hid (below_step X4.out b5); clear k5 l5 b5; refine hK.out _ _ (X5.out) (fun hHeld => ?_); clear hK K; refine norm_ (a' := ?_) ?_ ?_; rotate_left
        · show Act.put _ (some 76) _ = _
          simp only [Act.put, sa_, sz_, ss_, i64_w, i32_w]; rfl
        refine one_ (i := 4) (N := some 77) #[true, true, true, true, true, false, false, false, false, false, false, false, false, false, false, false, false, false] rfl rfl (by kernel_rfl) (by decide) (fun K hK => ?_); refine goes_ Tryd.func21 (by kernel_rfl) rfl #[.slice A4 (((runs l l.length).2.filter fun p => whB p.f0).map (·.f0)).length d4, .slice A5 (((runs l l.length).2.filter fun p => whB p.f0).map (·.f0)).length d5] (by rfl) rfl rfl (by (try simp only [List.map_toArray, List.map_cons, List.map_nil]); first | done | rfl) ?_; refine (r04_SameList.calls 3000 A4 d4 _ A5 d5 _ true w5 (R_C R5.out).1 (R_C R5.out).2 K5.out.1 K5.out.2 (samelist_self _ hkl.out.1 hkl.out.2 3000 (by have := hkl.out.1; omega))).mono ?_; rintro e' w6 ⟨rfl, b6⟩; refine ⟨_, rfl, ?_⟩; have X6 := Lib.hid (below_step X5.out b6); clear b6; refine hK.out _ _ (X6.out) (fun hHeld => ?_); clear hK K; refine norm_ (a' := ?_) ?_ ?_; rotate_left
        · show Act.put _ (some 77) _ = _
          simp only [Act.put, sa_, sz_, ss_, i64_w, i32_w]; rfl
        refine pure_ (i := 5) (N := some 78) (v := ?_) (a' := ?_) #[true, true, true, true, true, true, false, false, false, false, false, false, false, false, false, false, false, false] rfl rfl (by kernel_rfl) (fun _ _ _ h => h) (Or.inl ⟨by rfl, ?_⟩) ?_ ?_; rotate_left
        · intro w'
          go_simp; (with_reducible rfl)
        rotate_left
        · simp only [Act.put, sa_, sz_, ss_, i64_w, i32_w]
          rfl
        refine pure_ (i := 6) (N := some 79) (v := ?_) (a' := ?_) #[true, true, true, true, true, true, true, false, false, false, false, false, false, false, false, false, false, false] rfl rfl (by kernel_rfl) (fun _ _ _ h => h) (Or.inl ⟨by rfl, ?_⟩) ?_ ?_; rotate_left
        · intro w'
          go_simp; (with_reducible rfl)
        rotate_left
        · simp only [Act.put, sa_, sz_, ss_, i64_w, i32_w]
          rfl
        refine take_ (i := 8) (N := some 81) (v := ?_) (a' := ?_) #[true, true, true, true, true, true, true, false, true, false, false, false, false, false, false, false, false, false] rfl rfl (by kernel_rfl) (fun _ _ _ h => h) (Or.inl ⟨by rfl, ?_⟩) hHeld ?_ ?_; rotate_left
        · intro w' hS; obtain ⟨s0, s1, s2, f0, f1, f2⟩ := bw3_ (blk_below GH.out hS); go_simp; (with_reducible rfl)
        rotate_left
        · simp only [Act.put, sa_, sz_, ss_, i64_w, i32_w]
          rfl
        refine pure_ (i := 9) (N := some 82) (v := ?_) (a' := ?_) #[true, true, true, true, true, true, true, false, true, true, false, false, false, false, false, false, false, false] rfl rfl (by kernel_rfl) (fun _ _ _ h => h) (Or.inl ⟨by rfl, ?_⟩) ?_ ?_; rotate_left
        · intro w'
          go_simp; (with_reducible rfl)
        rotate_left
        · simp only [Act.put, sa_, sz_, ss_, i64_w, i32_w]
          rfl
        refine pure_ (i := 10) (N := some 83) (v := ?_) (a' := ?_) #[true, true, true, true, true, true, true, false, true, true, true, false, false, false, false, false, false, false] rfl rfl (by kernel_rfl) (fun _ _ _ h => h) (Or.inl ⟨by rfl, ?_⟩) ?_ ?_; rotate_left
        · intro w'
          go_simp; (with_reducible rfl)
        rotate_left
        · simp only [Act.put, sa_, sz_, ss_, i64_w, i32_w]
          rfl
        refine one_ (i := 7) (N := some 80) #[true, true, true, true, true, true, true, true, true, true, true, false, false, false, false, false, false, false] rfl rfl (by kernel_rfl) (by decide) (fun K hK => ?_); refine goes_ Tryd.func35 (by kernel_rfl) rfl #[.pointer (some ⟨gx, 0, none⟩)] (by rfl) rfl rfl (by (try simp only [List.map_toArray, List.map_cons, List.map_nil]); first | done | rfl) ?_; refine ((HTS.out.below X6.out).longest).mono ?_; rintro e' w7 ⟨rfl, rfl⟩; refine ⟨_, rfl, ?_⟩; refine hK.out _ _ (X6.out) (fun hHeld => ?_); clear hK K; refine norm_ (a' := ?_) ?_ ?_; rotate_left
        · show Act.put _ (some 80) _ = _
          simp only [Act.put, sa_, sz_, ss_, i64_w, i32_w]; rfl
        refine one_ (i := 11) (N := some 84) #[true, true, true, true, true, true, true, true, true, true, true, true, false, false, false, false, false, false] rfl rfl (by kernel_rfl) (by decide) (fun K hK => ?_); refine goes_ Tryd.func36 (by kernel_rfl) rfl #[.agg #[.slice A0 (runs l l.length).2.length c0, .slice A1 (runs l l.length).2.length c1, .bool (runs l l.length).1], .int .i64 a, .int .i64 m] (by rfl) rfl rfl (by (try simp only [List.map_toArray, List.map_cons, List.map_nil]); first | done | rfl) ?_; refine (rl_any (a := a) (b := m) (H6.out.below X6.out) (H7.out.below X6.out) HE.out).mono ?_; rintro e' w8 ⟨rfl, b8⟩; refine ⟨_, rfl, ?_⟩; have X8 := Lib.hid (below_step X6.out b8); clear b8; refine hK.out _ _ (X8.out) (fun hHeld => ?_); clear hK K; refine norm_ (a' := ?_) ?_ ?_; rotate_left
        · show Act.put _ (some 84) _ = _
          simp only [Act.put, sa_, sz_, ss_, i64_w, i32_w]; rfl
        refine pure_ (i := 12) (N := some 85) (v := ?_) (a' := ?_) #[true, true, true, true, true, true, true, true, true, true, true, true, true, false, false, false, false, false] rfl rfl (by kernel_rfl) (fun _ _ _ h => h) (Or.inl ⟨by rfl, ?_⟩) ?_ ?_; rotate_left
        · intro w'
          go_simp; (with_reducible rfl)
        rotate_left
        · simp only [Act.put, sa_, sz_, ss_, i64_w, i32_w]
          rfl
        refine pure_ (i := 13) (N := some 86) (v := ?_) (a' := ?_) #[true, true, true, true, true, true, true, true, true, true, true, true, true, true, false, false, false, false] rfl rfl (by kernel_rfl) (fun _ _ _ h => h) (Or.inl ⟨by rfl, ?_⟩) ?_ ?_; rotate_left
        · intro w'
          go_simp; (with_reducible rfl)
        rotate_left
        · simp only [Act.put, sa_, sz_, ss_, i64_w, i32_w]
          rfl
        refine pure_ (i := 14) (N := some 87) (v := ?_) (a' := ?_) #[true, true, true, true, true, true, true, true, true, true, true, true, true, true, true, false, false, false] rfl rfl (by kernel_rfl) (fun _ _ _ h => h) (Or.inl ⟨by rfl, ?_⟩) ?_ ?_; rotate_left
        · intro w'
          go_simp; (with_reducible rfl)
        rotate_left
        · simp only [Act.put, sa_, sz_, ss_, i64_w, i32_w]
          rfl
        refine one_ (i := 15) (N := some 88) #[true, true, true, true, true, true, true, true, true, true, true, true, true, true, true, true, false, false] rfl rfl (by kernel_rfl) (by decide) (fun K hK => ?_); refine goes_ Tryd.func18 (by kernel_rfl) rfl #[] (by rfl) rfl rfl (by (try simp only [List.map_toArray, List.map_cons, List.map_nil]); first | done | rfl) ?_; refine (live_any _ ((HT1.out.below HTS.out.bl).below X8.out)).mono ?_; rintro e' w9 ⟨rfl, b9⟩; refine ⟨_, rfl, ?_⟩; have X9 := Lib.hid (below_step X8.out b9); clear b9; refine hK.out _ _ (X9.out) (fun hHeld => ?_); clear hK K; refine norm_ (a' := ?_) ?_ ?_; rotate_left
        · show Act.put _ (some 88) _ = _
          simp only [Act.put, sa_, sz_, ss_, i64_w, i32_w]; rfl
        refine pure_ (i := 16) (N := some 89) (v := ?_) (a' := ?_) #[true, true, true, true, true, true, true, true, true, true, true, true, true, true, true, true, true, false] rfl rfl (by kernel_rfl) (fun _ _ _ h => h) (Or.inl ⟨by rfl, ?_⟩) ?_ ?_; rotate_left
        · intro w'
          go_simp; (with_reducible rfl)
        rotate_left
        · simp only [Act.put, sa_, sz_, ss_, i64_w, i32_w]
          rfl
        refine pure_ (i := 17) (N := some 6) (v := ?_) (a' := ?_) #[true, true, true, true, true, true, true, true, true, true, true, true, true, true, true, true, true, true] rfl rfl (by kernel_rfl) (fun _ _ _ h => h) (Or.inl ⟨by rfl, ?_⟩) ?_ ?_; rotate_left
        · intro w'
          go_simp; (with_reducible rfl)
        rotate_left
        · simp only [Act.put, sa_, sz_, ss_, i64_w, i32_w]
          rfl
        refine done_ (by kernel_rfl) ?_
        go_wp2
        go_ret
        exact ⟨rfl, below_step (below_step B1.out HTS.out.bl) X9.out⟩
  · clear hT hV hb hp hF hs
    go_enter Tryd.func6, Tryd.ntmps6
    go_wp2_with (first
      | ((with_reducible refine gate_callee (f := 17) rfl ?_); refine goesL_ (some 16) rfl rfl Tryd.func17 (by kernel_rfl) rfl #[.slice A l.length c] rfl (by (try simp only [List.map_toArray, List.map_cons, List.map_nil]); first | done | rfl) ?_; refine (r34_Much.calls 3100 (fun _ => True) A c l true w HV.out HM.out).mono ?_; rintro r' w1 ⟨rfl, b1⟩; refine ⟨_, rfl, ?_⟩; simp only [Act.put, sa_, sz_, ss_]; have B1 := Lib.hid b1; clear b1)
      | ((with_reducible refine gate_callee (f := 18) rfl ?_); refine goesL_ (some 17) rfl rfl Tryd.func18 (by kernel_rfl) rfl #[] rfl (by (try simp only [List.map_toArray, List.map_cons, List.map_nil]); first | done | rfl) ?_; refine (live_any w1 (HT.out.below B1.out)).mono ?_; rintro r' w3 ⟨rfl, b3⟩; refine ⟨_, rfl, ?_⟩; simp only [Act.put, sa_, sz_, ss_]; have B3 := Lib.hid (below_step B1.out b3); clear b3))
    go_ret
    exact ⟨rfl, B3.out⟩
end Go.Proofs.YtcfgjaggccnoaaaDoor.PTableSteps
namespace Go.Proofs.YtcfgjaggccnoaaaDoor.PTableSteps
open Go.RowKit Go.Proofs.YtcfgjaggccnoaaaDoorW.PrintWords Go.Proofs.YtcfgjaggccnoaaaDoorW.PrintLast Go.Proofs.YtcfgjaggccnoaaaDoorW.PrintMore
attribute [local go_sem] max2_int min2_int max_two min_two max_three min_three max_four min_four
set_option linter.unusedVariables false
set_option linter.unusedSimpArgs false
set_option maxRecDepth 100000
set_option maxHeartbeats 4000000
theorem k39_heap : Kd.Heap k39 := Kd.heap_iso _ (Kd.heap_pair (Kd.heap_int .i64) (Kd.heap_pair (Kd.heap_slice 23 k23_heap) (Kd.heap_slice 23 k23_heap)))
def Wf39 (x : S39) : Prop := (Lit.int .i64 x.f0).wf = true ∧ (x.f1.length * 32 ≤ 140737488351232 ∧ ∀ y ∈ x.f1, Wf23 y) ∧ (x.f2.length * 32 ≤ 140737488351232 ∧ ∀ y ∈ x.f2, Wf23 y)
theorem opens24 : ∀ n, Open.Opens Tryd.prog 24 (Kd.slice 23 k23) (fun l : List S23 => l.length * 32 ≤ 140737488351232 ∧ ∀ y ∈ l, Wf23 y) n := fun n => match n with | 0 => Open.opens_zero _ _ _ _ | n + 1 => Open.opens_slice Tryd.underlying24 (by kernel_rfl) (by kernel_rfl) n (opens23 n)
theorem opens39 : ∀ n, Open.Opens Tryd.prog 39 k39 Wf39 n
  | 0 => Open.opens_zero _ _ _ _
  | n + 1 => (Open.opens_struct (t := 39) (L := (Kd.pair (Kd.int .i64) (Kd.pair (Kd.slice 23 k23) (Kd.slice 23 k23)))) (fun x : S39 => (x.f0, x.f1, x.f2)) (fun b => (⟨b.1, b.2.1, b.2.2⟩ : S39)) (fun _ => rfl) Tryd.underlying39 (by kernel_rfl) n (Open.opensF_cons rfl (by kernel_rfl) n ((Open.opens_int Tryd.underlying3) n) (Open.opensF_cons rfl (by kernel_rfl) n (opens24 n) (Open.opensF_one rfl (by kernel_rfl) n (opens24 n))))).imp (fun _ _ _ h => h) (fun _ h => h)
end Go.Proofs.YtcfgjaggccnoaaaDoor.PTableSteps
