-- Written by wip/pack.py, a program of mine: the texts that this law stands on, as far as it uses them; Lean checks it.
import Derived.Test.YtcfgjaggccnoaaaProg
import Derived.Below
import Derived.Deep.Draws
import Derived.Deep.AppendLies
import Derived.Maps.AppendAt
import Derived.OwnWalk
import Derived.Laws.BytesArg
import Derived.Laws.MakeOwn
import Derived.Laws.OwnMore
import Derived.Deep.OwnRows
import Derived.Tactics
import Derived.Lib.ConvBytes
import Derived.Laws.Slices
import Derived.WalkKit
import Derived.KernelRfl
import Derived.RowKit3
import Derived.Deep.LoopGhost
import Derived.Deep.QuietTactic
import Derived.BigQuiet
import Derived.WideLaws
import Derived.Deep.DeepCutAuto
import Derived.Deep.CutBlock
import Derived.Deep.RegionHeld3
import Derived.Laws.Rows
import Derived.Lib.AppendStr
import Derived.ArgAppend
import Derived.Laws.IdiomCopy
import Derived.RowKit
import Derived.OrdersHeld
import Derived.Laws.BitsLemmas
import Ieee.Arith
import GoSem.Core.Float
import Derived.Laws.FloatArith
import Derived.Laws.Externs
import GoSem.Extern.MathFloatBits
import Derived.Laws.StructEq
import Derived.Lib.BitFns
import Derived.Lib.Hide
import Derived.Lib.Slices
import Derived.Lib.Small
import Derived.Lib.Strings
import Derived.Lib.Walk
import Derived.StillTailTactics
import Derived.Lib.SliceRun
import Derived.Test.YtcfgjaggccnoaaaZCostShares3
namespace Go.Proofs.Ytcfgjaggccnoaaa.PCostShares
open Go.RowKit Go.Proofs.YtcfgjaggccnoaaaW.PrintWords Go.Proofs.YtcfgjaggccnoaaaW.PrintLast Go.Proofs.YtcfgjaggccnoaaaW.PrintMore
attribute [local go_sem] max2_int min2_int max_two min_two max_three min_three max_four min_four
set_option linter.unusedVariables false
set_option maxHeartbeats 8000000
set_option linter.unusedSimpArgs false
set_option maxRecDepth 100000
theorem r27_Held.calls (k : Nat) (a0_0 : Int) (A0_1 : Option Addr) (c0_1 : Nat) (l0_1 : List (S116)) (a1 : Int) (r1 : Int) (r2 : List (S116)) (w : World) (hr0_1 : Kd.C k116 w A0_1 l0_1.length l0_1) (hc0_1 : l0_1.length ≤ c0_1) (h : r27_Held.f k a0_0 l0_1 a1 = some (r1, r2)) :
  Calls Try.prog 109 #[.agg #[.int .i64 a0_0, .slice A0_1 l0_1.length c0_1], .int .i64 a1] w fun e w' => ∃ v1_ : Value, e = .returned (.agg #[.int .i64 r1, v1_]) ∧ Kd.S k116 116 w' w.heap.size (fun _ => True) v1_ r2 ∧ Below w.heap.size w w' := by
 have hu103 := Try.underlying103; have hu116 := Try.underlying116; have HR0_1 := am_ hr0_1; have HC0_1 := am_ hc0_1; clear hr0_1 hc0_1; have HB := am_ (Below.refl w.heap.size w); have H : ((r26_Cut.f a0_0).bind fun t334 => (r27_Held.l0 k a1 0 a0_0 l0_1 t334 ([] : List (S116)))) = some (r1, r2) := h; clear h; replace H := Option.bind_eq_some_iff.mp H; obtain ⟨t334, A30, H⟩ := H; replace H : (r27_Held.l0 k a1 0 a0_0 l0_1 t334 ([] : List (S116))) = some (r1, r2) := H; have A3 := am_ A30; clear A30; have H' := am_ H; clear H
 go_enter Try.func109, Try.ntmps109
 go_wp2_with (first | ((with_reducible refine gate_dst (N := 2) rfl ?_); refine box_event ?hg (N := 2) ?hd (cs := #[.int .i64 a0_0, .slice A0_1 l0_1.length c0_1]) (t := 103) ?hr ?_; (case hd => rfl); (case hg => rfl); (case hr => first | (go_simp; done) | (go_simp; rfl)); intro gb332 hg w4 hbox hb; have BK332 := am_ (hbox); have GW332 := am_ ((by rw [hg]; exact (below_size (bl_)) : w.heap.size ≤ gb332)); have GE332 := am_ ((by rw [hg]; exact (below_size (bl_)) : w.heap.size ≤ gb332)); replace HB := am_ (below_step (bl_) hb); clear hb hbox hg) | ((with_reducible refine gate_dst (N := 4) rfl ?_); refine box_event ?hg (N := 4) ?hd (cs := #[.int .i64 0, .slice none 0 0]) (t := 103) ?hr ?_; (case hd => rfl); (case hg => rfl); (case hr => first | (go_simp; done) | (go_simp; rfl)); intro gb333 hg w5 hbox hb; have n0_ := am_ (blk_below (bk_ BK332.out) hb); have n1_ := am_ (below_step (bl_) hb); have n2_ := am_ (hbox); have n3_ := am_ ((by rw [hg]; exact (below_size (bl_)) : w.heap.size ≤ gb333)); have n4_ := am_ ((by rw [hg]; exact (below_size (bl_)) : w.heap.size ≤ gb333)); have n5_ := am_ ((by rw [hg]; exact Nat.ne_of_lt (blk_lt (g := gb332) (o := .cells #[.int .i64 a0_0, .slice A0_1 l0_1.length c0_1] 103 (0, 0)) (bk_ BK332.out)) : gb332 ≠ gb333)); have n6_ := am_ ((by rw [hg]; exact Nat.ne_of_gt (blk_lt (g := gb332) (o := .cells #[.int .i64 a0_0, .slice A0_1 l0_1.length c0_1] 103 (0, 0)) (bk_ BK332.out)) : gb333 ≠ gb332)); clear BK332; clear HB; have BK332 := n0_; have HB := n1_; have BK333 := n2_; have GW333 := n3_; have GE333 := n4_; have NB332_333 := n5_; have NB333_332 := n6_; clear n0_ n1_ n2_ n3_ n4_ n5_ n6_; clear hb hbox hg; have hnb6 := NB332_333.out; have hnc6 := NB333_332.out; obtain ⟨hcz7_0, hcz7_1, hfz7_0, hfz7_1⟩ := bw2_ BK332.out) | ((with_reducible refine gate_callee (f := 135) rfl ?_); refine goesL_ (some 10) rfl rfl Try.func135 (by kernel_rfl) rfl #[.int .i64 a0_0] rfl (by (try simp only [List.map_toArray, List.map_cons, List.map_nil]); first | done | rfl | (simp only [List.length_drop, List.length_take]; rfl)) ?_; (with_reducible refine (r26_Cut.calls a0_0 t334 _ A3.out).mono ?_); rintro e w' ⟨rfl, ⟨nd, rfl⟩⟩; refine ⟨_, rfl, ?_⟩; (try (rw [drewN_self w5]; generalize hq_ : World.drewN w5 _ = w5; have n0_ : Aside0 (w5.heap[gb332]? = some (.cells #[.int .i64 a0_0, .slice A0_1 l0_1.length c0_1] 103 (0, 0))) := ⟨by rw [← hq_]; exact (bk_ BK332.out)⟩; have n1_ : Aside0 (w5.heap[gb333]? = some (.cells #[.int .i64 0, .slice none 0 0] 103 (0, 0))) := ⟨by rw [← hq_]; exact (bk_ BK333.out)⟩; have n2_ : Aside0 (Below w.heap.size w w5) := ⟨by rw [← hq_]; exact (bl_)⟩; clear BK332 BK333 HB hq_; have BK332 := n0_; have BK333 := n1_; have HB := n2_; clear n0_ n1_ n2_))) | ((with_reducible refine gate_dst (N := 5) rfl ?_); refine box_event ?hg (N := 5) ?hd (cs := #[.int .i64 0, .slice none 0 0]) (t := 103) ?hr ?_; (case hd => rfl); (case hg => rfl); (case hr => first | (go_simp; done) | (go_simp; rfl)); intro gb335 hg w8 hbox hb; have n0_ := am_ (blk_below (bk_ BK332.out) hb); have n1_ := am_ (blk_below (bk_ BK333.out) hb); have n2_ := am_ (below_step (bl_) hb); have n3_ := am_ (hbox); have n4_ := am_ ((by rw [hg]; exact (below_size (bl_)) : w.heap.size ≤ gb335)); have n5_ := am_ ((by rw [hg]; exact (below_size (bl_)) : w.heap.size ≤ gb335)); have n6_ := am_ ((by rw [hg]; exact Nat.ne_of_lt (blk_lt (g := gb332) (o := .cells #[.int .i64 a0_0, .slice A0_1 l0_1.length c0_1] 103 (0, 0)) (bk_ BK332.out)) : gb332 ≠ gb335)); have n7_ := am_ ((by rw [hg]; exact Nat.ne_of_gt (blk_lt (g := gb332) (o := .cells #[.int .i64 a0_0, .slice A0_1 l0_1.length c0_1] 103 (0, 0)) (bk_ BK332.out)) : gb335 ≠ gb332)); have n8_ := am_ ((by rw [hg]; exact Nat.ne_of_lt (blk_lt (g := gb333) (o := .cells #[.int .i64 0, .slice none 0 0] 103 (0, 0)) (bk_ BK333.out)) : gb333 ≠ gb335)); have n9_ := am_ ((by rw [hg]; exact Nat.ne_of_gt (blk_lt (g := gb333) (o := .cells #[.int .i64 0, .slice none 0 0] 103 (0, 0)) (bk_ BK333.out)) : gb335 ≠ gb333)); clear BK332; clear BK333; clear HB; have BK332 := n0_; have BK333 := n1_; have HB := n2_; have BK335 := n3_; have GW335 := n4_; have GE335 := n5_; have NB332_335 := n6_; have NB335_332 := n7_; have NB333_335 := n8_; have NB335_333 := n9_; clear n0_ n1_ n2_ n3_ n4_ n5_ n6_ n7_ n8_ n9_; clear hb hbox hg; have hnb9 := NB335_332.out; have hnc9 := NB332_335.out; have hnb10 := NB335_333.out; have hnc10 := NB333_335.out; obtain ⟨hcz11_0, hcz11_1, hfz11_0, hfz11_1⟩ := bw2_ BK335.out))
 go_loopg [6] k (fun kq v6 w' => ∃ (x6_1 : Int) (x336001_1 : List (S116)) (u336001 : Value), v6 = .int .i64 x6_1 ∧ Aside0 (r27_Held.l0 kq a1 x6_1 a0_0 l0_1 t334 x336001_1 = some (r1, r2)) ∧ Aside0 (kq ≤ k) ∧ Aside0 (Kd.S k116 116 w' w.heap.size (fun _ => True) u336001 x336001_1) ∧ Aside0 (w'.heap[gb332]? = some (.cells #[.int .i64 a0_0, (.slice A0_1 l0_1.length c0_1)] 103 (0, 0))) ∧ Aside0 (w'.heap[gb333]? = some (.cells #[.int .i64 0, (.slice none 0 0)] 103 (0, 0))) ∧ Aside0 (w'.heap[gb335]? = some (.cells #[.int .i64 t334, u336001] 103 (0, 0))) ∧ Aside0 (Below w.heap.size w w'))
 case atStart => exact ⟨(0), (([] : List (S116))), (.slice none 0 0), (rs_), H', ⟨Nat.le_refl _⟩, ⟨by first | exact Kd.S_nil _ _ _ _ _ | exact Kd.N_nil _ _ _ _ _ | exact Kd.V_nil _ _ _ _ _ | exact Kd.Q_nil _ _ _ _ _ | exact Kd.R_nil _ _ _ _ _⟩, ⟨by refine bp_ ?_; refine blk_far ?_ NB332_335.out _; refine bp_ ?_; refine blk_far ?_ NB332_335.out _; refine bp_ ?_; exact BK332.out⟩, ⟨by refine bp_ ?_; refine blk_far ?_ NB333_335.out _; refine bp_ ?_; refine blk_far ?_ NB333_335.out _; refine bp_ ?_; exact BK333.out⟩, ⟨by refine bp_ ?_; refine blk_put (cs := #[.int .i64 t334, .slice none 0 0]) ?_ 1 _ rfl; refine bp_ ?_; refine blk_put (cs := #[.int .i64 0, .slice none 0 0]) ?_ 0 _ rfl; refine bp_ ?_; exact BK335.out⟩, ⟨bl_⟩⟩
 case round =>
  clear H'; (try clear c1); (try clear p2); (try clear c6); (try clear c9); (try clear c10); (try clear hcz11_0); (try clear hcz11_1); (try clear hcz7_0); (try clear hcz7_1); (try clear hfz11_0); (try clear hfz11_1); (try clear hfz7_0); (try clear hfz7_1); obtain ⟨x6_1, x336001_1, u336001, rfl, HA, HK1, HO_336001, BK332, BK333, BK335, HB⟩ := hrel
  cases gk with
  | zero => exact absurd HA.out (by simp [r27_Held.l0])
  | succ k1 =>
   have H := HA.out; clear HA; simp only [r27_Held.l0] at H; replace H := Option.bind_eq_some_iff.mp H; obtain ⟨t336, A120, H⟩ := H; replace H : (if x6_1 < t336 then (if x6_1 < (l0_1.length : Int) then (if 0 ≤ x6_1 then ((r27_near.f ((rd_T116 l0_1 x6_1).f1) t334).bind fun t339 => ((r27_near.f ((rd_T116 l0_1 x6_1).f0) (wrap64 (t334 - t339))).bind fun t340 => ((r27_near.f (((rd_T116 l0_1 x6_1).f2).length : Int) 9).bind fun t341 => (if 0 ≤ t341 then (if t341 ≤ (((rd_T116 l0_1 x6_1).f2).length : Int) then ((r27_Sort.f k1 (((rd_T116 l0_1 x6_1).f2).take (t341 : Int).toNat)).bind fun t343 => (if x336001_1.length < 3518437208883 then (r27_Held.l0 k1 a1 (wrap64 (x6_1 + 1)) a0_0 l0_1 t334 (x336001_1 ++ [(⟨t340, t339, t343⟩ : S116)])) else (none))) else (none)) else (none))))) else (none)) else ((r27_near.f 0 t334).bind fun t349 => ((r27_near.f 0 (wrap64 (t334 - t349))).bind fun t350 => ((r27_near.f (([] : List Int).length : Int) 9).bind fun t351 => (if t351 = 0 then ((r27_Sort.f k1 ([] : List Int)).bind fun t352 => (if x336001_1.length < 3518437208883 then (r27_Held.l0 k1 a1 (wrap64 (x6_1 + 1)) a0_0 l0_1 t334 (x336001_1 ++ [(⟨t350, t349, t352⟩ : S116)])) else (none))) else (none)))))) else (some (t334, x336001_1))) = some (r1, r2) := H; have A12 := am_ A120; clear A120
   by_cases c13 : x6_1 < t336
   ·rw [if_pos c13] at H
    have c13b0 : decide (x6_1 < t336) = true := decide_eq_true c13; clear c13
    by_cases c14 : x6_1 < (l0_1.length : Int)
    ·rw [if_pos c14] at H
     have c14b0 : decide (x6_1 < (l0_1.length : Int)) = true := decide_eq_true c14; clear c14
     by_cases c15 : 0 ≤ x6_1
     ·rw [if_pos c15] at H
      have c15b0 : decide (0 ≤ x6_1) = true := decide_eq_true c15; clear c15; replace H := Option.bind_eq_some_iff.mp H; obtain ⟨t339, A160, H⟩ := H; replace H : ((r27_near.f ((rd_T116 l0_1 x6_1).f0) (wrap64 (t334 - t339))).bind fun t340 => ((r27_near.f (((rd_T116 l0_1 x6_1).f2).length : Int) 9).bind fun t341 => (if 0 ≤ t341 then (if t341 ≤ (((rd_T116 l0_1 x6_1).f2).length : Int) then ((r27_Sort.f k1 (((rd_T116 l0_1 x6_1).f2).take (t341 : Int).toNat)).bind fun t343 => (if x336001_1.length < 3518437208883 then (r27_Held.l0 k1 a1 (wrap64 (x6_1 + 1)) a0_0 l0_1 t334 (x336001_1 ++ [(⟨t340, t339, t343⟩ : S116)])) else (none))) else (none)) else (none)))) = some (r1, r2) := H; have A16 := am_ A160; clear A160; replace H := Option.bind_eq_some_iff.mp H; obtain ⟨t340, A170, H⟩ := H; replace H : ((r27_near.f (((rd_T116 l0_1 x6_1).f2).length : Int) 9).bind fun t341 => (if 0 ≤ t341 then (if t341 ≤ (((rd_T116 l0_1 x6_1).f2).length : Int) then ((r27_Sort.f k1 (((rd_T116 l0_1 x6_1).f2).take (t341 : Int).toNat)).bind fun t343 => (if x336001_1.length < 3518437208883 then (r27_Held.l0 k1 a1 (wrap64 (x6_1 + 1)) a0_0 l0_1 t334 (x336001_1 ++ [(⟨t340, t339, t343⟩ : S116)])) else (none))) else (none)) else (none))) = some (r1, r2) := H; have A17 := am_ A170; clear A170; replace H := Option.bind_eq_some_iff.mp H; obtain ⟨t341, A180, H⟩ := H; replace H : (if 0 ≤ t341 then (if t341 ≤ (((rd_T116 l0_1 x6_1).f2).length : Int) then ((r27_Sort.f k1 (((rd_T116 l0_1 x6_1).f2).take (t341 : Int).toNat)).bind fun t343 => (if x336001_1.length < 3518437208883 then (r27_Held.l0 k1 a1 (wrap64 (x6_1 + 1)) a0_0 l0_1 t334 (x336001_1 ++ [(⟨t340, t339, t343⟩ : S116)])) else (none))) else (none)) else (none)) = some (r1, r2) := H; have A18 := am_ A180; clear A180
      by_cases c19 : 0 ≤ t341
      ·rw [if_pos c19] at H
       have c19b0 := eq_true c19; have c19b1 : decide (0 ≤ t341) = true := decide_eq_true c19; clear c19
       by_cases c20 : t341 ≤ (((rd_T116 l0_1 x6_1).f2).length : Int)
       ·rw [if_pos c20] at H
        have c20b0 := eq_true c20; have c20b1 : decide (t341 ≤ (((rd_T116 l0_1 x6_1).f2).length : Int)) = true := decide_eq_true c20; clear c20; replace H := Option.bind_eq_some_iff.mp H; obtain ⟨t343, A210, H⟩ := H; replace H : (if x336001_1.length < 3518437208883 then (r27_Held.l0 k1 a1 (wrap64 (x6_1 + 1)) a0_0 l0_1 t334 (x336001_1 ++ [(⟨t340, t339, t343⟩ : S116)])) else (none)) = some (r1, r2) := H; have A21 := am_ A210; clear A210
        by_cases c22 : x336001_1.length < 3518437208883
        ·rw [if_pos c22] at H
         have LMc22 := am_ c22; clear c22
         obtain ⟨y346, hy346⟩ : ∃ y_ : List (S116), y_ = (x336001_1 ++ [(⟨t340, t339, t343⟩ : S116)]) := ⟨_, rfl⟩
         replace H : (r27_Held.l0 k1 a1 (wrap64 (x6_1 + 1)) a0_0 l0_1 t334 y346) = some (r1, r2) := by first | (rw [hy346]; with_reducible exact H) | (have H2_ := (Option.bind_some _ _).symm.trans H; rw [hy346]; with_reducible exact H2_) | (have H2_ := (Option.bind_some _ _).symm.trans H; with_reducible exact H2_) | with_reducible exact H | (rw [hy346]; exact H) | exact H
         have Ny346 := am_ hy346; clear hy346; have H' := am_ H; clear H
         try go_wp2_with (first | ((with_reducible refine gate_callee (f := 136) rfl ?_); refine goesL_ (some 14) rfl rfl Try.func136 (by kernel_rfl) rfl #[.int .i64 a1, .int .i64 16] rfl (by (try simp only [List.map_toArray, List.map_cons, List.map_nil]); first | done | rfl | (simp only [List.length_drop, List.length_take]; rfl)) ?_; (with_reducible refine (r27_near.calls a1 16 t336 _ A12.out).mono ?_); rintro e w' ⟨rfl, ⟨nd, rfl⟩⟩; refine ⟨_, rfl, ?_⟩; (try (rw [drewN_self wr]; generalize hq_ : World.drewN wr _ = wr; have n0_ : Aside0 (Kd.S k116 116 wr w.heap.size (fun _ => True) u336001 x336001_1) := ⟨by rw [← hq_]; exact (by (with_reducible repeat (first | apply Kd.S_alloc | apply Kd.S_drewN | apply Kd.S_drew)); exact HO_336001.out)⟩; have n1_ : Aside0 (wr.heap[gb332]? = some (.cells #[.int .i64 a0_0, .slice A0_1 l0_1.length c0_1] 103 (0, 0))) := ⟨by rw [← hq_]; exact (bk_ BK332.out)⟩; have n2_ : Aside0 (wr.heap[gb333]? = some (.cells #[.int .i64 0, .slice none 0 0] 103 (0, 0))) := ⟨by rw [← hq_]; exact (bk_ BK333.out)⟩; have n3_ : Aside0 (wr.heap[gb335]? = some (.cells #[.int .i64 t334, u336001] 103 (0, 0))) := ⟨by rw [← hq_]; exact (bk_ BK335.out)⟩; have n4_ : Aside0 (Below w.heap.size w wr) := ⟨by rw [← hq_]; exact (bl_)⟩; clear HO_336001 BK332 BK333 BK335 HB hq_; have HO_336001 := n0_; have BK332 := n1_; have BK333 := n2_; have BK335 := n3_; have HB := n4_; clear n0_ n1_ n2_ n3_ n4_))) | ((with_reducible refine gate_dst (N := 7) rfl ?_); refine box_event ?hg (N := 7) ?hd (cs := #[.int .i64 0, .int .i64 0, .slice none 0 0]) (t := 116) ?hr ?_; (case hd => rfl); (case hg => rfl); (case hr => first | (go_simp; done) | (go_simp; rfl)); intro gb337 hg w23 hbox hb; have n0_ := am_ (Kd.S_below (Kd.S_elderB (by (with_reducible repeat (first | apply Kd.S_alloc | apply Kd.S_drewN | apply Kd.S_drew)); exact HO_336001.out) gb337 (Nat.le_of_eq hg.symm)) hb); have n1_ := am_ (blk_below (bk_ BK332.out) hb); have n2_ := am_ (blk_below (bk_ BK333.out) hb); have n3_ := am_ (blk_below (bk_ BK335.out) hb); have n4_ := am_ (below_step (bl_) hb); have n5_ := am_ (hbox); have n6_ := am_ ((by rw [hg]; exact (below_size (bl_)) : w.heap.size ≤ gb337)); have n7_ := am_ ((by rw [hg]; exact (below_size (bl_)) : w.heap.size ≤ gb337)); have n8_ := am_ ((by rw [hg]; exact Nat.ne_of_lt (blk_lt (g := gb332) (o := .cells #[.int .i64 a0_0, .slice A0_1 l0_1.length c0_1] 103 (0, 0)) (bk_ BK332.out)) : gb332 ≠ gb337)); have n9_ := am_ ((by rw [hg]; exact Nat.ne_of_gt (blk_lt (g := gb332) (o := .cells #[.int .i64 a0_0, .slice A0_1 l0_1.length c0_1] 103 (0, 0)) (bk_ BK332.out)) : gb337 ≠ gb332)); have n10_ := am_ ((by rw [hg]; exact Nat.ne_of_lt (blk_lt (g := gb333) (o := .cells #[.int .i64 0, .slice none 0 0] 103 (0, 0)) (bk_ BK333.out)) : gb333 ≠ gb337)); have n11_ := am_ ((by rw [hg]; exact Nat.ne_of_gt (blk_lt (g := gb333) (o := .cells #[.int .i64 0, .slice none 0 0] 103 (0, 0)) (bk_ BK333.out)) : gb337 ≠ gb333)); have n12_ := am_ ((by rw [hg]; exact Nat.ne_of_lt (blk_lt (g := gb335) (o := .cells #[.int .i64 t334, u336001] 103 (0, 0)) (bk_ BK335.out)) : gb335 ≠ gb337)); have n13_ := am_ ((by rw [hg]; exact Nat.ne_of_gt (blk_lt (g := gb335) (o := .cells #[.int .i64 t334, u336001] 103 (0, 0)) (bk_ BK335.out)) : gb337 ≠ gb335)); clear HO_336001; clear BK332; clear BK333; clear BK335; clear HB; have HO_336001 := n0_; have BK332 := n1_; have BK333 := n2_; have BK335 := n3_; have HB := n4_; have BK337 := n5_; have GW337 := n6_; have GE337 := n7_; have NB332_337 := n8_; have NB337_332 := n9_; have NB333_337 := n10_; have NB337_333 := n11_; have NB335_337 := n12_; have NB337_335 := n13_; clear n0_ n1_ n2_ n3_ n4_ n5_ n6_ n7_ n8_ n9_ n10_ n11_ n12_ n13_; clear hb hbox hg; have hnb24 := NB337_332.out; have hnc24 := NB332_337.out; have hnb25 := NB337_333.out; have hnc25 := NB333_337.out; have hnb26 := NB337_335.out; have hnc26 := NB335_337.out; obtain ⟨hcz27_0, hcz27_1, hcz27_2, hfz27_0, hfz27_1, hfz27_2⟩ := bw3_ BK337.out; have hnb28 := NB332_333.out; have hnc28 := NB333_332.out; have hnb29 := NB332_335.out; have hnc29 := NB335_332.out; obtain ⟨hcz30_0, hcz30_1, hfz30_0, hfz30_1⟩ := bw2_ BK332.out; have p338 : 0 ≤ (x6_1 : Int) := of_decide_eq_true (as_); have q338 : x6_1 < (l0_1.length : Int) := of_decide_eq_true (as_); obtain ⟨ad338, A338_2, c338_2, e338, hx338_0, hx338_1, hx338_2, hl338_2, hi338_2⟩ := at_T116 HR0_1.out x6_1 p338 q338; cases e338; have hn338_0 : ad338.block ≠ gb337 := Nat.ne_of_lt (Nat.lt_of_lt_of_le (by have := World.block_lt_of_cell? _ _ hx338_0; first | rwa [add_block] at this | exact this) GW337.out); have hn338_1 : ad338.block ≠ gb337 := Nat.ne_of_lt (Nat.lt_of_lt_of_le (by have := World.block_lt_of_cell? _ _ hx338_0; first | rwa [add_block] at this | exact this) GW337.out); have hn338_2 : ad338.block ≠ gb337 := Nat.ne_of_lt (Nat.lt_of_lt_of_le (by have := World.block_lt_of_cell? _ _ hx338_0; first | rwa [add_block] at this | exact this) GW337.out); replace hx338_0 := (HB.out.cell (World.block_lt_of_cell? w _ hx338_0)).trans hx338_0; replace hx338_1 := (HB.out.cell (World.block_lt_of_cell? w _ hx338_1)).trans hx338_1; replace hx338_2 := (HB.out.cell (World.block_lt_of_cell? w _ hx338_2)).trans hx338_2; have HR338_2 := am_ hi338_2; have HC338_2 := am_ hl338_2; clear hi338_2 hl338_2; replace p338 := eq_true p338; replace q338 := eq_true q338; have hnb31 := NB335_333.out; have hnc31 := NB333_335.out; obtain ⟨hcz32_0, hcz32_1, hfz32_0, hfz32_1⟩ := bw2_ BK335.out) | ((with_reducible refine gate_callee (f := 136) rfl ?_); refine goesL_ (some 33) rfl rfl Try.func136 (by kernel_rfl) rfl #[.int .i64 ((rd_T116 l0_1 x6_1).f1), .int .i64 t334] rfl (by (try simp only [List.map_toArray, List.map_cons, List.map_nil]); first | done | rfl | (simp only [List.length_drop, List.length_take]; rfl)) ?_; (with_reducible refine (r27_near.calls ((rd_T116 l0_1 x6_1).f1) t334 t339 _ A16.out).mono ?_); rintro e w' ⟨rfl, ⟨nd, rfl⟩⟩; refine ⟨_, rfl, ?_⟩) | ((with_reducible refine gate_callee (f := 136) rfl ?_); refine goesL_ (some 42) rfl rfl Try.func136 (by kernel_rfl) rfl #[.int .i64 ((rd_T116 l0_1 x6_1).f0), .int .i64 (wrap64 (t334 - t339))] rfl (by (try simp only [List.map_toArray, List.map_cons, List.map_nil]); first | done | rfl | (simp only [List.length_drop, List.length_take]; rfl)) ?_; (with_reducible refine (r27_near.calls ((rd_T116 l0_1 x6_1).f0) (wrap64 (t334 - t339)) t340 _ A17.out).mono ?_); rintro e w' ⟨rfl, ⟨nd, rfl⟩⟩; refine ⟨_, rfl, ?_⟩) | ((with_reducible refine gate_store (t := 116) (p := 7) (v := .tmp 18) rfl ?_); refine store3_all (n := w.heap.size) (v0 := (.int .i64 0)) (v1 := (.int .i64 0)) (v2 := (.slice none 0 0)) rfl rfl GW337.out (bk_ BK337.out) ?hr ?_; (case hr => first | (go_simp; done) | (go_simp; rfl)); intro V_ hv hf hB; have n0_ := am_ (Kd.S_mono (Kd.S_step (S_xq HO_336001.out) (fun k_ hk _ => hf k_ hk.2)) (fun k_ hk => (hk.2 : k_ ≠ gb337))); have n1_ := am_ ((hf _ NB332_337.out).trans (bk_ BK332.out)); have n2_ := am_ ((hf _ NB333_337.out).trans (bk_ BK333.out)); have n3_ := am_ ((hf _ NB335_337.out).trans (bk_ BK335.out)); have nv_ := am_ hv; have nb_ := am_ (Below.trans (bl_) hB); replace hx338_0 := (cell_blk (hf _ (by first | (rw [add_block]; exact hn338_0) | (show (Addr.add _ _).block ≠ _; rw [add_block]; exact hn338_0) | exact hn338_0))).trans hx338_0; replace hx338_1 := (cell_blk (hf _ (by first | (rw [add_block]; exact hn338_0) | (show (Addr.add _ _).block ≠ _; rw [add_block]; exact hn338_0) | exact hn338_0))).trans hx338_1; replace hx338_2 := (cell_blk (hf _ (by first | (rw [add_block]; exact hn338_0) | (show (Addr.add _ _).block ≠ _; rw [add_block]; exact hn338_0) | exact hn338_0))).trans hx338_2; clear HO_336001 BK332 BK333 BK335 BK337 HB hv hf hB; have HO_336001 := n0_; have BK332 := n1_; have BK333 := n2_; have BK335 := n3_; have BK337 := nv_; have HB := nb_; clear n0_ n1_ n2_ n3_ nv_ nb_; clear hcz27_0 hcz27_1 hcz27_2 hfz27_0 hfz27_1 hfz27_2; obtain ⟨hcz27_0, hcz27_1, hcz27_2, hfz27_0, hfz27_1, hfz27_2⟩ := bw3_ BK337.out; clear hcz30_0 hcz30_1 hfz30_0 hfz30_1; obtain ⟨hcz30_0, hcz30_1, hfz30_0, hfz30_1⟩ := bw2_ BK332.out; clear hcz32_0 hcz32_1 hfz32_0 hfz32_1; obtain ⟨hcz32_0, hcz32_1, hfz32_0, hfz32_1⟩ := bw2_ BK335.out) | ((with_reducible refine gate_store (t := 116) (p := 7) (v := .tmp 28) rfl ?_); refine store3_all (n := w.heap.size) (v0 := (.int .i64 ((rd_T116 l0_1 x6_1).f0))) (v1 := (.int .i64 ((rd_T116 l0_1 x6_1).f1))) (v2 := (.slice A338_2 ((rd_T116 l0_1 x6_1).f2).length c338_2)) rfl rfl GW337.out (bk_ BK337.out) ?hr ?_; (case hr => first | (go_simp; done) | (go_simp; rfl)); intro V_ hv hf hB; have n0_ := am_ (Kd.S_step (S_xq HO_336001.out) (fun k_ hk _ => hf k_ hk)); have n1_ := am_ ((hf _ NB332_337.out).trans (bk_ BK332.out)); have n2_ := am_ ((hf _ NB333_337.out).trans (bk_ BK333.out)); have n3_ := am_ ((hf _ NB335_337.out).trans (bk_ BK335.out)); have nv_ := am_ hv; have nb_ := am_ (Below.trans (bl_) hB); clear hx338_0 hx338_1 hx338_2; clear HO_336001 BK332 BK333 BK335 BK337 HB hv hf hB; have HO_336001 := n0_; have BK332 := n1_; have BK333 := n2_; have BK335 := n3_; have BK337 := nv_; have HB := nb_; clear n0_ n1_ n2_ n3_ nv_ nb_; clear hcz27_0 hcz27_1 hcz27_2 hfz27_0 hfz27_1 hfz27_2; obtain ⟨hcz27_0, hcz27_1, hcz27_2, hfz27_0, hfz27_1, hfz27_2⟩ := bw3_ BK337.out; clear hcz30_0 hcz30_1 hfz30_0 hfz30_1; obtain ⟨hcz30_0, hcz30_1, hfz30_0, hfz30_1⟩ := bw2_ BK332.out; clear hcz32_0 hcz32_1 hfz32_0 hfz32_1; obtain ⟨hcz32_0, hcz32_1, hfz32_0, hfz32_1⟩ := bw2_ BK335.out) | ((with_reducible refine gate_store (t := 3) (p := 34) (v := .tmp 33) rfl ?_); refine store3_one (n := w.heap.size) (cs' := #[(.int .i64 ((rd_T116 l0_1 x6_1).f0)), (.int .i64 t339), (.slice A338_2 ((rd_T116 l0_1 x6_1).f2).length c338_2)]) (v := (.int .i64 t339)) 1 rfl rfl GW337.out (bk_ BK337.out) ?hr rfl ?_; (case hr => first | (go_simp; done) | (go_simp; rfl)); intro V_ hv hf hB; have n0_ := am_ (Kd.S_step (S_xq HO_336001.out) (fun k_ hk _ => hf k_ hk)); have n1_ := am_ ((hf _ NB332_337.out).trans (bk_ BK332.out)); have n2_ := am_ ((hf _ NB333_337.out).trans (bk_ BK333.out)); have n3_ := am_ ((hf _ NB335_337.out).trans (bk_ BK335.out)); have nv_ := am_ hv; have nb_ := am_ (Below.trans (bl_) hB); clear HO_336001 BK332 BK333 BK335 BK337 HB hv hf hB; have HO_336001 := n0_; have BK332 := n1_; have BK333 := n2_; have BK335 := n3_; have BK337 := nv_; have HB := nb_; clear n0_ n1_ n2_ n3_ nv_ nb_; clear hcz27_0 hcz27_1 hcz27_2 hfz27_0 hfz27_1 hfz27_2; obtain ⟨hcz27_0, hcz27_1, hcz27_2, hfz27_0, hfz27_1, hfz27_2⟩ := bw3_ BK337.out; clear hcz30_0 hcz30_1 hfz30_0 hfz30_1; obtain ⟨hcz30_0, hcz30_1, hfz30_0, hfz30_1⟩ := bw2_ BK332.out; clear hcz32_0 hcz32_1 hfz32_0 hfz32_1; obtain ⟨hcz32_0, hcz32_1, hfz32_0, hfz32_1⟩ := bw2_ BK335.out) | ((with_reducible refine gate_store (t := 3) (p := 43) (v := .tmp 42) rfl ?_); refine store3_one (n := w.heap.size) (cs' := #[(.int .i64 t340), (.int .i64 t339), (.slice A338_2 ((rd_T116 l0_1 x6_1).f2).length c338_2)]) (v := (.int .i64 t340)) 0 rfl rfl GW337.out (bk_ BK337.out) ?hr rfl ?_; (case hr => first | (go_simp; done) | (go_simp; rfl)); intro V_ hv hf hB; have n0_ := am_ (Kd.S_step (S_xq HO_336001.out) (fun k_ hk _ => hf k_ hk)); have n1_ := am_ ((hf _ NB332_337.out).trans (bk_ BK332.out)); have n2_ := am_ ((hf _ NB333_337.out).trans (bk_ BK333.out)); have n3_ := am_ ((hf _ NB335_337.out).trans (bk_ BK335.out)); have nv_ := am_ hv; have nb_ := am_ (Below.trans (bl_) hB); clear HO_336001 BK332 BK333 BK335 BK337 HB hv hf hB; have HO_336001 := n0_; have BK332 := n1_; have BK333 := n2_; have BK335 := n3_; have BK337 := nv_; have HB := nb_; clear n0_ n1_ n2_ n3_ nv_ nb_; clear hcz27_0 hcz27_1 hcz27_2 hfz27_0 hfz27_1 hfz27_2; obtain ⟨hcz27_0, hcz27_1, hcz27_2, hfz27_0, hfz27_1, hfz27_2⟩ := bw3_ BK337.out; clear hcz30_0 hcz30_1 hfz30_0 hfz30_1; obtain ⟨hcz30_0, hcz30_1, hfz30_0, hfz30_1⟩ := bw2_ BK332.out; clear hcz32_0 hcz32_1 hfz32_0 hfz32_1; obtain ⟨hcz32_0, hcz32_1, hfz32_0, hfz32_1⟩ := bw2_ BK335.out))

         skip
         (try (rw [drewN_self V_]; generalize hq_ : World.drewN V_ _ = V_; have n0_ : Aside0 (Kd.S k116 116 V_ w.heap.size (fun k_ => k_ ≠ gb337) u336001 x336001_1) := ⟨by rw [← hq_]; exact (by (with_reducible repeat (first | apply Kd.S_alloc | apply Kd.S_drewN | apply Kd.S_drew)); exact HO_336001.out)⟩; have n1_ : Aside0 (V_.heap[gb332]? = some (.cells #[.int .i64 a0_0, .slice (some ad338) l0_1.length c0_1] 103 (0, 0))) := ⟨by rw [← hq_]; exact (bk_ BK332.out)⟩; have n2_ : Aside0 (V_.heap[gb333]? = some (.cells #[.int .i64 0, .slice none 0 0] 103 (0, 0))) := ⟨by rw [← hq_]; exact (bk_ BK333.out)⟩; have n3_ : Aside0 (V_.heap[gb335]? = some (.cells #[.int .i64 t334, u336001] 103 (0, 0))) := ⟨by rw [← hq_]; exact (bk_ BK335.out)⟩; have n4_ : Aside0 (V_.heap[gb337]? = some (.cells #[.int .i64 t340, .int .i64 t339, .slice A338_2 ((rd_T116 l0_1 x6_1).f2).length c338_2] 116 (0, 0))) := ⟨by rw [← hq_]; exact (bk_ BK337.out)⟩; have n5_ : Aside0 (Below w.heap.size w V_) := ⟨by rw [← hq_]; exact (bl_)⟩; clear HO_336001 BK332 BK333 BK335 BK337 HB hq_; have HO_336001 := n0_; have BK332 := n1_; have BK333 := n2_; have BK335 := n3_; have BK337 := n4_; have HB := n5_; clear n0_ n1_ n2_ n3_ n4_ n5_)); have n0_ := am_ (Kd.S_drew HO_336001.out); have n1_ := am_ (blk_drew BK332.out); have n2_ := am_ (blk_drew BK333.out); have n3_ := am_ (blk_drew BK335.out); have n4_ := am_ (blk_drew BK337.out); have n5_ := am_ (below_drew1 HB.out); clear HO_336001; clear BK332; clear BK333; clear BK335; clear BK337; clear HB; have HO_336001 := n0_; have BK332 := n1_; have BK333 := n2_; have BK335 := n3_; have BK337 := n4_; have HB := n5_; clear n0_ n1_ n2_ n3_ n4_ n5_
         refine start_ (n := 10) (S := fun w' => w'.cell? ⟨gb337, 0, none⟩ = some (.int .i64 t340) ∧ w'.cell? ⟨gb337, 1, none⟩ = some (.int .i64 t339) ∧ w'.cell? ⟨gb337, 2, none⟩ = some (.slice A338_2 ((rd_T116 l0_1 x6_1).f2).length c338_2)) (ds := [9]) #[false, false, false, false, false, false, false, false, false, false] (by kernel_rfl) rfl rfl ⟨bc_ BK337.out 0, bc_ BK337.out 1, bc_ BK337.out 2⟩ (fun hHeld => ?_); refine with_tabW r27_Held.tab10 r27_Held.bits10 (fun HT_ HW_ => ?_)
         generalize V_.drew = w34 at HO_336001 BK332 BK333 BK335 BK337 HB hHeld ⊢
         refine pure_ (i := 0) (N := some 44) (v := ?_) (a' := ?_) #[true, false, false, false, false, false, false, false, false, false] rfl rfl (any_of HT_.out (by kernel_rfl)) (fun _ _ _ h => h) (Or.inl ⟨by rfl, ?_⟩) ?_ ?_; rotate_left
         ·intro w'
          go_simp; (with_reducible rfl)
         rotate_left
         ·simp only [Act.put, sa_, sz_, ss_, i64_w, i32_w]
          rfl
         refine pure_ (i := 2) (N := some 46) (v := ?_) (a' := ?_) #[true, false, true, false, false, false, false, false, false, false] rfl rfl (any_of HT_.out (by kernel_rfl)) (fun _ _ _ h => h) (Or.inl ⟨by rfl, ?_⟩) ?_ ?_; rotate_left
         ·intro w'
          go_simp; (with_reducible rfl)
         rotate_left
         ·simp only [Act.put, sa_, sz_, ss_, i64_w, i32_w]
          rfl
         refine take_ (i := 1) (N := some 45) (v := ?_) (a' := ?_) #[true, true, true, false, false, false, false, false, false, false] rfl rfl (take_ofW HT_.out HW_.out (by kernel_rfl)) (fun _ _ _ h => h) (Or.inl ⟨by rfl, ?_⟩) hHeld ?_ ?_; rotate_left
         ·rintro w' ⟨s0, s1, s2⟩
          go_simp; (with_reducible rfl)
         rotate_left
         ·simp only [Act.put, sa_, sz_, ss_, i64_w, i32_w]
          rfl
         refine take_ (i := 3) (N := some 47) (v := ?_) (a' := ?_) #[true, true, true, true, false, false, false, false, false, false] rfl rfl (take_ofW HT_.out HW_.out (by kernel_rfl)) (fun _ _ _ h => h) (Or.inl ⟨by rfl, ?_⟩) hHeld ?_ ?_; rotate_left
         ·rintro w' ⟨s0, s1, s2⟩
          go_simp; (with_reducible rfl)
         rotate_left
         ·simp only [Act.put, sa_, sz_, ss_, i64_w, i32_w]
          rfl
         refine pure_ (i := 4) (N := some 48) (v := ?_) (a' := ?_) #[true, true, true, true, true, false, false, false, false, false] rfl rfl (any_of HT_.out (by kernel_rfl)) (fun _ _ _ h => h) (Or.inl ⟨by rfl, ?_⟩) ?_ ?_; rotate_left
         ·intro w'
          go_simp; (with_reducible rfl)
         rotate_left
         ·simp only [Act.put, sa_, sz_, ss_, i64_w, i32_w]
          rfl
         refine one_ (i := 5) (N := some 49) #[true, true, true, true, true, true, false, false, false, false] rfl rfl (one_of HT_.out (by kernel_rfl)) (by decide) (fun K hK => ?_); refine goes_ Try.func136 (by kernel_rfl) rfl #[.int .i64 (((rd_T116 l0_1 x6_1).f2).length : Int), .int .i64 9] (by rfl) rfl rfl (by (try simp only [List.map_toArray, List.map_cons, List.map_nil]); first | done | rfl | (simp only [List.length_drop, List.length_take]; rfl)) ?_; (with_reducible refine (r27_near.calls (((rd_T116 l0_1 x6_1).f2).length : Int) 9 t341 _ A18.out).mono ?_); rintro e w' ⟨rfl, ⟨nd, rfl⟩⟩; refine ⟨_, rfl, ?_⟩; obtain ⟨i035, hi035, _, hsz35, _⟩ := info_parts info3; obtain ⟨hcut35, hA35, hC35⟩ := print_take_of (P := Try.prog) (Value.int .i64) 0 30 3 .i64 Try.underlying30 hi035 hsz35 A338_2 c338_2 ((rd_T116 l0_1 x6_1).f2) t341 (of_decide_eq_true (as_)) (of_decide_eq_true (as_)) HC338_2.out; have HR342 := am_ (Kd.C_of_reads (h1 := fun _ => rfl) (hA35 _ (Kd.reads_of_C HR338_2.out))); have HC342 := am_ hC35; clear hA35 hC35 hi035 hsz35; refine hK.out _ _ ⟨bc_ BK337.out 0, bc_ BK337.out 1, bc_ BK337.out 2⟩ (fun hHeld => ?_); clear hK K; refine norm_ (a' := ?_) ?_ ?_; rotate_left
         ·show Act.put _ (some 49) _ = _
          simp only [Act.put, sa_, sz_, ss_, i64_w, i32_w]; rfl
         refine pure_ (i := 6) (N := some 50) (v := ?_) (a' := ?_) #[true, true, true, true, true, true, true, false, false, false] rfl rfl (any_of HT_.out (by kernel_rfl)) (fun _ _ _ h => h) (Or.inl ⟨by rfl, ?_⟩) ?_ ?_; rotate_left
         ·intro w'
          go_simp; (with_reducible rfl)
         rotate_left
         ·simp only [Act.put, sa_, sz_, ss_, i64_w, i32_w]
          rfl
         refine one_ (i := 7) (N := some 51) #[true, true, true, true, true, true, true, true, false, false] rfl rfl (one_of HT_.out (by kernel_rfl)) (by decide) (fun K hK => ?_); refine goes_ Try.func137 (by kernel_rfl) rfl #[.slice A338_2 (((rd_T116 l0_1 x6_1).f2).take (t341 : Int).toNat).length c338_2] (by rfl) rfl rfl (by (try simp only [List.map_toArray, List.map_cons, List.map_nil]); first | done | (rw [show (((rd_T116 l0_1 x6_1).f2).take (t341 : Int).toNat).length = t341.toNat from (by rw [List.length_take]; have h_ : (t341 : Int) ≤ (((rd_T116 l0_1 x6_1).f2).length : Int) := of_decide_eq_true (as_); omega)] <;> rfl) | rfl | (simp only [List.length_drop, List.length_take]; rfl)) ?_; (with_reducible refine (r27_Sort.calls k1 _ _ (((rd_T116 l0_1 x6_1).f2).take (t341 : Int).toNat) t343 _ ?side1 ?side2 A21.out).mono ?_); (case side1 => repeat (first | exact (Kd.C_below HR342.out (bl_)) | (with_reducible refine Kd.C_alloc ?_ _) | (with_reducible refine Kd.C_drewN ?_ _) | (with_reducible refine Kd.C_drew ?_))); (case side2 => exact HC342.out); rintro e w36 ⟨v344, rfl, ho0, hb⟩; refine ⟨_, rfl, ?_⟩; have n0_ := am_ (Kd.S_elder' (by (with_reducible repeat (first | apply Kd.S_alloc | apply Kd.S_drewN | apply Kd.S_drew)); exact HO_336001.out) (Kd.R_base ho0) hb); have n1_ := am_ (Kd.R_lower ho0 (below_size (bl_))); have n2_ := am_ (blk_below (bk_ BK332.out) hb); have n3_ := am_ (blk_below (bk_ BK333.out) hb); have n4_ := am_ (blk_below (bk_ BK335.out) hb); have n5_ := am_ (blk_below (bk_ BK337.out) hb); have n6_ := am_ (below_step (bl_) hb); clear HO_336001; clear BK332; clear BK333; clear BK335; clear BK337; clear HB; have HO_336001 := n0_; have HO345 := n1_; have BK332 := n2_; have BK333 := n3_; have BK335 := n4_; have BK337 := n5_; have HB := n6_; clear n0_ n1_ n2_ n3_ n4_ n5_ n6_; (try clear hb); (try clear hb2); (try clear hk); (try clear hi); (try clear ho0); obtain ⟨Ao37, co37, eo37⟩ := Kd.R_slice HO345.out; (first | subst eo37 | (injection eo37 with f1_ f2_ f3_; have f4_ := f1_.symm; have f5_ := f3_.symm; clear f1_ f2_ f3_; subst f4_; subst f5_)); refine hK.out _ _ ⟨bc_ BK337.out 0, bc_ BK337.out 1, bc_ BK337.out 2⟩ (fun hHeld => ?_); clear hK K; refine norm_ (a' := ?_) ?_ ?_; rotate_left
         ·show Act.put _ (some 51) _ = _
          simp only [Act.put, sa_, sz_, ss_, i64_w, i32_w]; rfl
         refine pure_ (i := 8) (N := some 52) (v := ?_) (a' := ?_) #[true, true, true, true, true, true, true, true, true, false] rfl rfl (any_of HT_.out (by kernel_rfl)) (fun _ _ _ h => h) (Or.inl ⟨by rfl, ?_⟩) ?_ ?_; rotate_left
         ·intro w'
          go_simp; (with_reducible rfl)
         rotate_left
         ·simp only [Act.put, sa_, sz_, ss_, i64_w, i32_w]
          rfl
         refine last_ (i := 9) (N := none) #[true, true, true, true, true, true, true, true, true, true] rfl rfl (one_of HT_.out (by kernel_rfl)) (by decide) (fun K hK => ?_); have hs38 : w36.cell? ⟨gb337, 2, none⟩ = some (.slice A338_2 ((rd_T116 l0_1 x6_1).f2).length c338_2) := bc_ BK337.out 2; have hfs38 := blk_frozen BK337.out 2; have hns38_0 := NB332_337.out; have hns38_1 := NB333_337.out; have hns38_2 := NB335_337.out; have hms38_0 := NB337_332.out; have hms38_1 := NB337_333.out; have hms38_2 := NB337_335.out; refine skip_ (w1 := ?_) (by rfl) rfl ?_ ?_; rotate_left
         ·go_simp
          rfl
         refine hK.out _ _ ?_; clear hK K; refine done_ (done_of HT_.out (by kernel_rfl)) ?_; have n0_ : Aside0 (Kd.S k116 116 (w36.setCell ⟨gb337, 2, none⟩ (.slice Ao37 t343.length co37)) w.heap.size (fun k_ => some k_ ≠ (.slice Ao37 t343.length co37 : Value).ownBlock ∧ k_ ≠ gb337) u336001 x336001_1) := ⟨by (with_reducible repeat (first | apply Kd.S_alloc | apply Kd.S_drewN | apply Kd.S_drew)); exact Kd.S_mono (Kd.S_far (p := ⟨gb337, 2, none⟩) (Kd.S_mono HO_336001.out (fun k_ hk => (⟨hk, hk.1⟩ : _ ∧ k_ ≠ gb337))) (fun _ hk => hk.2) (.slice Ao37 t343.length co37)) (fun _ hk => ⟨hk.1.2, hk.1.1⟩)⟩; have n1_ : Aside0 (Kd.R (Kd.int .i64) 3 (w36.setCell ⟨gb337, 2, none⟩ (.slice Ao37 t343.length co37)) w.heap.size (fun _ => True) (.slice Ao37 t343.length co37) t343) := ⟨by (with_reducible repeat (first | apply Kd.R_alloc | apply Kd.R_drewN | apply Kd.R_drew)); exact Kd.R_mono (fr_ gb337 2 (Kd.R_types HO345.out BK337.out (by decide)) (fun _ hk => hk.2) (.slice Ao37 t343.length co37)) (fun _ hk => trivial)⟩; have n2_ : Aside0 ((w36.setCell ⟨gb337, 2, none⟩ (.slice Ao37 t343.length co37)).heap[gb332]? = some (.cells #[.int .i64 a0_0, .slice (some ad338) l0_1.length c0_1] 103 (0, 0))) := ⟨by refine bp_ ?_; refine blk_far ?_ NB332_337.out _; refine bp_ ?_; exact BK332.out⟩; have n3_ : Aside0 ((w36.setCell ⟨gb337, 2, none⟩ (.slice Ao37 t343.length co37)).heap[gb333]? = some (.cells #[.int .i64 0, .slice none 0 0] 103 (0, 0))) := ⟨by refine bp_ ?_; refine blk_far ?_ NB333_337.out _; refine bp_ ?_; exact BK333.out⟩; have n4_ : Aside0 ((w36.setCell ⟨gb337, 2, none⟩ (.slice Ao37 t343.length co37)).heap[gb335]? = some (.cells #[.int .i64 t334, u336001] 103 (0, 0))) := ⟨by refine bp_ ?_; refine blk_far ?_ NB335_337.out _; refine bp_ ?_; exact BK335.out⟩; have n5_ : Aside0 ((w36.setCell ⟨gb337, 2, none⟩ (.slice Ao37 t343.length co37)).heap[gb337]? = some (.cells #[.int .i64 t340, .int .i64 t339, .slice Ao37 t343.length co37] 116 (0, 0))) := ⟨by refine bp_ ?_; refine blk_put (cs := #[.int .i64 t340, .int .i64 t339, .slice A338_2 ((rd_T116 l0_1 x6_1).f2).length c338_2]) ?_ 2 _ rfl; refine bp_ ?_; exact BK337.out⟩; have n6_ : Aside0 (Below w.heap.size w (w36.setCell ⟨gb337, 2, none⟩ (.slice Ao37 t343.length co37))) := ⟨bl_⟩; (try clear HO_336001); (try clear HO345); (try clear BK332); (try clear BK333); (try clear BK335); (try clear BK337); (try clear HB)
         generalize (w36.setCell ⟨gb337, 2, none⟩ (.slice Ao37 t343.length co37)) = w39 at n0_ n1_ n2_ n3_ n4_ n5_ n6_ ⊢
         have HO_336001 := n0_; have HO345 := n1_; have BK332 := n2_; have BK333 := n3_; have BK335 := n4_; have BK337 := n5_; have HB := n6_; clear n0_ n1_ n2_ n3_ n4_ n5_ n6_; obtain ⟨hcz40_0, hcz40_1, hfz40_0, hfz40_1⟩ := bw2_ BK335.out; obtain ⟨hcz41_0, hcz41_1, hcz41_2, hfz41_0, hfz41_1, hfz41_2⟩ := bw3_ BK337.out
         try go_wp2_with (first | ((with_reducible refine gate_builtin (b := .append) (xs := #[.tmp 54, .tmp 56]) rfl ?_); at_builtin; refine Kd.S_append k116 (w0 := w) w.heap.size rfl (.tmp 54) (.tmp 56) 101 116 (.agg #[(.int .i64 0), (.int .i64 0), (.slice none 0 0)]) 40 rfl Try.underlying101 info116 rfl (by decide) (by omega) u336001 x336001_1 (⟨t340, t339, t343⟩ : S116) [.int .i64 t340, .int .i64 t339, .slice Ao37 t343.length co37] (fun k_ => k_ ≠ gb337) (fun k_ => some k_ = (.slice Ao37 t343.length co37 : Value).ownBlock) rfl rfl ?aP (fun k_ hk_ => ((Kd.R_mono (ok' := fun k_ => ((fun k_ => k_ ≠ gb337)) k_ ∧ some k_ ≠ (u336001 : Value).ownBlock) (Kd.R_types (Kd.R_apart' (HO345.out) (Kd.S_typed HO_336001.out) (by decide)) BK337.out (by decide)) (fun k_ hk => ⟨hk.2, hk.1.2⟩))).1 k_ hk_.symm) ?aF ?aO ?aB ?aS ?aL ?_; (case aP => exact k116_mkM _ _ _ (⟨t340, t339, t343⟩ : S116) (Kd.R_mono (Kd.R_tight rfl (Kd.R_mono (ok' := fun k_ => ((fun k_ => k_ ≠ gb337)) k_ ∧ some k_ ≠ (u336001 : Value).ownBlock) (Kd.R_types (Kd.R_apart' (HO345.out) (Kd.S_typed HO_336001.out) (by decide)) BK337.out (by decide)) (fun k_ hk => ⟨hk.2, hk.1.2⟩))) (fun _ h_ => h_))); (case aB => exact (bl_)); (case aF => exact (fun k_ hk => Kd.freshB (g := gb337) (o := .cells #[.int .i64 t340, .int .i64 t339, .slice Ao37 t343.length co37] 116 (0, 0)) (bk_ BK337.out) k_ hk)); (case aO => exact (by (with_reducible repeat (first | apply Kd.S_alloc | apply Kd.S_drewN | apply Kd.S_drew)); exact Kd.S_mono HO_336001.out (fun k_ hk => ⟨hk.2, fun e_ => hk.1 e_⟩))); (case aS => exact (below_size (bl_))); (case aL => have := LMc22.out; omega); intro v347 w42 ho hb hg hat; rw [← Ny346.out] at ho; replace BK332 := am_ (blk_grown (g := gb332) (o := .cells #[.int .i64 a0_0, .slice (some ad338) l0_1.length c0_1] 103 (0, 0)) (bk_ BK332.out) hg (Kd.S_ne HO_336001.out BK332.out (by decide))); replace BK333 := am_ (blk_grown (g := gb333) (o := .cells #[.int .i64 0, .slice none 0 0] 103 (0, 0)) (bk_ BK333.out) hg (Kd.S_ne HO_336001.out BK333.out (by decide))); replace BK335 := am_ (blk_grown (g := gb335) (o := .cells #[.int .i64 t334, u336001] 103 (0, 0)) (bk_ BK335.out) hg (Kd.S_ne HO_336001.out BK335.out (by decide))); replace BK337 := am_ (blk_grown (g := gb337) (o := .cells #[.int .i64 t340, .int .i64 t339, .slice Ao37 t343.length co37] 116 (0, 0)) (bk_ BK337.out) hg (Kd.S_away HO_336001.out (fun _ hk => hk.2))); have HO348 := am_ (ho); replace HB := am_ (hb); clear HO_336001; clear HO345; clear ho hb hg hat; obtain ⟨Ao43, co43, eo43⟩ := Kd.S_slice HO348.out; subst eo43; obtain ⟨hcz44_0, hcz44_1, hfz44_0, hfz44_1⟩ := bw2_ BK335.out))
         go_roundg k1
         case measure => have := HK1.out; omega
         case rel => exact ⟨(wrap64 (x6_1 + 1)), (y346), (.slice Ao43 y346.length co43), (rs_), H', ⟨by have := HK1.out; omega⟩, ⟨by (with_reducible repeat (first | apply Kd.S_alloc | apply Kd.S_drewN | apply Kd.S_drew)); exact Kd.S_mono (Kd.S_far (p := ⟨gb335, 1, none⟩) (Kd.S_types HO348.out BK335.out (by decide)) (fun _ hk => hk.2) (.slice Ao43 y346.length co43)) (fun _ hk => trivial)⟩, ⟨by refine bp_ ?_; refine blk_far ?_ NB332_335.out _; refine bp_ ?_; exact BK332.out⟩, ⟨by refine bp_ ?_; refine blk_far ?_ NB333_335.out _; refine bp_ ?_; exact BK333.out⟩, ⟨by refine bp_ ?_; refine blk_put (cs := #[.int .i64 t334, u336001]) ?_ 1 _ rfl; refine bp_ ?_; exact BK335.out⟩, ⟨bl_⟩⟩
        ·rw [if_neg c22] at H
         exact absurd H (by simp)
       ·rw [if_neg c20] at H
        exact absurd H (by simp)
      ·rw [if_neg c19] at H
       exact absurd H (by simp)
     ·rw [if_neg c15] at H
      exact absurd H (by simp)
    ·rw [if_neg c14] at H
     have c14b0 : decide (x6_1 < (l0_1.length : Int)) = false := decide_eq_false c14; clear c14; replace H := Option.bind_eq_some_iff.mp H; obtain ⟨t349, A450, H⟩ := H; replace H : ((r27_near.f 0 (wrap64 (t334 - t349))).bind fun t350 => ((r27_near.f (([] : List Int).length : Int) 9).bind fun t351 => (if t351 = 0 then ((r27_Sort.f k1 ([] : List Int)).bind fun t352 => (if x336001_1.length < 3518437208883 then (r27_Held.l0 k1 a1 (wrap64 (x6_1 + 1)) a0_0 l0_1 t334 (x336001_1 ++ [(⟨t350, t349, t352⟩ : S116)])) else (none))) else (none)))) = some (r1, r2) := H; have A45 := am_ A450; clear A450; replace H := Option.bind_eq_some_iff.mp H; obtain ⟨t350, A460, H⟩ := H; replace H : ((r27_near.f (([] : List Int).length : Int) 9).bind fun t351 => (if t351 = 0 then ((r27_Sort.f k1 ([] : List Int)).bind fun t352 => (if x336001_1.length < 3518437208883 then (r27_Held.l0 k1 a1 (wrap64 (x6_1 + 1)) a0_0 l0_1 t334 (x336001_1 ++ [(⟨t350, t349, t352⟩ : S116)])) else (none))) else (none))) = some (r1, r2) := H; have A46 := am_ A460; clear A460; replace H := Option.bind_eq_some_iff.mp H; obtain ⟨t351, A470, H⟩ := H; replace H : (if t351 = 0 then ((r27_Sort.f k1 ([] : List Int)).bind fun t352 => (if x336001_1.length < 3518437208883 then (r27_Held.l0 k1 a1 (wrap64 (x6_1 + 1)) a0_0 l0_1 t334 (x336001_1 ++ [(⟨t350, t349, t352⟩ : S116)])) else (none))) else (none)) = some (r1, r2) := H; have A47 := am_ A470; clear A470
     by_cases c48 : t351 = 0
     ·rw [if_pos c48] at H
      subst c48; replace H := Option.bind_eq_some_iff.mp H; obtain ⟨t352, A490, H⟩ := H; replace H : (if x336001_1.length < 3518437208883 then (r27_Held.l0 k1 a1 (wrap64 (x6_1 + 1)) a0_0 l0_1 t334 (x336001_1 ++ [(⟨t350, t349, t352⟩ : S116)])) else (none)) = some (r1, r2) := H; have A49 := am_ A490; clear A490
      by_cases c50 : x336001_1.length < 3518437208883
      ·rw [if_pos c50] at H
       have LMc50 := am_ c50; clear c50
       obtain ⟨y355, hy355⟩ : ∃ y_ : List (S116), y_ = (x336001_1 ++ [(⟨t350, t349, t352⟩ : S116)]) := ⟨_, rfl⟩
       replace H : (r27_Held.l0 k1 a1 (wrap64 (x6_1 + 1)) a0_0 l0_1 t334 y355) = some (r1, r2) := by first | (rw [hy355]; with_reducible exact H) | (have H2_ := (Option.bind_some _ _).symm.trans H; rw [hy355]; with_reducible exact H2_) | (have H2_ := (Option.bind_some _ _).symm.trans H; with_reducible exact H2_) | with_reducible exact H | (rw [hy355]; exact H) | exact H
       have Ny355 := am_ hy355; clear hy355; have H' := am_ H; clear H
       try go_wp2_with (first | ((with_reducible refine gate_callee (f := 136) rfl ?_); refine goesL_ (some 14) rfl rfl Try.func136 (by kernel_rfl) rfl #[.int .i64 a1, .int .i64 16] rfl (by (try simp only [List.map_toArray, List.map_cons, List.map_nil]); first | done | rfl | (simp only [List.length_drop, List.length_take]; rfl)) ?_; (with_reducible refine (r27_near.calls a1 16 t336 _ A12.out).mono ?_); rintro e w' ⟨rfl, ⟨nd, rfl⟩⟩; refine ⟨_, rfl, ?_⟩; (try (rw [drewN_self wr]; generalize hq_ : World.drewN wr _ = wr; have n0_ : Aside0 (Kd.S k116 116 wr w.heap.size (fun _ => True) u336001 x336001_1) := ⟨by rw [← hq_]; exact (by (with_reducible repeat (first | apply Kd.S_alloc | apply Kd.S_drewN | apply Kd.S_drew)); exact HO_336001.out)⟩; have n1_ : Aside0 (wr.heap[gb332]? = some (.cells #[.int .i64 a0_0, .slice A0_1 l0_1.length c0_1] 103 (0, 0))) := ⟨by rw [← hq_]; exact (bk_ BK332.out)⟩; have n2_ : Aside0 (wr.heap[gb333]? = some (.cells #[.int .i64 0, .slice none 0 0] 103 (0, 0))) := ⟨by rw [← hq_]; exact (bk_ BK333.out)⟩; have n3_ : Aside0 (wr.heap[gb335]? = some (.cells #[.int .i64 t334, u336001] 103 (0, 0))) := ⟨by rw [← hq_]; exact (bk_ BK335.out)⟩; have n4_ : Aside0 (Below w.heap.size w wr) := ⟨by rw [← hq_]; exact (bl_)⟩; clear HO_336001 BK332 BK333 BK335 HB hq_; have HO_336001 := n0_; have BK332 := n1_; have BK333 := n2_; have BK335 := n3_; have HB := n4_; clear n0_ n1_ n2_ n3_ n4_))) | ((with_reducible refine gate_dst (N := 7) rfl ?_); refine box_event ?hg (N := 7) ?hd (cs := #[.int .i64 0, .int .i64 0, .slice none 0 0]) (t := 116) ?hr ?_; (case hd => rfl); (case hg => rfl); (case hr => first | (go_simp; done) | (go_simp; rfl)); intro gb337 hg w51 hbox hb; have n0_ := am_ (Kd.S_below (Kd.S_elderB (by (with_reducible repeat (first | apply Kd.S_alloc | apply Kd.S_drewN | apply Kd.S_drew)); exact HO_336001.out) gb337 (Nat.le_of_eq hg.symm)) hb); have n1_ := am_ (blk_below (bk_ BK332.out) hb); have n2_ := am_ (blk_below (bk_ BK333.out) hb); have n3_ := am_ (blk_below (bk_ BK335.out) hb); have n4_ := am_ (below_step (bl_) hb); have n5_ := am_ (hbox); have n6_ := am_ ((by rw [hg]; exact (below_size (bl_)) : w.heap.size ≤ gb337)); have n7_ := am_ ((by rw [hg]; exact (below_size (bl_)) : w.heap.size ≤ gb337)); have n8_ := am_ ((by rw [hg]; exact Nat.ne_of_lt (blk_lt (g := gb332) (o := .cells #[.int .i64 a0_0, .slice A0_1 l0_1.length c0_1] 103 (0, 0)) (bk_ BK332.out)) : gb332 ≠ gb337)); have n9_ := am_ ((by rw [hg]; exact Nat.ne_of_gt (blk_lt (g := gb332) (o := .cells #[.int .i64 a0_0, .slice A0_1 l0_1.length c0_1] 103 (0, 0)) (bk_ BK332.out)) : gb337 ≠ gb332)); have n10_ := am_ ((by rw [hg]; exact Nat.ne_of_lt (blk_lt (g := gb333) (o := .cells #[.int .i64 0, .slice none 0 0] 103 (0, 0)) (bk_ BK333.out)) : gb333 ≠ gb337)); have n11_ := am_ ((by rw [hg]; exact Nat.ne_of_gt (blk_lt (g := gb333) (o := .cells #[.int .i64 0, .slice none 0 0] 103 (0, 0)) (bk_ BK333.out)) : gb337 ≠ gb333)); have n12_ := am_ ((by rw [hg]; exact Nat.ne_of_lt (blk_lt (g := gb335) (o := .cells #[.int .i64 t334, u336001] 103 (0, 0)) (bk_ BK335.out)) : gb335 ≠ gb337)); have n13_ := am_ ((by rw [hg]; exact Nat.ne_of_gt (blk_lt (g := gb335) (o := .cells #[.int .i64 t334, u336001] 103 (0, 0)) (bk_ BK335.out)) : gb337 ≠ gb335)); clear HO_336001; clear BK332; clear BK333; clear BK335; clear HB; have HO_336001 := n0_; have BK332 := n1_; have BK333 := n2_; have BK335 := n3_; have HB := n4_; have BK337 := n5_; have GW337 := n6_; have GE337 := n7_; have NB332_337 := n8_; have NB337_332 := n9_; have NB333_337 := n10_; have NB337_333 := n11_; have NB335_337 := n12_; have NB337_335 := n13_; clear n0_ n1_ n2_ n3_ n4_ n5_ n6_ n7_ n8_ n9_ n10_ n11_ n12_ n13_; clear hb hbox hg; have hnb52 := NB337_332.out; have hnc52 := NB332_337.out; have hnb53 := NB337_333.out; have hnc53 := NB333_337.out; have hnb54 := NB337_335.out; have hnc54 := NB335_337.out; obtain ⟨hcz55_0, hcz55_1, hcz55_2, hfz55_0, hfz55_1, hfz55_2⟩ := bw3_ BK337.out; have hnb56 := NB332_333.out; have hnc56 := NB333_332.out; have hnb57 := NB332_335.out; have hnc57 := NB335_332.out; obtain ⟨hcz58_0, hcz58_1, hfz58_0, hfz58_1⟩ := bw2_ BK332.out; have hnb59 := NB335_333.out; have hnc59 := NB333_335.out; obtain ⟨hcz60_0, hcz60_1, hfz60_0, hfz60_1⟩ := bw2_ BK335.out) | ((with_reducible refine gate_callee (f := 136) rfl ?_); refine goesL_ (some 33) rfl rfl Try.func136 (by kernel_rfl) rfl #[.int .i64 0, .int .i64 t334] rfl (by (try simp only [List.map_toArray, List.map_cons, List.map_nil]); first | done | rfl | (simp only [List.length_drop, List.length_take]; rfl)) ?_; (with_reducible refine (r27_near.calls 0 t334 t349 _ A45.out).mono ?_); rintro e w' ⟨rfl, ⟨nd, rfl⟩⟩; refine ⟨_, rfl, ?_⟩) | ((with_reducible refine gate_callee (f := 136) rfl ?_); refine goesL_ (some 42) rfl rfl Try.func136 (by kernel_rfl) rfl #[.int .i64 0, .int .i64 (wrap64 (t334 - t349))] rfl (by (try simp only [List.map_toArray, List.map_cons, List.map_nil]); first | done | rfl | (simp only [List.length_drop, List.length_take]; rfl)) ?_; (with_reducible refine (r27_near.calls 0 (wrap64 (t334 - t349)) t350 _ A46.out).mono ?_); rintro e w' ⟨rfl, ⟨nd, rfl⟩⟩; refine ⟨_, rfl, ?_⟩) | ((with_reducible refine gate_store (t := 116) (p := 7) (v := .tmp 18) rfl ?_); refine store3_all (n := w.heap.size) (v0 := (.int .i64 0)) (v1 := (.int .i64 0)) (v2 := (.slice none 0 0)) rfl rfl GW337.out (bk_ BK337.out) ?hr ?_; (case hr => first | (go_simp; done) | (go_simp; rfl)); intro V_ hv hf hB; have n0_ := am_ (Kd.S_mono (Kd.S_step (S_xq HO_336001.out) (fun k_ hk _ => hf k_ hk.2)) (fun k_ hk => (hk.2 : k_ ≠ gb337))); have n1_ := am_ ((hf _ NB332_337.out).trans (bk_ BK332.out)); have n2_ := am_ ((hf _ NB333_337.out).trans (bk_ BK333.out)); have n3_ := am_ ((hf _ NB335_337.out).trans (bk_ BK335.out)); have nv_ := am_ hv; have nb_ := am_ (Below.trans (bl_) hB); clear HO_336001 BK332 BK333 BK335 BK337 HB hv hf hB; have HO_336001 := n0_; have BK332 := n1_; have BK333 := n2_; have BK335 := n3_; have BK337 := nv_; have HB := nb_; clear n0_ n1_ n2_ n3_ nv_ nb_; clear hcz55_0 hcz55_1 hcz55_2 hfz55_0 hfz55_1 hfz55_2; obtain ⟨hcz55_0, hcz55_1, hcz55_2, hfz55_0, hfz55_1, hfz55_2⟩ := bw3_ BK337.out; clear hcz58_0 hcz58_1 hfz58_0 hfz58_1; obtain ⟨hcz58_0, hcz58_1, hfz58_0, hfz58_1⟩ := bw2_ BK332.out; clear hcz60_0 hcz60_1 hfz60_0 hfz60_1; obtain ⟨hcz60_0, hcz60_1, hfz60_0, hfz60_1⟩ := bw2_ BK335.out) | ((with_reducible refine gate_store (t := 3) (p := 34) (v := .tmp 33) rfl ?_); refine store3_one (n := w.heap.size) (cs' := #[(.int .i64 0), (.int .i64 t349), (.slice none 0 0)]) (v := (.int .i64 t349)) 1 rfl rfl GW337.out (bk_ BK337.out) ?hr rfl ?_; (case hr => first | (go_simp; done) | (go_simp; rfl)); intro V_ hv hf hB; have n0_ := am_ (Kd.S_step (S_xq HO_336001.out) (fun k_ hk _ => hf k_ hk)); have n1_ := am_ ((hf _ NB332_337.out).trans (bk_ BK332.out)); have n2_ := am_ ((hf _ NB333_337.out).trans (bk_ BK333.out)); have n3_ := am_ ((hf _ NB335_337.out).trans (bk_ BK335.out)); have nv_ := am_ hv; have nb_ := am_ (Below.trans (bl_) hB); clear HO_336001 BK332 BK333 BK335 BK337 HB hv hf hB; have HO_336001 := n0_; have BK332 := n1_; have BK333 := n2_; have BK335 := n3_; have BK337 := nv_; have HB := nb_; clear n0_ n1_ n2_ n3_ nv_ nb_; clear hcz55_0 hcz55_1 hcz55_2 hfz55_0 hfz55_1 hfz55_2; obtain ⟨hcz55_0, hcz55_1, hcz55_2, hfz55_0, hfz55_1, hfz55_2⟩ := bw3_ BK337.out; clear hcz58_0 hcz58_1 hfz58_0 hfz58_1; obtain ⟨hcz58_0, hcz58_1, hfz58_0, hfz58_1⟩ := bw2_ BK332.out; clear hcz60_0 hcz60_1 hfz60_0 hfz60_1; obtain ⟨hcz60_0, hcz60_1, hfz60_0, hfz60_1⟩ := bw2_ BK335.out) | ((with_reducible refine gate_store (t := 3) (p := 43) (v := .tmp 42) rfl ?_); refine store3_one (n := w.heap.size) (cs' := #[(.int .i64 t350), (.int .i64 t349), (.slice none 0 0)]) (v := (.int .i64 t350)) 0 rfl rfl GW337.out (bk_ BK337.out) ?hr rfl ?_; (case hr => first | (go_simp; done) | (go_simp; rfl)); intro V_ hv hf hB; have n0_ := am_ (Kd.S_step (S_xq HO_336001.out) (fun k_ hk _ => hf k_ hk)); have n1_ := am_ ((hf _ NB332_337.out).trans (bk_ BK332.out)); have n2_ := am_ ((hf _ NB333_337.out).trans (bk_ BK333.out)); have n3_ := am_ ((hf _ NB335_337.out).trans (bk_ BK335.out)); have nv_ := am_ hv; have nb_ := am_ (Below.trans (bl_) hB); clear HO_336001 BK332 BK333 BK335 BK337 HB hv hf hB; have HO_336001 := n0_; have BK332 := n1_; have BK333 := n2_; have BK335 := n3_; have BK337 := nv_; have HB := nb_; clear n0_ n1_ n2_ n3_ nv_ nb_; clear hcz55_0 hcz55_1 hcz55_2 hfz55_0 hfz55_1 hfz55_2; obtain ⟨hcz55_0, hcz55_1, hcz55_2, hfz55_0, hfz55_1, hfz55_2⟩ := bw3_ BK337.out; clear hcz58_0 hcz58_1 hfz58_0 hfz58_1; obtain ⟨hcz58_0, hcz58_1, hfz58_0, hfz58_1⟩ := bw2_ BK332.out; clear hcz60_0 hcz60_1 hfz60_0 hfz60_1; obtain ⟨hcz60_0, hcz60_1, hfz60_0, hfz60_1⟩ := bw2_ BK335.out))

       skip
       (try (rw [drewN_self V_]; generalize hq_ : World.drewN V_ _ = V_; have n0_ : Aside0 (Kd.S k116 116 V_ w.heap.size (fun k_ => k_ ≠ gb337) u336001 x336001_1) := ⟨by rw [← hq_]; exact (by (with_reducible repeat (first | apply Kd.S_alloc | apply Kd.S_drewN | apply Kd.S_drew)); exact HO_336001.out)⟩; have n1_ : Aside0 (V_.heap[gb332]? = some (.cells #[.int .i64 a0_0, .slice A0_1 l0_1.length c0_1] 103 (0, 0))) := ⟨by rw [← hq_]; exact (bk_ BK332.out)⟩; have n2_ : Aside0 (V_.heap[gb333]? = some (.cells #[.int .i64 0, .slice none 0 0] 103 (0, 0))) := ⟨by rw [← hq_]; exact (bk_ BK333.out)⟩; have n3_ : Aside0 (V_.heap[gb335]? = some (.cells #[.int .i64 t334, u336001] 103 (0, 0))) := ⟨by rw [← hq_]; exact (bk_ BK335.out)⟩; have n4_ : Aside0 (V_.heap[gb337]? = some (.cells #[.int .i64 t350, .int .i64 t349, .slice none 0 0] 116 (0, 0))) := ⟨by rw [← hq_]; exact (bk_ BK337.out)⟩; have n5_ : Aside0 (Below w.heap.size w V_) := ⟨by rw [← hq_]; exact (bl_)⟩; clear HO_336001 BK332 BK333 BK335 BK337 HB hq_; have HO_336001 := n0_; have BK332 := n1_; have BK333 := n2_; have BK335 := n3_; have BK337 := n4_; have HB := n5_; clear n0_ n1_ n2_ n3_ n4_ n5_)); have n0_ := am_ (Kd.S_drew HO_336001.out); have n1_ := am_ (blk_drew BK332.out); have n2_ := am_ (blk_drew BK333.out); have n3_ := am_ (blk_drew BK335.out); have n4_ := am_ (blk_drew BK337.out); have n5_ := am_ (below_drew1 HB.out); clear HO_336001; clear BK332; clear BK333; clear BK335; clear BK337; clear HB; have HO_336001 := n0_; have BK332 := n1_; have BK333 := n2_; have BK335 := n3_; have BK337 := n4_; have HB := n5_; clear n0_ n1_ n2_ n3_ n4_ n5_
       refine start_ (n := 10) (S := fun w' => w'.cell? ⟨gb337, 0, none⟩ = some (.int .i64 t350) ∧ w'.cell? ⟨gb337, 1, none⟩ = some (.int .i64 t349) ∧ w'.cell? ⟨gb337, 2, none⟩ = some (.slice none 0 0)) (ds := [9]) #[false, false, false, false, false, false, false, false, false, false] (by kernel_rfl) rfl rfl ⟨bc_ BK337.out 0, bc_ BK337.out 1, bc_ BK337.out 2⟩ (fun hHeld => ?_); refine with_tabW r27_Held.tab10 r27_Held.bits10 (fun HT_ HW_ => ?_)
       generalize V_.drew = w62 at HO_336001 BK332 BK333 BK335 BK337 HB hHeld ⊢
       refine pure_ (i := 0) (N := some 44) (v := ?_) (a' := ?_) #[true, false, false, false, false, false, false, false, false, false] rfl rfl (any_of HT_.out (by kernel_rfl)) (fun _ _ _ h => h) (Or.inl ⟨by rfl, ?_⟩) ?_ ?_; rotate_left
       ·intro w'
        go_simp; (with_reducible rfl)
       rotate_left
       ·simp only [Act.put, sa_, sz_, ss_, i64_w, i32_w]
        rfl
       refine pure_ (i := 2) (N := some 46) (v := ?_) (a' := ?_) #[true, false, true, false, false, false, false, false, false, false] rfl rfl (any_of HT_.out (by kernel_rfl)) (fun _ _ _ h => h) (Or.inl ⟨by rfl, ?_⟩) ?_ ?_; rotate_left
       ·intro w'
        go_simp; (with_reducible rfl)
       rotate_left
       ·simp only [Act.put, sa_, sz_, ss_, i64_w, i32_w]
        rfl
       refine take_ (i := 1) (N := some 45) (v := ?_) (a' := ?_) #[true, true, true, false, false, false, false, false, false, false] rfl rfl (take_ofW HT_.out HW_.out (by kernel_rfl)) (fun _ _ _ h => h) (Or.inl ⟨by rfl, ?_⟩) hHeld ?_ ?_; rotate_left
       ·rintro w' ⟨s0, s1, s2⟩
        go_simp; (with_reducible rfl)
       rotate_left
       ·simp only [Act.put, sa_, sz_, ss_, i64_w, i32_w]
        rfl
       refine take_ (i := 3) (N := some 47) (v := ?_) (a' := ?_) #[true, true, true, true, false, false, false, false, false, false] rfl rfl (take_ofW HT_.out HW_.out (by kernel_rfl)) (fun _ _ _ h => h) (Or.inl ⟨by rfl, ?_⟩) hHeld ?_ ?_; rotate_left
       ·rintro w' ⟨s0, s1, s2⟩
        go_simp; (with_reducible rfl)
       rotate_left
       ·simp only [Act.put, sa_, sz_, ss_, i64_w, i32_w]
        rfl
       refine pure_ (i := 4) (N := some 48) (v := ?_) (a' := ?_) #[true, true, true, true, true, false, false, false, false, false] rfl rfl (any_of HT_.out (by kernel_rfl)) (fun _ _ _ h => h) (Or.inl ⟨by rfl, ?_⟩) ?_ ?_; rotate_left
       ·intro w'
        go_simp; (with_reducible rfl)
       rotate_left
       ·simp only [Act.put, sa_, sz_, ss_, i64_w, i32_w]
        rfl
       refine one_ (i := 5) (N := some 49) #[true, true, true, true, true, true, false, false, false, false] rfl rfl (one_of HT_.out (by kernel_rfl)) (by decide) (fun K hK => ?_); refine goes_ Try.func136 (by kernel_rfl) rfl #[.int .i64 (([] : List Int).length : Int), .int .i64 9] (by rfl) rfl rfl (by (try simp only [List.map_toArray, List.map_cons, List.map_nil]); first | done | rfl | (simp only [List.length_drop, List.length_take]; rfl)) ?_; (with_reducible refine (r27_near.calls (([] : List Int).length : Int) 9 0 _ A47.out).mono ?_); rintro e w' ⟨rfl, ⟨nd, rfl⟩⟩; refine ⟨_, rfl, ?_⟩; refine hK.out _ _ ⟨bc_ BK337.out 0, bc_ BK337.out 1, bc_ BK337.out 2⟩ (fun hHeld => ?_); clear hK K; refine norm_ (a' := ?_) ?_ ?_; rotate_left
       ·show Act.put _ (some 49) _ = _
        simp only [Act.put, sa_, sz_, ss_, i64_w, i32_w]; rfl
       refine pure_ (i := 6) (N := some 50) (v := ?_) (a' := ?_) #[true, true, true, true, true, true, true, false, false, false] rfl rfl (any_of HT_.out (by kernel_rfl)) (fun _ _ _ h => h) (Or.inl ⟨by rfl, ?_⟩) ?_ ?_; rotate_left
       ·intro w'
        go_simp; (with_reducible rfl)
       rotate_left
       ·simp only [Act.put, sa_, sz_, ss_, i64_w, i32_w]
        rfl
       refine one_ (i := 7) (N := some 51) #[true, true, true, true, true, true, true, true, false, false] rfl rfl (one_of HT_.out (by kernel_rfl)) (by decide) (fun K hK => ?_); refine goes_ Try.func137 (by kernel_rfl) rfl #[.slice none 0 0] (by rfl) rfl rfl (by (try simp only [List.map_toArray, List.map_cons, List.map_nil]); first | done | rfl | (simp only [List.length_drop, List.length_take]; rfl)) ?_; refine (r27_Sort.calls k1 _ _ ([] : List Int) t352 _ ?side1 ?side2 A49.out).mono ?_; (case side1 => exact Kd.C_nil _ _); (case side2 => exact Nat.le_refl _); rintro e w63 ⟨v353, rfl, ho0, hb⟩; refine ⟨_, rfl, ?_⟩; have n0_ := am_ (Kd.S_elder' (by (with_reducible repeat (first | apply Kd.S_alloc | apply Kd.S_drewN | apply Kd.S_drew)); exact HO_336001.out) (Kd.R_base ho0) hb); have n1_ := am_ (Kd.R_lower ho0 (below_size (bl_))); have n2_ := am_ (blk_below (bk_ BK332.out) hb); have n3_ := am_ (blk_below (bk_ BK333.out) hb); have n4_ := am_ (blk_below (bk_ BK335.out) hb); have n5_ := am_ (blk_below (bk_ BK337.out) hb); have n6_ := am_ (below_step (bl_) hb); clear HO_336001; clear BK332; clear BK333; clear BK335; clear BK337; clear HB; have HO_336001 := n0_; have HO354 := n1_; have BK332 := n2_; have BK333 := n3_; have BK335 := n4_; have BK337 := n5_; have HB := n6_; clear n0_ n1_ n2_ n3_ n4_ n5_ n6_; (try clear hb); (try clear hb2); (try clear hk); (try clear hi); (try clear ho0); obtain ⟨Ao64, co64, eo64⟩ := Kd.R_slice HO354.out; (first | subst eo64 | (injection eo64 with f1_ f2_ f3_; have f4_ := f1_.symm; have f5_ := f3_.symm; clear f1_ f2_ f3_; subst f4_; subst f5_)); refine hK.out _ _ ⟨bc_ BK337.out 0, bc_ BK337.out 1, bc_ BK337.out 2⟩ (fun hHeld => ?_); clear hK K; refine norm_ (a' := ?_) ?_ ?_; rotate_left
       ·show Act.put _ (some 51) _ = _
        simp only [Act.put, sa_, sz_, ss_, i64_w, i32_w]; rfl
       refine pure_ (i := 8) (N := some 52) (v := ?_) (a' := ?_) #[true, true, true, true, true, true, true, true, true, false] rfl rfl (any_of HT_.out (by kernel_rfl)) (fun _ _ _ h => h) (Or.inl ⟨by rfl, ?_⟩) ?_ ?_; rotate_left
       ·intro w'
        go_simp; (with_reducible rfl)
       rotate_left
       ·simp only [Act.put, sa_, sz_, ss_, i64_w, i32_w]
        rfl
       refine last_ (i := 9) (N := none) #[true, true, true, true, true, true, true, true, true, true] rfl rfl (one_of HT_.out (by kernel_rfl)) (by decide) (fun K hK => ?_); have hs65 : w63.cell? ⟨gb337, 2, none⟩ = some (.slice none 0 0) := bc_ BK337.out 2; have hfs65 := blk_frozen BK337.out 2; have hns65_0 := NB332_337.out; have hns65_1 := NB333_337.out; have hns65_2 := NB335_337.out; have hms65_0 := NB337_332.out; have hms65_1 := NB337_333.out; have hms65_2 := NB337_335.out; refine skip_ (w1 := ?_) (by rfl) rfl ?_ ?_; rotate_left
       ·go_simp
        rfl
       refine hK.out _ _ ?_; clear hK K; refine done_ (done_of HT_.out (by kernel_rfl)) ?_; have n0_ : Aside0 (Kd.S k116 116 (w63.setCell ⟨gb337, 2, none⟩ (.slice Ao64 t352.length co64)) w.heap.size (fun k_ => some k_ ≠ (.slice Ao64 t352.length co64 : Value).ownBlock ∧ k_ ≠ gb337) u336001 x336001_1) := ⟨by (with_reducible repeat (first | apply Kd.S_alloc | apply Kd.S_drewN | apply Kd.S_drew)); exact Kd.S_mono (Kd.S_far (p := ⟨gb337, 2, none⟩) (Kd.S_mono HO_336001.out (fun k_ hk => (⟨hk, hk.1⟩ : _ ∧ k_ ≠ gb337))) (fun _ hk => hk.2) (.slice Ao64 t352.length co64)) (fun _ hk => ⟨hk.1.2, hk.1.1⟩)⟩; have n1_ : Aside0 (Kd.R (Kd.int .i64) 3 (w63.setCell ⟨gb337, 2, none⟩ (.slice Ao64 t352.length co64)) w.heap.size (fun _ => True) (.slice Ao64 t352.length co64) t352) := ⟨by (with_reducible repeat (first | apply Kd.R_alloc | apply Kd.R_drewN | apply Kd.R_drew)); exact Kd.R_mono (fr_ gb337 2 (Kd.R_types HO354.out BK337.out (by decide)) (fun _ hk => hk.2) (.slice Ao64 t352.length co64)) (fun _ hk => trivial)⟩; have n2_ : Aside0 ((w63.setCell ⟨gb337, 2, none⟩ (.slice Ao64 t352.length co64)).heap[gb332]? = some (.cells #[.int .i64 a0_0, .slice A0_1 l0_1.length c0_1] 103 (0, 0))) := ⟨by refine bp_ ?_; refine blk_far ?_ NB332_337.out _; refine bp_ ?_; exact BK332.out⟩; have n3_ : Aside0 ((w63.setCell ⟨gb337, 2, none⟩ (.slice Ao64 t352.length co64)).heap[gb333]? = some (.cells #[.int .i64 0, .slice none 0 0] 103 (0, 0))) := ⟨by refine bp_ ?_; refine blk_far ?_ NB333_337.out _; refine bp_ ?_; exact BK333.out⟩; have n4_ : Aside0 ((w63.setCell ⟨gb337, 2, none⟩ (.slice Ao64 t352.length co64)).heap[gb335]? = some (.cells #[.int .i64 t334, u336001] 103 (0, 0))) := ⟨by refine bp_ ?_; refine blk_far ?_ NB335_337.out _; refine bp_ ?_; exact BK335.out⟩; have n5_ : Aside0 ((w63.setCell ⟨gb337, 2, none⟩ (.slice Ao64 t352.length co64)).heap[gb337]? = some (.cells #[.int .i64 t350, .int .i64 t349, .slice Ao64 t352.length co64] 116 (0, 0))) := ⟨by refine bp_ ?_; refine blk_put (cs := #[.int .i64 t350, .int .i64 t349, .slice none 0 0]) ?_ 2 _ rfl; refine bp_ ?_; exact BK337.out⟩; have n6_ : Aside0 (Below w.heap.size w (w63.setCell ⟨gb337, 2, none⟩ (.slice Ao64 t352.length co64))) := ⟨bl_⟩; (try clear HO_336001); (try clear HO354); (try clear BK332); (try clear BK333); (try clear BK335); (try clear BK337); (try clear HB)
       generalize (w63.setCell ⟨gb337, 2, none⟩ (.slice Ao64 t352.length co64)) = w66 at n0_ n1_ n2_ n3_ n4_ n5_ n6_ ⊢
       have HO_336001 := n0_; have HO354 := n1_; have BK332 := n2_; have BK333 := n3_; have BK335 := n4_; have BK337 := n5_; have HB := n6_; clear n0_ n1_ n2_ n3_ n4_ n5_ n6_; obtain ⟨hcz67_0, hcz67_1, hfz67_0, hfz67_1⟩ := bw2_ BK335.out; obtain ⟨hcz68_0, hcz68_1, hcz68_2, hfz68_0, hfz68_1, hfz68_2⟩ := bw3_ BK337.out
       try go_wp2_with (first | ((with_reducible refine gate_builtin (b := .append) (xs := #[.tmp 54, .tmp 56]) rfl ?_); at_builtin; refine Kd.S_append k116 (w0 := w) w.heap.size rfl (.tmp 54) (.tmp 56) 101 116 (.agg #[(.int .i64 0), (.int .i64 0), (.slice none 0 0)]) 40 rfl Try.underlying101 info116 rfl (by decide) (by omega) u336001 x336001_1 (⟨t350, t349, t352⟩ : S116) [.int .i64 t350, .int .i64 t349, .slice Ao64 t352.length co64] (fun k_ => k_ ≠ gb337) (fun k_ => some k_ = (.slice Ao64 t352.length co64 : Value).ownBlock) rfl rfl ?aP (fun k_ hk_ => ((Kd.R_mono (ok' := fun k_ => ((fun k_ => k_ ≠ gb337)) k_ ∧ some k_ ≠ (u336001 : Value).ownBlock) (Kd.R_types (Kd.R_apart' (HO354.out) (Kd.S_typed HO_336001.out) (by decide)) BK337.out (by decide)) (fun k_ hk => ⟨hk.2, hk.1.2⟩))).1 k_ hk_.symm) ?aF ?aO ?aB ?aS ?aL ?_; (case aP => exact k116_mkM _ _ _ (⟨t350, t349, t352⟩ : S116) (Kd.R_mono (Kd.R_tight rfl (Kd.R_mono (ok' := fun k_ => ((fun k_ => k_ ≠ gb337)) k_ ∧ some k_ ≠ (u336001 : Value).ownBlock) (Kd.R_types (Kd.R_apart' (HO354.out) (Kd.S_typed HO_336001.out) (by decide)) BK337.out (by decide)) (fun k_ hk => ⟨hk.2, hk.1.2⟩))) (fun _ h_ => h_))); (case aB => exact (bl_)); (case aF => exact (fun k_ hk => Kd.freshB (g := gb337) (o := .cells #[.int .i64 t350, .int .i64 t349, .slice Ao64 t352.length co64] 116 (0, 0)) (bk_ BK337.out) k_ hk)); (case aO => exact (by (with_reducible repeat (first | apply Kd.S_alloc | apply Kd.S_drewN | apply Kd.S_drew)); exact Kd.S_mono HO_336001.out (fun k_ hk => ⟨hk.2, fun e_ => hk.1 e_⟩))); (case aS => exact (below_size (bl_))); (case aL => have := LMc50.out; omega); intro v356 w69 ho hb hg hat; rw [← Ny355.out] at ho; replace BK332 := am_ (blk_grown (g := gb332) (o := .cells #[.int .i64 a0_0, .slice A0_1 l0_1.length c0_1] 103 (0, 0)) (bk_ BK332.out) hg (Kd.S_ne HO_336001.out BK332.out (by decide))); replace BK333 := am_ (blk_grown (g := gb333) (o := .cells #[.int .i64 0, .slice none 0 0] 103 (0, 0)) (bk_ BK333.out) hg (Kd.S_ne HO_336001.out BK333.out (by decide))); replace BK335 := am_ (blk_grown (g := gb335) (o := .cells #[.int .i64 t334, u336001] 103 (0, 0)) (bk_ BK335.out) hg (Kd.S_ne HO_336001.out BK335.out (by decide))); replace BK337 := am_ (blk_grown (g := gb337) (o := .cells #[.int .i64 t350, .int .i64 t349, .slice Ao64 t352.length co64] 116 (0, 0)) (bk_ BK337.out) hg (Kd.S_away HO_336001.out (fun _ hk => hk.2))); have HO357 := am_ (ho); replace HB := am_ (hb); clear HO_336001; clear HO354; clear ho hb hg hat; obtain ⟨Ao70, co70, eo70⟩ := Kd.S_slice HO357.out; subst eo70; obtain ⟨hcz71_0, hcz71_1, hfz71_0, hfz71_1⟩ := bw2_ BK335.out))
       go_roundg k1
       case measure => have := HK1.out; omega
       case rel => exact ⟨(wrap64 (x6_1 + 1)), (y355), (.slice Ao70 y355.length co70), (rs_), H', ⟨by have := HK1.out; omega⟩, ⟨by (with_reducible repeat (first | apply Kd.S_alloc | apply Kd.S_drewN | apply Kd.S_drew)); exact Kd.S_mono (Kd.S_far (p := ⟨gb335, 1, none⟩) (Kd.S_types HO357.out BK335.out (by decide)) (fun _ hk => hk.2) (.slice Ao70 y355.length co70)) (fun _ hk => trivial)⟩, ⟨by refine bp_ ?_; refine blk_far ?_ NB332_335.out _; refine bp_ ?_; exact BK332.out⟩, ⟨by refine bp_ ?_; refine blk_far ?_ NB333_335.out _; refine bp_ ?_; exact BK333.out⟩, ⟨by refine bp_ ?_; refine blk_put (cs := #[.int .i64 t334, u336001]) ?_ 1 _ rfl; refine bp_ ?_; exact BK335.out⟩, ⟨bl_⟩⟩
      ·rw [if_neg c50] at H
       exact absurd H (by simp)
     ·rw [if_neg c48] at H
      exact absurd H (by simp)
   ·rw [if_neg c13] at H
    have c13b0 : decide (x6_1 < t336) = false := decide_eq_false c13; clear c13; simp only [Option.some.injEq, Prod.mk.injEq] at H; obtain ⟨rfl, rfl⟩ := H
    go_wp2_with (first | ((with_reducible refine gate_callee (f := 136) rfl ?_); refine goesL_ (some 14) rfl rfl Try.func136 (by kernel_rfl) rfl #[.int .i64 a1, .int .i64 16] rfl (by (try simp only [List.map_toArray, List.map_cons, List.map_nil]); first | done | rfl | (simp only [List.length_drop, List.length_take]; rfl)) ?_; (with_reducible refine (r27_near.calls a1 16 t336 _ A12.out).mono ?_); rintro e w' ⟨rfl, ⟨nd, rfl⟩⟩; refine ⟨_, rfl, ?_⟩; (try (rw [drewN_self wr]; generalize hq_ : World.drewN wr _ = wr; have n0_ : Aside0 (Kd.S k116 116 wr w.heap.size (fun _ => True) u336001 x336001_1) := ⟨by rw [← hq_]; exact (by (with_reducible repeat (first | apply Kd.S_alloc | apply Kd.S_drewN | apply Kd.S_drew)); exact HO_336001.out)⟩; have n1_ : Aside0 (wr.heap[gb332]? = some (.cells #[.int .i64 a0_0, .slice A0_1 l0_1.length c0_1] 103 (0, 0))) := ⟨by rw [← hq_]; exact (bk_ BK332.out)⟩; have n2_ : Aside0 (wr.heap[gb333]? = some (.cells #[.int .i64 0, .slice none 0 0] 103 (0, 0))) := ⟨by rw [← hq_]; exact (bk_ BK333.out)⟩; have n3_ : Aside0 (wr.heap[gb335]? = some (.cells #[.int .i64 t334, u336001] 103 (0, 0))) := ⟨by rw [← hq_]; exact (bk_ BK335.out)⟩; have n4_ : Aside0 (Below w.heap.size w wr) := ⟨by rw [← hq_]; exact (bl_)⟩; clear HO_336001 BK332 BK333 BK335 HB hq_; have HO_336001 := n0_; have BK332 := n1_; have BK333 := n2_; have BK335 := n3_; have HB := n4_; clear n0_ n1_ n2_ n3_ n4_)); have hnb72 := NB335_332.out; have hnc72 := NB332_335.out; have hnb73 := NB335_333.out; have hnc73 := NB333_335.out; obtain ⟨hcz74_0, hcz74_1, hfz74_0, hfz74_1⟩ := bw2_ BK335.out; have hnb75 := NB333_332.out; have hnc75 := NB332_333.out; obtain ⟨hcz76_0, hcz76_1, hfz76_0, hfz76_1⟩ := bw2_ BK333.out; obtain ⟨Ao77, co77, eo77⟩ := Kd.S_slice HO_336001.out; subst eo77))
    refine bodyPost_ret (results_cell_row rfl _ _ gb333 103 #[.int .i64 t334, .slice Ao77 x336001_1.length co77] (0, 0) _ rfl (by refine bp_ ?_; refine blk_put (cs := #[.int .i64 t334, .slice none 0 0]) ?_ 1 _ rfl; refine bp_ ?_; refine blk_put (cs := #[.int .i64 0, .slice none 0 0]) ?_ 0 _ rfl; refine bp_ ?_; exact BK333.out) Try.underlying103 rfl (by kernel_rfl)) rfl ?_; exact ⟨_, ew_, by (with_reducible repeat (first | apply Kd.S_alloc | apply Kd.S_drewN | apply Kd.S_drew)); exact Kd.S_mono (Kd.S_far (p := ⟨gb333, 1, none⟩) (Kd.S_far (p := ⟨gb333, 0, none⟩) (Kd.S_types HO_336001.out BK333.out (by decide)) (fun _ hk => hk.2) (.int .i64 t334)) (fun _ hk => hk.2) (.slice Ao77 x336001_1.length co77)) (fun _ hk => trivial), bl_⟩
def r29_Said.j0 : Nat → List (S103) → Int → Bool → Option (Int × (List (S116)))
 | 0, _, _, _ => none
 | k + 1, x0, x1, x12 => if x12 = true then ((r27_Held.f k 0 ([] : List (S116)) 16).bind fun bt359 => (some (bt359.1, bt359.2))) else (if 0 ≤ x1 then (if x1 < (x0.length : Int) then ((r27_Held.f k ((rd_T103 x0 x1).f0) ((rd_T103 x0 x1).f1) 16).bind fun bt364 => (some (bt364.1, bt364.2))) else (none)) else (none))
def r29_Said.f (k : Nat) (l0 : List (S103)) (a1 : Int) : Option (Int × (List (S116))) := if a1 < 0 then (r29_Said.j0 k l0 a1 true) else (r29_Said.j0 k l0 a1 (decide (a1 ≥ (l0.length : Int))))
theorem r29_Said.mono_l : ∀ k, (∀ y0 y1 y2, LeO (r29_Said.j0 k y0 y1 y2) (r29_Said.j0 (k + 1) y0 y1 y2))
 | 0 => fun _ _ _ r h => by simp [r29_Said.j0] at h
 | k + 1 => by
  have ih0 := r29_Said.mono_l k
  ·intro y0 y1 y2
   unfold r29_Said.j0
   repeat' first
   | (with_reducible exact ih0 _ _ _)
   | (with_reducible exact r27_Held.mono _ _ _ _)
   | (with_reducible exact LeO.refl _)
   | (with_reducible exact LeO.none _)
   | (with_reducible refine LeO.ite ?_ ?_)
   | (with_reducible refine LeO.bind ?_ (fun _ => ?_))
   | exact ih0 _ _ _
   | exact r27_Held.mono _ _ _ _
   | exact LeO.none _
   | refine LeO.ite ?_ ?_
   | refine LeO.bind ?_ (fun _ => ?_)
theorem r29_Said.mono : ∀ a0 a1 k, LeO (r29_Said.f k a0 a1) (r29_Said.f (k + 1) a0 a1) := by
 intro a0 a1 k; have ih0 := r29_Said.mono_l k; unfold r29_Said.f
 repeat' first
   | (with_reducible exact ih0 _ _ _)
   | (with_reducible exact r27_Held.mono _ _ _ _)
   | (with_reducible exact LeO.refl _)
   | (with_reducible exact LeO.none _)
   | (with_reducible refine LeO.ite ?_ ?_)
   | (with_reducible refine LeO.bind ?_ (fun _ => ?_))
   | exact ih0 _ _ _
   | exact r27_Held.mono _ _ _ _
   | exact LeO.none _
   | refine LeO.ite ?_ ?_
   | refine LeO.bind ?_ (fun _ => ?_)
theorem r29_Said.calls (k : Nat) (A0 : Option Addr) (c0 : Nat) (l0 : List (S103)) (a1 : Int) (r1 : Int) (r2 : List (S116)) (w : World) (hr0 : Kd.C k103 w A0 l0.length l0) (hc0 : l0.length ≤ c0) (h : r29_Said.f k l0 a1 = some (r1, r2)) :
  Calls Try.prog 63 #[.slice A0 l0.length c0, .int .i64 a1] w fun e w' => ∃ v1_ : Value, e = .returned (.agg #[.int .i64 r1, v1_]) ∧ Kd.S k116 116 w' w.heap.size (fun _ => True) v1_ r2 ∧ Below w.heap.size w w' := by
 have hu103 := Try.underlying103; have HR0 := am_ hr0; have HC0 := am_ hc0; clear hr0 hc0; have HB := am_ (Below.refl w.heap.size w); have H : (if a1 < 0 then (r29_Said.j0 k l0 a1 true) else (r29_Said.j0 k l0 a1 (decide (a1 ≥ (l0.length : Int))))) = some (r1, r2) := h; clear h; have HC3 := am_ H; clear H
 go_enter Try.func63, Try.ntmps63
 go_upto_region 1 with (first | ((with_reducible refine gate_dst (N := 4) rfl ?_); (try (refine gate_guard (by rfl) ?_; dsimp only)); refine box_event ?hg (N := 4) ?hd (cs := #[.int .i64 0, .slice none 0 0]) (t := 103) ?hr ?_; (case hd => rfl); (case hg => rfl); (case hr => first | (go_simp; done) | (go_simp; rfl)); intro gb358 hg w4 hbox hb; have BK358 := am_ (hbox); have GW358 := am_ ((by rw [hg]; exact (below_size (bl_)) : w.heap.size ≤ gb358)); have GE358 := am_ ((by rw [hg]; exact (below_size (bl_)) : w.heap.size ≤ gb358)); replace HB := am_ (below_step (bl_) hb); clear hb hbox hg))
 (try simp only [Act.put, sa_, sz_, ss_])
 go_cut [12] (fun v12 wc => ∃ (kq : Nat) (x12_2 : Bool), v12 = .bool x12_2 ∧ Aside0 (r29_Said.j0 kq l0 a1 x12_2 = some (r1, r2)) ∧ Aside0 (kq ≤ k) ∧ Aside0 (wc.heap[gb358]? = some (.cells #[.int .i64 0, (.slice none 0 0)] 103 (0, 0))) ∧ Aside0 (Below w.heap.size w wc))
 case first =>
  have H := HC3.out; clear HC3
  by_cases c5 : a1 < 0
  ·rw [if_pos c5] at H
   have c5b0 : decide (a1 < 0) = true := decide_eq_true c5; clear c5; (first | rw [c5b0] | (simp only [i64_w, i32_w]; rw [c5b0]) | skip); have H' := am_ H; clear H
   go_wp2
   go_meet
   case rel => exact ⟨_, (true), (rs_), H', ⟨by first | omega | exact Nat.le_refl _⟩, ⟨bk_ BK358.out⟩, ⟨bl_⟩⟩
  ·rw [if_neg c5] at H
   have c5b0 : decide (a1 < 0) = false := decide_eq_false c5; clear c5; (first | rw [c5b0] | (simp only [i64_w, i32_w]; rw [c5b0]) | skip); have H' := am_ H; clear H
   go_wp2
   go_meet
   case rel => exact ⟨_, (decide (a1 ≥ (l0.length : Int))), (rs_), H', ⟨by first | omega | exact Nat.le_refl _⟩, ⟨bk_ BK358.out⟩, ⟨bl_⟩⟩
 case rest =>
  clear HC3; (try clear p2); (try clear c5); (try clear c5b0); obtain ⟨kq, x12_2, rfl, HA, HJ2, BK358, HB⟩ := hcut
  cases kq with
  | zero => exact absurd HA.out (by simp [r29_Said.j0])
  | succ kj2 =>
   have H := HA.out; clear HA; simp only [r29_Said.j0] at H
   by_cases c6 : x12_2 = true
   ·subst c6
    have H1 : ((r27_Held.f kj2 0 ([] : List (S116)) 16).bind fun bt359 => (some (bt359.1, bt359.2))) = some (r1, r2) := by rw [if_pos rfl] at H; exact H
    clear H; have H := H1; clear H1; replace H := Option.bind_eq_some_iff.mp H; obtain ⟨⟨t359, t360⟩, A70, H⟩ := H; replace H : (some (t359, t360)) = some (r1, r2) := H; have A7 := am_ A70; clear A70; simp only [Option.some.injEq, Prod.mk.injEq] at H; obtain ⟨rfl, rfl⟩ := H
    go_wp2_with (first | ((with_reducible refine gate_callee (f := 109) rfl ?_); refine goesL_ (some 14) rfl rfl Try.func109 (by kernel_rfl) rfl #[.agg #[.int .i64 0, .slice none 0 0], .int .i64 16] rfl (by (try simp only [List.map_toArray, List.map_cons, List.map_nil]); first | done | rfl | (simp only [List.length_drop, List.length_take]; rfl)) ?_; (refine (r27_Held.calls kj2 0 _ _ ([] : List (S116)) 16 t359 t360 _ ?side1 ?side2 A7.out).mono ?_); (case side1 => exact Kd.C_nil _ _); (case side2 => exact Nat.le_refl _); rintro e w8 ⟨v361, rfl, ho0, hb⟩; refine ⟨_, rfl, ?_⟩; have HO362 := am_ (Kd.S_lower ho0 (below_size (bl_))); replace BK358 := am_ (blk_below (bk_ BK358.out) hb); replace HB := am_ (below_step (bl_) hb); (try clear hb); (try clear hb2); (try clear hk); (try clear hi); (try clear ho0); obtain ⟨hcz9_0, hcz9_1, hfz9_0, hfz9_1⟩ := bw2_ BK358.out; obtain ⟨Ao10, co10, eo10⟩ := Kd.S_slice HO362.out; subst eo10))
    refine bodyPost_ret (results_cell_row rfl _ _ gb358 103 #[.int .i64 t359, .slice Ao10 t360.length co10] (0, 0) _ rfl (by refine bp_ ?_; refine blk_put (cs := #[.int .i64 t359, .slice none 0 0]) ?_ 1 _ rfl; refine bp_ ?_; refine blk_put (cs := #[.int .i64 0, .slice none 0 0]) ?_ 0 _ rfl; refine bp_ ?_; exact BK358.out) Try.underlying103 rfl (by kernel_rfl)) rfl ?_; exact ⟨_, ew_, by (with_reducible repeat (first | apply Kd.S_alloc | apply Kd.S_drewN | apply Kd.S_drew)); exact Kd.S_mono (Kd.S_far (p := ⟨gb358, 1, none⟩) (Kd.S_far (p := ⟨gb358, 0, none⟩) (Kd.S_types HO362.out BK358.out (by decide)) (fun _ hk => hk.2) (.int .i64 t359)) (fun _ hk => hk.2) (.slice Ao10 t360.length co10)) (fun _ hk => trivial), bl_⟩
   ·replace c6 := Bool.eq_false_iff.mpr c6
    subst c6
    have H1 : (if 0 ≤ a1 then (if a1 < (l0.length : Int) then ((r27_Held.f kj2 ((rd_T103 l0 a1).f0) ((rd_T103 l0 a1).f1) 16).bind fun bt364 => (some (bt364.1, bt364.2))) else (none)) else (none)) = some (r1, r2) := by rw [if_neg (show ¬ (false = true) by decide)] at H; exact H
    clear H; have H := H1; clear H1
    by_cases c11 : 0 ≤ a1
    ·rw [if_pos c11] at H
     have c11b0 : decide (0 ≤ a1) = true := decide_eq_true c11; clear c11
     by_cases c12 : a1 < (l0.length : Int)
     ·rw [if_pos c12] at H
      have c12b0 : decide (a1 < (l0.length : Int)) = true := decide_eq_true c12; clear c12; replace H := Option.bind_eq_some_iff.mp H; obtain ⟨⟨t364, t365⟩, A130, H⟩ := H; replace H : (some (t364, t365)) = some (r1, r2) := H; have A13 := am_ A130; clear A130; simp only [Option.some.injEq, Prod.mk.injEq] at H; obtain ⟨rfl, rfl⟩ := H; have p363 : 0 ≤ (a1 : Int) := of_decide_eq_true (as_); have q363 : a1 < (l0.length : Int) := of_decide_eq_true (as_); obtain ⟨ad363, A363_1, c363_1, e363, hx363_0, hx363_1, hl363_1, hi363_1⟩ := at_T103 HR0.out a1 p363 q363; cases e363; replace hx363_0 := (HB.out.cell (World.block_lt_of_cell? w _ hx363_0)).trans hx363_0; replace hx363_1 := (HB.out.cell (World.block_lt_of_cell? w _ hx363_1)).trans hx363_1; have HR363_1 := am_ hi363_1; have HC363_1 := am_ hl363_1; clear hi363_1 hl363_1; replace p363 := eq_true p363; replace q363 := eq_true q363
      go_wp2_with (first | ((with_reducible refine gate_callee (f := 109) rfl ?_); refine goesL_ (some 19) rfl rfl Try.func109 (by kernel_rfl) rfl #[.agg #[.int .i64 ((rd_T103 l0 a1).f0), .slice A363_1 ((rd_T103 l0 a1).f1).length c363_1], .int .i64 16] rfl (by (try simp only [List.map_toArray, List.map_cons, List.map_nil]); first | done | rfl | (simp only [List.length_drop, List.length_take]; rfl)) ?_; (with_reducible refine (r27_Held.calls kj2 ((rd_T103 l0 a1).f0) _ _ ((rd_T103 l0 a1).f1) 16 t364 t365 _ ?side1 ?side2 A13.out).mono ?_); (case side1 => repeat (first | exact (Kd.C_below HR363_1.out HB.out) | (with_reducible refine Kd.C_alloc ?_ _) | (with_reducible refine Kd.C_drewN ?_ _) | (with_reducible refine Kd.C_drew ?_))); (case side2 => exact HC363_1.out); rintro e w14 ⟨v366, rfl, ho0, hb⟩; refine ⟨_, rfl, ?_⟩; have HO367 := am_ (Kd.S_lower ho0 (below_size (bl_))); replace BK358 := am_ (blk_below (bk_ BK358.out) hb); replace HB := am_ (below_step (bl_) hb); (try clear hb); (try clear hb2); (try clear hk); (try clear hi); (try clear ho0); obtain ⟨hcz15_0, hcz15_1, hfz15_0, hfz15_1⟩ := bw2_ BK358.out; obtain ⟨Ao16, co16, eo16⟩ := Kd.S_slice HO367.out; subst eo16))
      refine bodyPost_ret (results_cell_row rfl _ _ gb358 103 #[.int .i64 t364, .slice Ao16 t365.length co16] (0, 0) _ rfl (by refine bp_ ?_; refine blk_put (cs := #[.int .i64 t364, .slice none 0 0]) ?_ 1 _ rfl; refine bp_ ?_; refine blk_put (cs := #[.int .i64 0, .slice none 0 0]) ?_ 0 _ rfl; refine bp_ ?_; exact BK358.out) Try.underlying103 rfl (by kernel_rfl)) rfl ?_; exact ⟨_, ew_, by (with_reducible repeat (first | apply Kd.S_alloc | apply Kd.S_drewN | apply Kd.S_drew)); exact Kd.S_mono (Kd.S_far (p := ⟨gb358, 1, none⟩) (Kd.S_far (p := ⟨gb358, 0, none⟩) (Kd.S_types HO367.out BK358.out (by decide)) (fun _ hk => hk.2) (.int .i64 t364)) (fun _ hk => hk.2) (.slice Ao16 t365.length co16)) (fun _ hk => trivial), bl_⟩
     ·rw [if_neg c12] at H
      exact absurd H (by simp)
    ·rw [if_neg c11] at H
     exact absurd H (by simp)
def r29_column.f (k : Nat) (l0 : List (S103)) (a1 : Int) (a2 : Int) : Option (Int × Int × List Int) := (r29_Said.f k l0 a1).bind fun bt369 => (if a2 < 0 then (some (0, 0, ([] : List Int))) else (if a2 ≥ (bt369.2.length : Int) then (some (0, 0, ([] : List Int))) else (if 0 ≤ a2 then (if a2 < (bt369.2.length : Int) then (some ((rd_T116 bt369.2 a2).f0, (rd_T116 bt369.2 a2).f1, (rd_T116 bt369.2 a2).f2)) else (none)) else (none))))
theorem r29_column.mono : ∀ a0 a1 a2 k, LeO (r29_column.f k a0 a1 a2) (r29_column.f (k + 1) a0 a1 a2) := by
 intro a0 a1 a2 k; unfold r29_column.f
 repeat' first
   | (with_reducible exact r29_Said.mono _ _ _)
   | (with_reducible exact LeO.refl _)
   | (with_reducible exact LeO.none _)
   | (with_reducible refine LeO.ite ?_ ?_)
   | (with_reducible refine LeO.bind ?_ (fun _ => ?_))
   | exact r29_Said.mono _ _ _
   | exact LeO.none _
   | refine LeO.ite ?_ ?_
   | refine LeO.bind ?_ (fun _ => ?_)
theorem r29_column.calls (k : Nat) (A0 : Option Addr) (c0 : Nat) (l0 : List (S103)) (a1 : Int) (a2 : Int) (r1 : Int) (r2 : Int) (r3 : List Int) (w : World) (hr0 : Kd.C k103 w A0 l0.length l0) (hc0 : l0.length ≤ c0) (h : r29_column.f k l0 a1 a2 = some (r1, r2, r3)) :
  Calls Try.prog 62 #[.slice A0 l0.length c0, .int .i64 a1, .int .i64 a2] w fun e w' => ∃ v2_ : Value, e = .returned (.agg #[.int .i64 r1, .int .i64 r2, v2_]) ∧ Kd.R (Kd.int .i64) 3 w' w.heap.size (fun _ => True) v2_ r3 ∧ Below w.heap.size w w' := by
 have hu116 := Try.underlying116; have hu103 := Try.underlying103; have HR0 := am_ hr0; have HC0 := am_ hc0; clear hr0 hc0; have HB := am_ (Below.refl w.heap.size w); have H : ((r29_Said.f k l0 a1).bind fun bt369 => (if a2 < 0 then (some (0, 0, ([] : List Int))) else (if a2 ≥ (bt369.2.length : Int) then (some (0, 0, ([] : List Int))) else (if 0 ≤ a2 then (if a2 < (bt369.2.length : Int) then (some ((rd_T116 bt369.2 a2).f0, (rd_T116 bt369.2 a2).f1, (rd_T116 bt369.2 a2).f2)) else (none)) else (none))))) = some (r1, r2, r3) := h; clear h; replace H := Option.bind_eq_some_iff.mp H; obtain ⟨⟨t369, t370⟩, A40, H⟩ := H; replace H : (if a2 < 0 then (some (0, 0, ([] : List Int))) else (if a2 ≥ (t370.length : Int) then (some (0, 0, ([] : List Int))) else (if 0 ≤ a2 then (if a2 < (t370.length : Int) then (some ((rd_T116 t370 a2).f0, (rd_T116 t370 a2).f1, (rd_T116 t370 a2).f2)) else (none)) else (none)))) = some (r1, r2, r3) := H; have A4 := am_ A40; clear A40
 by_cases c5 : a2 < 0
 ·rw [if_pos c5] at H
  have c5b0 : decide (a2 < 0) = true := decide_eq_true c5; clear c5; simp only [Option.some.injEq, Prod.mk.injEq] at H; obtain ⟨rfl, rfl, rfl⟩ := H
  go_enter Try.func62, Try.ntmps62
  go_wp2_with (first | ((with_reducible refine gate_dst (N := 6) rfl ?_); (try (refine gate_guard (by rfl) ?_; dsimp only)); refine box_event ?hg (N := 6) ?hd (cs := #[.int .i64 0, .int .i64 0, .slice none 0 0]) (t := 116) ?hr ?_; (case hd => rfl); (case hg => rfl); (case hr => first | (go_simp; done) | (go_simp; rfl)); intro gb368 hg w6 hbox hb; have BK368 := am_ (hbox); have GW368 := am_ ((by rw [hg]; exact (below_size (bl_)) : w.heap.size ≤ gb368)); have GE368 := am_ ((by rw [hg]; exact (below_size (bl_)) : w.heap.size ≤ gb368)); replace HB := am_ (below_step (bl_) hb); clear hb hbox hg) | ((with_reducible refine gate_callee (f := 63) rfl ?_); refine goesL_ (some 10) rfl rfl Try.func63 (by kernel_rfl) rfl #[.slice A0 l0.length c0, .int .i64 a1] rfl (by (try simp only [List.map_toArray, List.map_cons, List.map_nil]); first | done | rfl | (simp only [List.length_drop, List.length_take]; rfl)) ?_; (with_reducible refine (r29_Said.calls k _ _ l0 a1 t369 t370 _ ?side1 ?side2 A4.out).mono ?_); (case side1 => repeat (first | exact (Kd.C_below HR0.out HB.out) | (with_reducible refine Kd.C_alloc ?_ _) | (with_reducible refine Kd.C_drewN ?_ _) | (with_reducible refine Kd.C_drew ?_))); (case side2 => exact HC0.out); rintro e w7 ⟨v371, rfl, ho0, hb⟩; refine ⟨_, rfl, ?_⟩; have HO372 := am_ (Kd.S_lower (Kd.S_newB ho0 (g := gb368) (o := .cells #[.int .i64 0, .int .i64 0, .slice none 0 0] 116 (0, 0)) (bk_ BK368.out)) (below_size (bl_))); replace BK368 := am_ (blk_below (bk_ BK368.out) hb); replace HB := am_ (below_step (bl_) hb); (try clear hb); (try clear hb2); (try clear hk); (try clear hi); (try clear ho0)) | ((with_reducible refine gate_dst (N := 7) rfl ?_); (try (refine gate_guard (by rfl) ?_; dsimp only)); refine box_event ?hg (N := 7) ?hd (cs := #[.int .i64 0, .slice none 0 0]) (t := 103) ?hr ?_; (case hd => rfl); (case hg => rfl); (case hr => first | (go_simp; done) | (go_simp; rfl)); intro gb373 hg w8 hbox hb; have n0_ := am_ (Kd.S_below (by (with_reducible repeat (first | apply Kd.S_alloc | apply Kd.S_drewN | apply Kd.S_drew)); exact HO372.out) hb); have n1_ := am_ (blk_below (bk_ BK368.out) hb); have n2_ := am_ (below_step (bl_) hb); have n3_ := am_ (hbox); have n4_ := am_ ((by rw [hg]; exact (below_size (bl_)) : w.heap.size ≤ gb373)); have n5_ := am_ ((by rw [hg]; exact (below_size (bl_)) : w.heap.size ≤ gb373)); have n6_ := am_ ((by rw [hg]; exact Nat.ne_of_lt (blk_lt (g := gb368) (o := .cells #[.int .i64 0, .int .i64 0, .slice none 0 0] 116 (0, 0)) (bk_ BK368.out)) : gb368 ≠ gb373)); have n7_ := am_ ((by rw [hg]; exact Nat.ne_of_gt (blk_lt (g := gb368) (o := .cells #[.int .i64 0, .int .i64 0, .slice none 0 0] 116 (0, 0)) (bk_ BK368.out)) : gb373 ≠ gb368)); clear HO372; clear BK368; clear HB; have HO372 := n0_; have BK368 := n1_; have HB := n2_; have BK373 := n3_; have GW373 := n4_; have GE373 := n5_; have NB368_373 := n6_; have NB373_368 := n7_; clear n0_ n1_ n2_ n3_ n4_ n5_ n6_ n7_; clear hb hbox hg; have hnb9 := NB373_368.out; have hnc9 := NB368_373.out; obtain ⟨hcz10_0, hcz10_1, hfz10_0, hfz10_1⟩ := bw2_ BK373.out; obtain ⟨Ao11, co11, eo11⟩ := Kd.S_slice HO372.out; subst eo11; obtain ⟨hcz12_0, hcz12_1, hcz12_2, hfz12_0, hfz12_1, hfz12_2⟩ := bw3_ BK368.out))
  refine bodyPost_ret (results_cell_row rfl _ _ gb368 116 #[.int .i64 0, .int .i64 0, .slice none 0 0] (0, 0) _ rfl (by refine bp_ ?_; refine blk_put (cs := #[.int .i64 0, .int .i64 0, .slice none 0 0]) ?_ 2 _ rfl; refine bp_ ?_; refine blk_put (cs := #[.int .i64 0, .int .i64 0, .slice none 0 0]) ?_ 1 _ rfl; refine bp_ ?_; refine blk_put (cs := #[.int .i64 0, .int .i64 0, .slice none 0 0]) ?_ 0 _ rfl; refine bp_ ?_; refine blk_far ?_ NB368_373.out _; refine bp_ ?_; refine blk_far ?_ NB368_373.out _; refine bp_ ?_; exact BK368.out) Try.underlying116 rfl (by kernel_rfl)) rfl ?_; exact ⟨_, ew_, by first | exact Kd.R_nil _ _ _ _ _ | exact Kd.N_nil _ _ _ _ _ | exact Kd.V_nil _ _ _ _ _ | exact Kd.Q_nil _ _ _ _ _ | exact Kd.S_nil _ _ _ _ _, bl_⟩
 ·rw [if_neg c5] at H
  have c5b0 : decide (a2 < 0) = false := decide_eq_false c5; clear c5
  by_cases c13 : a2 ≥ (t370.length : Int)
  ·rw [if_pos c13] at H
   have c13b0 : decide ((t370.length : Int) ≤ a2) = true := decide_eq_true c13; clear c13; simp only [Option.some.injEq, Prod.mk.injEq] at H; obtain ⟨rfl, rfl, rfl⟩ := H
   go_enter Try.func62, Try.ntmps62
   go_wp2_with (first | ((with_reducible refine gate_dst (N := 6) rfl ?_); (try (refine gate_guard (by rfl) ?_; dsimp only)); refine box_event ?hg (N := 6) ?hd (cs := #[.int .i64 0, .int .i64 0, .slice none 0 0]) (t := 116) ?hr ?_; (case hd => rfl); (case hg => rfl); (case hr => first | (go_simp; done) | (go_simp; rfl)); intro gb368 hg w14 hbox hb; have BK368 := am_ (hbox); have GW368 := am_ ((by rw [hg]; exact (below_size (bl_)) : w.heap.size ≤ gb368)); have GE368 := am_ ((by rw [hg]; exact (below_size (bl_)) : w.heap.size ≤ gb368)); replace HB := am_ (below_step (bl_) hb); clear hb hbox hg) | ((with_reducible refine gate_callee (f := 63) rfl ?_); refine goesL_ (some 10) rfl rfl Try.func63 (by kernel_rfl) rfl #[.slice A0 l0.length c0, .int .i64 a1] rfl (by (try simp only [List.map_toArray, List.map_cons, List.map_nil]); first | done | rfl | (simp only [List.length_drop, List.length_take]; rfl)) ?_; (with_reducible refine (r29_Said.calls k _ _ l0 a1 t369 t370 _ ?side1 ?side2 A4.out).mono ?_); (case side1 => repeat (first | exact (Kd.C_below HR0.out HB.out) | (with_reducible refine Kd.C_alloc ?_ _) | (with_reducible refine Kd.C_drewN ?_ _) | (with_reducible refine Kd.C_drew ?_))); (case side2 => exact HC0.out); rintro e w15 ⟨v371, rfl, ho0, hb⟩; refine ⟨_, rfl, ?_⟩; have HO372 := am_ (Kd.S_lower (Kd.S_newB ho0 (g := gb368) (o := .cells #[.int .i64 0, .int .i64 0, .slice none 0 0] 116 (0, 0)) (bk_ BK368.out)) (below_size (bl_))); replace BK368 := am_ (blk_below (bk_ BK368.out) hb); replace HB := am_ (below_step (bl_) hb); (try clear hb); (try clear hb2); (try clear hk); (try clear hi); (try clear ho0)) | ((with_reducible refine gate_dst (N := 7) rfl ?_); (try (refine gate_guard (by rfl) ?_; dsimp only)); refine box_event ?hg (N := 7) ?hd (cs := #[.int .i64 0, .slice none 0 0]) (t := 103) ?hr ?_; (case hd => rfl); (case hg => rfl); (case hr => first | (go_simp; done) | (go_simp; rfl)); intro gb373 hg w16 hbox hb; have n0_ := am_ (Kd.S_below (by (with_reducible repeat (first | apply Kd.S_alloc | apply Kd.S_drewN | apply Kd.S_drew)); exact HO372.out) hb); have n1_ := am_ (blk_below (bk_ BK368.out) hb); have n2_ := am_ (below_step (bl_) hb); have n3_ := am_ (hbox); have n4_ := am_ ((by rw [hg]; exact (below_size (bl_)) : w.heap.size ≤ gb373)); have n5_ := am_ ((by rw [hg]; exact (below_size (bl_)) : w.heap.size ≤ gb373)); have n6_ := am_ ((by rw [hg]; exact Nat.ne_of_lt (blk_lt (g := gb368) (o := .cells #[.int .i64 0, .int .i64 0, .slice none 0 0] 116 (0, 0)) (bk_ BK368.out)) : gb368 ≠ gb373)); have n7_ := am_ ((by rw [hg]; exact Nat.ne_of_gt (blk_lt (g := gb368) (o := .cells #[.int .i64 0, .int .i64 0, .slice none 0 0] 116 (0, 0)) (bk_ BK368.out)) : gb373 ≠ gb368)); clear HO372; clear BK368; clear HB; have HO372 := n0_; have BK368 := n1_; have HB := n2_; have BK373 := n3_; have GW373 := n4_; have GE373 := n5_; have NB368_373 := n6_; have NB373_368 := n7_; clear n0_ n1_ n2_ n3_ n4_ n5_ n6_ n7_; clear hb hbox hg; have hnb17 := NB373_368.out; have hnc17 := NB368_373.out; obtain ⟨hcz18_0, hcz18_1, hfz18_0, hfz18_1⟩ := bw2_ BK373.out; obtain ⟨Ao19, co19, eo19⟩ := Kd.S_slice HO372.out; subst eo19; obtain ⟨hcz20_0, hcz20_1, hcz20_2, hfz20_0, hfz20_1, hfz20_2⟩ := bw3_ BK368.out))
   refine bodyPost_ret (results_cell_row rfl _ _ gb368 116 #[.int .i64 0, .int .i64 0, .slice none 0 0] (0, 0) _ rfl (by refine bp_ ?_; refine blk_put (cs := #[.int .i64 0, .int .i64 0, .slice none 0 0]) ?_ 2 _ rfl; refine bp_ ?_; refine blk_put (cs := #[.int .i64 0, .int .i64 0, .slice none 0 0]) ?_ 1 _ rfl; refine bp_ ?_; refine blk_put (cs := #[.int .i64 0, .int .i64 0, .slice none 0 0]) ?_ 0 _ rfl; refine bp_ ?_; refine blk_far ?_ NB368_373.out _; refine bp_ ?_; refine blk_far ?_ NB368_373.out _; refine bp_ ?_; exact BK368.out) Try.underlying116 rfl (by kernel_rfl)) rfl ?_; exact ⟨_, ew_, by first | exact Kd.R_nil _ _ _ _ _ | exact Kd.N_nil _ _ _ _ _ | exact Kd.V_nil _ _ _ _ _ | exact Kd.Q_nil _ _ _ _ _ | exact Kd.S_nil _ _ _ _ _, bl_⟩
  ·rw [if_neg c13] at H
   have c13b0 : decide ((t370.length : Int) ≤ a2) = false := decide_eq_false c13; clear c13
   by_cases c21 : 0 ≤ a2
   ·rw [if_pos c21] at H
    have c21b0 : decide (0 ≤ a2) = true := decide_eq_true c21; clear c21
    by_cases c22 : a2 < (t370.length : Int)
    ·rw [if_pos c22] at H
     have c22b0 : decide (a2 < (t370.length : Int)) = true := decide_eq_true c22; clear c22; simp only [Option.some.injEq, Prod.mk.injEq] at H; obtain ⟨rfl, rfl, rfl⟩ := H
     go_enter Try.func62, Try.ntmps62
     go_wp2_with (first | ((with_reducible refine gate_dst (N := 6) rfl ?_); (try (refine gate_guard (by rfl) ?_; dsimp only)); refine box_event ?hg (N := 6) ?hd (cs := #[.int .i64 0, .int .i64 0, .slice none 0 0]) (t := 116) ?hr ?_; (case hd => rfl); (case hg => rfl); (case hr => first | (go_simp; done) | (go_simp; rfl)); intro gb368 hg w23 hbox hb; have BK368 := am_ (hbox); have GW368 := am_ ((by rw [hg]; exact (below_size (bl_)) : w.heap.size ≤ gb368)); have GE368 := am_ ((by rw [hg]; exact (below_size (bl_)) : w.heap.size ≤ gb368)); replace HB := am_ (below_step (bl_) hb); clear hb hbox hg) | ((with_reducible refine gate_callee (f := 63) rfl ?_); refine goesL_ (some 10) rfl rfl Try.func63 (by kernel_rfl) rfl #[.slice A0 l0.length c0, .int .i64 a1] rfl (by (try simp only [List.map_toArray, List.map_cons, List.map_nil]); first | done | rfl | (simp only [List.length_drop, List.length_take]; rfl)) ?_; (with_reducible refine (r29_Said.calls k _ _ l0 a1 t369 t370 _ ?side1 ?side2 A4.out).mono ?_); (case side1 => repeat (first | exact (Kd.C_below HR0.out HB.out) | (with_reducible refine Kd.C_alloc ?_ _) | (with_reducible refine Kd.C_drewN ?_ _) | (with_reducible refine Kd.C_drew ?_))); (case side2 => exact HC0.out); rintro e w24 ⟨v371, rfl, ho0, hb⟩; refine ⟨_, rfl, ?_⟩; have HO372 := am_ (Kd.S_lower (Kd.S_newB ho0 (g := gb368) (o := .cells #[.int .i64 0, .int .i64 0, .slice none 0 0] 116 (0, 0)) (bk_ BK368.out)) (below_size (bl_))); replace BK368 := am_ (blk_below (bk_ BK368.out) hb); replace HB := am_ (below_step (bl_) hb); (try clear hb); (try clear hb2); (try clear hk); (try clear hi); (try clear ho0)) | ((with_reducible refine gate_dst (N := 7) rfl ?_); (try (refine gate_guard (by rfl) ?_; dsimp only)); refine box_event ?hg (N := 7) ?hd (cs := #[.int .i64 0, .slice none 0 0]) (t := 103) ?hr ?_; (case hd => rfl); (case hg => rfl); (case hr => first | (go_simp; done) | (go_simp; rfl)); intro gb373 hg w25 hbox hb; have n0_ := am_ (Kd.S_below (by (with_reducible repeat (first | apply Kd.S_alloc | apply Kd.S_drewN | apply Kd.S_drew)); exact HO372.out) hb); have n1_ := am_ (blk_below (bk_ BK368.out) hb); have n2_ := am_ (below_step (bl_) hb); have n3_ := am_ (hbox); have n4_ := am_ ((by rw [hg]; exact (below_size (bl_)) : w.heap.size ≤ gb373)); have n5_ := am_ ((by rw [hg]; exact (below_size (bl_)) : w.heap.size ≤ gb373)); have n6_ := am_ ((by rw [hg]; exact Nat.ne_of_lt (blk_lt (g := gb368) (o := .cells #[.int .i64 0, .int .i64 0, .slice none 0 0] 116 (0, 0)) (bk_ BK368.out)) : gb368 ≠ gb373)); have n7_ := am_ ((by rw [hg]; exact Nat.ne_of_gt (blk_lt (g := gb368) (o := .cells #[.int .i64 0, .int .i64 0, .slice none 0 0] 116 (0, 0)) (bk_ BK368.out)) : gb373 ≠ gb368)); clear HO372; clear BK368; clear HB; have HO372 := n0_; have BK368 := n1_; have HB := n2_; have BK373 := n3_; have GW373 := n4_; have GE373 := n5_; have NB368_373 := n6_; have NB373_368 := n7_; clear n0_ n1_ n2_ n3_ n4_ n5_ n6_ n7_; clear hb hbox hg; have hnb26 := NB373_368.out; have hnc26 := NB368_373.out; obtain ⟨hcz27_0, hcz27_1, hfz27_0, hfz27_1⟩ := bw2_ BK373.out; obtain ⟨Ao28, co28, eo28⟩ := Kd.S_slice HO372.out; subst eo28) | ((with_reducible refine gate_store (t := 103) (p := 7) rfl ?_); refine store_event (t := 103) (p := 7) (v := ?vo_w29) (w1 := ((w25.setCell ⟨gb373, 0, none⟩ (.int .i64 t369)).setCell ⟨gb373, 1, none⟩ (.slice Ao28 t370.length co28))) ?hg ?ho ?hn ?hr ?_; (case ho => rfl); (case hg => rfl); (case hn => rfl); (case hr => first | (go_simp; done) | (go_simp; rfl)); intro w29 hw; have n0_ : Aside0 (Kd.S k116 116 w29 w.heap.size (fun k_ => k_ ≠ gb368) (.slice Ao28 t370.length co28) t370) := ⟨(by rw [hw]; exact (by (with_reducible repeat (first | apply Kd.S_alloc | apply Kd.S_drewN | apply Kd.S_drew)); exact Kd.S_mono (Kd.S_far (p := ⟨gb373, 1, none⟩) (Kd.S_far (p := ⟨gb373, 0, none⟩) (Kd.S_types HO372.out BK373.out (by decide)) (fun _ hk => hk.2) (.int .i64 t369)) (fun _ hk => hk.2) (.slice Ao28 t370.length co28)) (fun _ hk => hk.1.2)))⟩; have n1_ : Aside0 (w29.heap[gb368]? = some (.cells #[.int .i64 0, .int .i64 0, .slice none 0 0] 116 (0, 0))) := ⟨(by rw [hw]; exact (by refine bp_ ?_; refine blk_far ?_ NB368_373.out _; refine bp_ ?_; refine blk_far ?_ NB368_373.out _; refine bp_ ?_; exact BK368.out))⟩; have n2_ : Aside0 (w29.heap[gb373]? = some (.cells #[.int .i64 t369, .slice Ao28 t370.length co28] 103 (0, 0))) := ⟨(by rw [hw]; exact (by refine bp_ ?_; refine blk_put (cs := #[.int .i64 t369, .slice none 0 0]) ?_ 1 _ rfl; refine bp_ ?_; refine blk_put (cs := #[.int .i64 0, .slice none 0 0]) ?_ 0 _ rfl; refine bp_ ?_; exact BK373.out))⟩; have n3_ : Aside0 (Below w.heap.size w w29) := ⟨(by rw [hw]; exact (bl_))⟩; clear hw; clear HO372; clear BK368; clear BK373; clear HB; have HO372 := n0_; have BK368 := n1_; have BK373 := n2_; have HB := n3_; clear n0_ n1_ n2_ n3_; obtain ⟨hcz30_0, hcz30_1, hfz30_0, hfz30_1⟩ := bw2_ BK373.out; have p374 : 0 ≤ (a2 : Int) := of_decide_eq_true (as_); have q374 : a2 < (t370.length : Int) := of_decide_eq_true (as_); obtain ⟨ad374, A374_2, c374_2, e374, hx374_0, hx374_1, hx374_2, hl374_2, hi374_2⟩ := at_T116 (Kd.S_reads' HO372.out).2.2 a2 p374 q374; cases e374; obtain ⟨ce374, hce374, hMe374, hcc374⟩ := Kd.S_get HO372.out z116 a2 p374 (by first | exact q374 | exact of_decide_eq_true (as_) | (have e_ := (Kd.S_reads' HO372.out).1; omega)); obtain ⟨ve374_2, rfl, ge374_2⟩ := k116_openM hMe374; have hv374_2 := hcc374 2 _ rfl; rw [add_field _ _ 2 (by omega)] at hv374_2; replace hv374_2 := Option.some.inj (hv374_2.symm.trans hx374_2); rw [hv374_2] at ge374_2; have HL374_2 := am_ (show Kd.R (Kd.int .i64) 3 _ _ _ _ ((rd_T116 t370 a2).f2) from ge374_2); clear hv374_2 ge374_2; clear hcc374 hce374; have HR374_2 := am_ hi374_2; have HC374_2 := am_ hl374_2; clear hi374_2 hl374_2; replace p374 := eq_true p374; replace q374 := eq_true q374; obtain ⟨hcz31_0, hcz31_1, hcz31_2, hfz31_0, hfz31_1, hfz31_2⟩ := bw3_ BK368.out))
     refine bodyPost_ret (results_cell_row rfl _ _ gb368 116 #[.int .i64 ((rd_T116 t370 a2).f0), .int .i64 ((rd_T116 t370 a2).f1), .slice A374_2 ((rd_T116 t370 a2).f2).length c374_2] (0, 0) _ rfl (by refine bp_ ?_; refine blk_put (cs := #[.int .i64 ((rd_T116 t370 a2).f0), .int .i64 ((rd_T116 t370 a2).f1), .slice none 0 0]) ?_ 2 _ rfl; refine bp_ ?_; refine blk_put (cs := #[.int .i64 ((rd_T116 t370 a2).f0), .int .i64 0, .slice none 0 0]) ?_ 1 _ rfl; refine bp_ ?_; refine blk_put (cs := #[.int .i64 0, .int .i64 0, .slice none 0 0]) ?_ 0 _ rfl; refine bp_ ?_; exact BK368.out) Try.underlying116 rfl (by kernel_rfl)) rfl ?_; exact ⟨_, ew_, by (with_reducible repeat (first | apply Kd.R_alloc | apply Kd.R_drewN | apply Kd.R_drew)); exact Kd.R_mono (fr_ gb368 2 (fr_ gb368 1 (fr_ gb368 0 (Kd.R_types HL374_2.out BK368.out (by decide)) (fun _ hk => hk.2) (.int .i64 ((rd_T116 t370 a2).f0))) (fun _ hk => hk.2) (.int .i64 ((rd_T116 t370 a2).f1))) (fun _ hk => hk.2) (.slice A374_2 ((rd_T116 t370 a2).f2).length c374_2)) (fun _ hk => trivial), bl_⟩
    ·rw [if_neg c22] at H
     exact absurd H (by simp)
   ·rw [if_neg c21] at H
    exact absurd H (by simp)
def r29_number.f (a0_0 : Int) (a0_1 : ByteArray) (a0_2 : ByteArray) (a0_3 : Int) (a0_4 : Int) (a0_5 : Int) (a0_6 : Int) (a0_7 : ByteArray) (l0_8 : List (S27)) : Option (Bool) := if a0_0 = 16 then (some (a0_5 == 1)) else (some false)
theorem r29_number.calls (a0_0 : Int) (a0_1 : ByteArray) (a0_2 : ByteArray) (a0_3 : Int) (a0_4 : Int) (a0_5 : Int) (a0_6 : Int) (a0_7 : ByteArray) (A0_8 : Option Addr) (c0_8 : Nat) (l0_8 : List (S27)) (r : Bool) (w : World) (hr0_8 : Kd.C k27 w A0_8 l0_8.length l0_8) (hc0_8 : l0_8.length ≤ c0_8) (h : r29_number.f a0_0 a0_1 a0_2 a0_3 a0_4 a0_5 a0_6 a0_7 l0_8 = some r) :
  Calls Try.prog 64 #[.agg #[.int .i64 a0_0, .string a0_1, .string a0_2, .int .i64 a0_3, .int .i64 a0_4, .int .i64 a0_5, .int .i64 a0_6, .string a0_7, .slice A0_8 l0_8.length c0_8]] w fun e w' => e = .returned (.bool r) ∧ Below w.heap.size w w' := by
 have hu27 := Try.underlying27; have HR0_8 := am_ hr0_8; have HC0_8 := am_ hc0_8; clear hr0_8 hc0_8; have HB := am_ (Below.refl w.heap.size w); have H : (if a0_0 = 16 then (some (a0_5 == 1)) else (some false)) = some r := h; clear h
 by_cases c2 : a0_0 = 16
 ·rw [if_pos c2] at H
  have c2b0 : (a0_0 == 16) = true := beq_iff_eq.mpr c2; have c2b1 : (a0_0 != 16) = false := bne_eq_false_iff_eq.mpr c2; clear c2; obtain rfl := Option.some.inj H
  go_enter Try.func64, Try.ntmps64
  go_wp2_with (first | ((with_reducible refine gate_dst (N := 1) rfl ?_); refine box_event ?hg (N := 1) ?hd (cs := #[.int .i64 a0_0, .string a0_1, .string a0_2, .int .i64 a0_3, .int .i64 a0_4, .int .i64 a0_5, .int .i64 a0_6, .string a0_7, .slice A0_8 l0_8.length c0_8]) (t := 27) ?hr ?_; (case hd => rfl); (case hg => rfl); (case hr => first | (go_simp; done) | (go_simp; rfl)); intro gb375 hg w3 hbox hb; have BK375 := am_ (hbox); have GW375 := am_ ((by rw [hg]; exact (below_size (bl_)) : w.heap.size ≤ gb375)); have GE375 := am_ ((by rw [hg]; exact (below_size (bl_)) : w.heap.size ≤ gb375)); replace HB := am_ (below_step (bl_) hb); clear hb hbox hg; obtain ⟨hcz4_0, hcz4_1, hcz4_2, hcz4_3, hcz4_4, hcz4_5, hcz4_6, hcz4_7, hcz4_8, hfz4_0, hfz4_1, hfz4_2, hfz4_3, hfz4_4, hfz4_5, hfz4_6, hfz4_7, hfz4_8⟩ := bw9_ BK375.out))
  go_ret
  exact ⟨ew_, bl_⟩
 ·rw [if_neg c2] at H
  have c2b0 : (a0_0 == 16) = false := beq_eq_false_iff_ne.mpr c2; have c2b1 : (a0_0 != 16) = true := bne_iff_ne.mpr c2; obtain rfl := Option.some.inj H
  go_enter Try.func64, Try.ntmps64
  go_wp2_with (first | ((with_reducible refine gate_dst (N := 1) rfl ?_); refine box_event ?hg (N := 1) ?hd (cs := #[.int .i64 a0_0, .string a0_1, .string a0_2, .int .i64 a0_3, .int .i64 a0_4, .int .i64 a0_5, .int .i64 a0_6, .string a0_7, .slice A0_8 l0_8.length c0_8]) (t := 27) ?hr ?_; (case hd => rfl); (case hg => rfl); (case hr => first | (go_simp; done) | (go_simp; rfl)); intro gb375 hg w5 hbox hb; have BK375 := am_ (hbox); have GW375 := am_ ((by rw [hg]; exact (below_size (bl_)) : w.heap.size ≤ gb375)); have GE375 := am_ ((by rw [hg]; exact (below_size (bl_)) : w.heap.size ≤ gb375)); replace HB := am_ (below_step (bl_) hb); clear hb hbox hg; obtain ⟨hcz6_0, hcz6_1, hcz6_2, hcz6_3, hcz6_4, hcz6_5, hcz6_6, hcz6_7, hcz6_8, hfz6_0, hfz6_1, hfz6_2, hfz6_3, hfz6_4, hfz6_5, hfz6_6, hfz6_7, hfz6_8⟩ := bw9_ BK375.out))
  go_ret
  exact ⟨ew_, bl_⟩
end Go.Proofs.Ytcfgjaggccnoaaa.PCostShares
namespace Go.Proofs.Ytcfgjaggccnoaaa.PCostShares
open Go.RowKit Go.Proofs.YtcfgjaggccnoaaaW.PrintWords Go.Proofs.YtcfgjaggccnoaaaW.PrintLast Go.Proofs.YtcfgjaggccnoaaaW.PrintMore
attribute [local go_sem] max2_int min2_int max_two min_two max_three min_three max_four min_four
set_option linter.unusedVariables false
set_option maxHeartbeats 8000000
set_option linter.unusedSimpArgs false
set_option maxRecDepth 100000
def r29_marks.l0 : Nat → List Int → Int → Int → Int → Int → Option (Nat)
 | 0, _, _, _, _, _ => none
 | k + 1, x0, x1, x2, x7, x8 => if x8 < (x0.length : Int) then (if 0 ≤ x8 then (if (rd x0 x8) < x2 then (r29_marks.l0 k x0 x1 x2 (wrap64 (x7 + 1)) (wrap64 (x8 + 1))) else (if x1 = 2 then (if (rd x0 x8) = x2 then (r29_marks.l0 k x0 x1 x2 (wrap64 (x7 + 1)) (wrap64 (x8 + 1))) else (r29_marks.l0 k x0 x1 x2 x7 (wrap64 (x8 + 1)))) else (r29_marks.l0 k x0 x1 x2 x7 (wrap64 (x8 + 1))))) else (none)) else ((r28_Of.f x7 (x0.length : Int)).bind fun t378 => (some t378))
def r29_marks.f (k : Nat) (l0 : List Int) (a1 : Int) (a2 : Int) : Option (Nat) := r29_marks.l0 k l0 a1 a2 0 0
theorem r29_marks.mono_l : ∀ k, (∀ y0 y1 y2 y3 y4, LeO (r29_marks.l0 k y0 y1 y2 y3 y4) (r29_marks.l0 (k + 1) y0 y1 y2 y3 y4))
 | 0 => fun _ _ _ _ _ r h => by simp [r29_marks.l0] at h
 | k + 1 => by
  have ih0 := r29_marks.mono_l k
  ·intro y0 y1 y2 y3 y4
   unfold r29_marks.l0
   repeat' first
   | (with_reducible exact ih0 _ _ _ _ _)
   | (with_reducible exact LeO.refl _)
   | (with_reducible exact LeO.none _)
   | (with_reducible refine LeO.ite ?_ ?_)
   | (with_reducible refine LeO.bind ?_ (fun _ => ?_))
   | exact ih0 _ _ _ _ _
   | exact LeO.none _
   | refine LeO.ite ?_ ?_
   | refine LeO.bind ?_ (fun _ => ?_)
theorem r29_marks.mono : ∀ a0 a1 a2 k, LeO (r29_marks.f k a0 a1 a2) (r29_marks.f (k + 1) a0 a1 a2) := by
 intro a0 a1 a2 k; have ih0 := r29_marks.mono_l k; unfold r29_marks.f
 repeat' first
   | (with_reducible exact ih0 _ _ _ _ _)
   | (with_reducible exact LeO.refl _)
   | (with_reducible exact LeO.none _)
   | (with_reducible refine LeO.ite ?_ ?_)
   | (with_reducible refine LeO.bind ?_ (fun _ => ?_))
   | exact ih0 _ _ _ _ _
   | exact LeO.none _
   | refine LeO.ite ?_ ?_
   | refine LeO.bind ?_ (fun _ => ?_)
theorem r29_marks.calls (k : Nat) (A0 : Option Addr) (c0 : Nat) (l0 : List Int) (a1 : Int) (a2 : Int) (r : Nat) (w : World) (hr0 : Kd.C (Kd.int .i64) w A0 l0.length l0) (hc0 : l0.length ≤ c0) (h : r29_marks.f k l0 a1 a2 = some r) :
  Calls Try.prog 110 #[.slice A0 l0.length c0, .int .i64 a1, .int .i64 a2] w fun e w' => e = .returned (.float .f64 r) ∧ Drawn0 w w' := by
 have HR0 := am_ hr0; have HC0 := am_ hc0; clear hr0 hc0; have H : (r29_marks.l0 k l0 a1 a2 0 0) = some r := h; clear h; have H' := am_ H; clear H
 go_enter Try.func110, Try.ntmps110
 go_wp2
 go_loopg [7, 8] k (fun kq v7 v8 w' => ∃ (x7_1 : Int) (x8_1 : Int), v7 = .int .i64 x7_1 ∧ v8 = .int .i64 x8_1 ∧ Aside0 (r29_marks.l0 kq l0 a1 a2 x7_1 x8_1 = some r) ∧ Aside0 (kq ≤ k) ∧ Drawn0 w w')
 case atStart => exact ⟨(0), (0), (rs_), (rs_), H', ⟨Nat.le_refl _⟩, by repeat (first | exact Drawn0.refl _ | apply Drawn0.step)⟩
 case round =>
  clear H'; (try clear c1); (try clear p2); obtain ⟨x7_1, x8_1, rfl, rfl, HA, HK1, ⟨m1, rfl⟩⟩ := hrel
  cases gk with
  | zero => exact absurd HA.out (by simp [r29_marks.l0])
  | succ k1 =>
   have H := HA.out; clear HA; simp only [r29_marks.l0] at H
   by_cases c4 : x8_1 < (l0.length : Int)
   ·rw [if_pos c4] at H
    have c4b0 : decide (x8_1 < (l0.length : Int)) = true := decide_eq_true c4; clear c4
    by_cases c5 : 0 ≤ x8_1
    ·rw [if_pos c5] at H
     have c5b0 : decide (0 ≤ x8_1) = true := decide_eq_true c5; clear c5
     by_cases c6 : (rd l0 x8_1) < a2
     ·rw [if_pos c6] at H
      have c6b0 : decide ((rd l0 x8_1) < a2) = true := decide_eq_true c6; clear c6; have H' := am_ H; clear H; have p376 : 0 ≤ (x8_1 : Int) := of_decide_eq_true (as_); have q376 : x8_1 < (l0.length : Int) := of_decide_eq_true (as_); obtain ⟨ad376, e376, hx376_0⟩ := Kd.at_int HR0.out x8_1 p376 q376; cases e376; replace p376 := eq_true p376; replace q376 := eq_true q376
      go_wp2
      go_roundg k1
      case measure => have := HK1.out; omega
      case rel => exact ⟨(wrap64 (x7_1 + 1)), (wrap64 (x8_1 + 1)), (rs_), (rs_), H', ⟨by have := HK1.out; omega⟩, by repeat (first | exact Drawn0.refl _ | apply Drawn0.step)⟩
     ·rw [if_neg c6] at H
      have c6b0 : decide ((rd l0 x8_1) < a2) = false := decide_eq_false c6; clear c6
      by_cases c7 : a1 = 2
      ·rw [if_pos c7] at H
       have c7b0 : (a1 == 2) = true := beq_iff_eq.mpr c7; have c7b1 : (a1 != 2) = false := bne_eq_false_iff_eq.mpr c7; clear c7
       by_cases c8 : (rd l0 x8_1) = a2
       ·rw [if_pos c8] at H
        have c8b0 : ((rd l0 x8_1) == a2) = true := beq_iff_eq.mpr c8; have c8b1 : ((rd l0 x8_1) != a2) = false := bne_eq_false_iff_eq.mpr c8; clear c8; have H' := am_ H; clear H; have p376 : 0 ≤ (x8_1 : Int) := of_decide_eq_true (as_); have q376 : x8_1 < (l0.length : Int) := of_decide_eq_true (as_); obtain ⟨ad376, e376, hx376_0⟩ := Kd.at_int HR0.out x8_1 p376 q376; cases e376; replace p376 := eq_true p376; replace q376 := eq_true q376; have p377 : 0 ≤ (x8_1 : Int) := of_decide_eq_true (as_); have q377 : x8_1 < (l0.length : Int) := of_decide_eq_true (as_); obtain ⟨ad377, e377, hx377_0⟩ := Kd.at_int HR0.out x8_1 p377 q377; obtain rfl : ad376 = ad377 := (by injection e377); replace p377 := eq_true p377; replace q377 := eq_true q377
        go_wp2
        go_roundg k1
        case measure => have := HK1.out; omega
        case rel => exact ⟨(wrap64 (x7_1 + 1)), (wrap64 (x8_1 + 1)), (rs_), (rs_), H', ⟨by have := HK1.out; omega⟩, by repeat (first | exact Drawn0.refl _ | apply Drawn0.step)⟩
       ·rw [if_neg c8] at H
        have c8b0 : ((rd l0 x8_1) == a2) = false := beq_eq_false_iff_ne.mpr c8; have c8b1 : ((rd l0 x8_1) != a2) = true := bne_iff_ne.mpr c8; have H' := am_ H; clear H; have p376 : 0 ≤ (x8_1 : Int) := of_decide_eq_true (as_); have q376 : x8_1 < (l0.length : Int) := of_decide_eq_true (as_); obtain ⟨ad376, e376, hx376_0⟩ := Kd.at_int HR0.out x8_1 p376 q376; cases e376; replace p376 := eq_true p376; replace q376 := eq_true q376; have p377 : 0 ≤ (x8_1 : Int) := of_decide_eq_true (as_); have q377 : x8_1 < (l0.length : Int) := of_decide_eq_true (as_); obtain ⟨ad377, e377, hx377_0⟩ := Kd.at_int HR0.out x8_1 p377 q377; obtain rfl : ad376 = ad377 := (by injection e377); replace p377 := eq_true p377; replace q377 := eq_true q377
        go_wp2
        go_roundg k1
        case measure => have := HK1.out; omega
        case rel => exact ⟨(x7_1), (wrap64 (x8_1 + 1)), (rs_), (rs_), H', ⟨by have := HK1.out; omega⟩, by repeat (first | exact Drawn0.refl _ | apply Drawn0.step)⟩
      ·rw [if_neg c7] at H
       have c7b0 : (a1 == 2) = false := beq_eq_false_iff_ne.mpr c7; have c7b1 : (a1 != 2) = true := bne_iff_ne.mpr c7; have H' := am_ H; clear H; have p376 : 0 ≤ (x8_1 : Int) := of_decide_eq_true (as_); have q376 : x8_1 < (l0.length : Int) := of_decide_eq_true (as_); obtain ⟨ad376, e376, hx376_0⟩ := Kd.at_int HR0.out x8_1 p376 q376; cases e376; replace p376 := eq_true p376; replace q376 := eq_true q376
       go_wp2
       go_roundg k1
       case measure => have := HK1.out; omega
       case rel => exact ⟨(x7_1), (wrap64 (x8_1 + 1)), (rs_), (rs_), H', ⟨by have := HK1.out; omega⟩, by repeat (first | exact Drawn0.refl _ | apply Drawn0.step)⟩
    ·rw [if_neg c5] at H
     exact absurd H (by simp)
   ·rw [if_neg c4] at H
    have c4b0 : decide (x8_1 < (l0.length : Int)) = false := decide_eq_false c4; clear c4; replace H := Option.bind_eq_some_iff.mp H; obtain ⟨t378, A90, H⟩ := H; replace H : (some t378) = some r := H; have A9 := am_ A90; clear A90; obtain rfl := Option.some.inj H
    go_wp2_with (first | ((with_reducible refine gate_callee (f := 61) rfl ?_); refine goesL_ (some 38) rfl rfl Try.func61 (by kernel_rfl) rfl #[.int .i64 x7_1, .int .i64 (l0.length : Int)] rfl (by (try simp only [List.map_toArray, List.map_cons, List.map_nil]); first | done | rfl | (simp only [List.length_drop, List.length_take]; rfl)) ?_; (with_reducible refine (r28_Of.calls x7_1 (l0.length : Int) t378 _ A9.out).mono ?_); rintro e w' ⟨rfl, ⟨nd, rfl⟩⟩; refine ⟨_, rfl, ?_⟩))
    go_ret
    exact ⟨rs_, by repeat (first | exact Drawn0.refl _ | apply Drawn0.step)⟩
def r29_against.f (k : Nat) (l0 : List (S103)) (a1 : Int) (a2 : Int) (a3 : Int) (a4 : Int) : Option (Nat) := (r29_column.f k l0 a1 a2).bind fun bt379 => ((r29_Said.f k l0 a1).bind fun bt385 => ((r28_Of.f (wrap64 (bt385.1 - bt379.2.1)) bt385.1).bind fun t389 => ((r28_Of.f 1 bt379.1).bind fun t390 => ((r28_Of.f 1 bt379.1).bind fun t391 => ((r28_Not.f t391).bind fun t392 => ((r29_marks.f k bt379.2.2 1 a4).bind fun t393 => ((r29_marks.f k bt379.2.2 2 a4).bind fun t394 => ((r29_marks.f k bt379.2.2 2 a4).bind fun t395 => ((r28_Not.f t395).bind fun t396 => ((r29_marks.f k bt379.2.2 1 a4).bind fun t397 => ((r28_Not.f t397).bind fun t398 => ((some (([0, t390, t392, t393, t394, t396, t398] : List Nat) : List Nat)).bind fun y399 => (if 0 ≤ a3 then (if a3 < (y399.length : Int) then ((r28_And.f (([t389, rdOf (0 : Nat) y399 a3] : List Nat))).bind fun t406 => (some t406)) else (none)) else (none))))))))))))))
theorem r29_against.mono : ∀ a0 a1 a2 a3 a4 k, LeO (r29_against.f k a0 a1 a2 a3 a4) (r29_against.f (k + 1) a0 a1 a2 a3 a4) := by
 intro a0 a1 a2 a3 a4 k; unfold r29_against.f
 repeat' first
   | (with_reducible exact r29_Said.mono _ _ _)
   | (with_reducible exact r29_column.mono _ _ _ _)
   | (with_reducible exact r29_marks.mono _ _ _ _)
   | (with_reducible exact LeO.refl _)
   | (with_reducible exact LeO.none _)
   | (with_reducible refine LeO.ite ?_ ?_)
   | (with_reducible refine LeO.bind ?_ (fun _ => ?_))
   | exact r29_Said.mono _ _ _
   | exact r29_column.mono _ _ _ _
   | exact r29_marks.mono _ _ _ _
   | exact LeO.none _
   | refine LeO.ite ?_ ?_
   | refine LeO.bind ?_ (fun _ => ?_)
def r29_against.T4 : Bool × List (List Nat × List Nat) := (true, [([], []), ([0], [0]), ([1], [1]), ([], []), ([3], [3]), ([4, 2], [4]), ([5, 5], [5]), ([], []), ([7], [7]), ([], []), ([8, 9, 6], [8, 9]), ([], []), ([11], [11]), ([], []), ([12, 13, 10], [12, 13]), ([], []), ([15], [15]), ([], []), ([16, 17, 14], [16, 17]), ([18, 18], [18]), ([], []), ([20], [20]), ([], []), ([21, 22, 19], [21, 22]), ([23, 23], [23]), ([2, 6, 10, 14, 19, 24], [2, 6, 10, 14, 19, 24]), ([25, 24, 0, 1, 2, 3, 4, 5, 6, 7, 8, 9, 10, 11, 12, 13, 14, 15, 16, 17, 18, 19, 20, 21, 22, 23, 24, 25], [25])])
def r29_against.B4 : List Nat := [0, 1, 3, 0, 8, 31, 63, 0, 128, 0, 1023, 0, 2048, 0, 16383, 0, 32768, 0, 262143, 524287, 0, 1048576, 0, 8388607, 16777215, 33554431, 67108863]
theorem r29_against.tab4 : rtab .any (opsOf Try.f65 4) = r29_against.T4 := by kernel_rfl
theorem r29_against.bits4 : waitsOk r29_against.T4.2 r29_against.B4 = true := by kernel_rfl
theorem r29_against.calls (k : Nat) (A0 : Option Addr) (c0 : Nat) (l0 : List (S103)) (a1 : Int) (a2 : Int) (a3 : Int) (a4 : Int) (r : Nat) (w : World) (hr0 : Kd.C k103 w A0 l0.length l0) (hc0 : l0.length ≤ c0) (h : r29_against.f k l0 a1 a2 a3 a4 = some r) :
  Calls Try.prog 65 #[.slice A0 l0.length c0, .int .i64 a1, .int .i64 a2, .int .i64 a3, .int .i64 a4] w fun e w' => e = .returned (.float .f64 r) ∧ Below w.heap.size w w' := by
 have hu116 := Try.underlying116; have hu103 := Try.underlying103
 have hfd103_0 : ∀ (x0_ x1_ : Value) (W_ : World), (Instr.field 103 (.agg #[x0_, x1_]) 0).run Try.prog W_ = .ok x0_ W_ := fun _ _ _ => by kernel_rfl
 have HR0 := am_ hr0; have HC0 := am_ hc0; clear hr0 hc0; have HB := am_ (Below.refl w.heap.size w); have H : ((r29_column.f k l0 a1 a2).bind fun bt379 => ((r29_Said.f k l0 a1).bind fun bt385 => ((r28_Of.f (wrap64 (bt385.1 - bt379.2.1)) bt385.1).bind fun t389 => ((r28_Of.f 1 bt379.1).bind fun t390 => ((r28_Of.f 1 bt379.1).bind fun t391 => ((r28_Not.f t391).bind fun t392 => ((r29_marks.f k bt379.2.2 1 a4).bind fun t393 => ((r29_marks.f k bt379.2.2 2 a4).bind fun t394 => ((r29_marks.f k bt379.2.2 2 a4).bind fun t395 => ((r28_Not.f t395).bind fun t396 => ((r29_marks.f k bt379.2.2 1 a4).bind fun t397 => ((r28_Not.f t397).bind fun t398 => ((some (([0, t390, t392, t393, t394, t396, t398] : List Nat) : List Nat)).bind fun y399 => (if 0 ≤ a3 then (if a3 < (y399.length : Int) then ((r28_And.f (([t389, rdOf (0 : Nat) y399 a3] : List Nat))).bind fun t406 => (some t406)) else (none)) else (none))))))))))))))) = some r := h; clear h; replace H := Option.bind_eq_some_iff.mp H; obtain ⟨⟨t379, t380, t381⟩, A60, H⟩ := H; replace H : ((r29_Said.f k l0 a1).bind fun bt385 => ((r28_Of.f (wrap64 (bt385.1 - t380)) bt385.1).bind fun t389 => ((r28_Of.f 1 t379).bind fun t390 => ((r28_Of.f 1 t379).bind fun t391 => ((r28_Not.f t391).bind fun t392 => ((r29_marks.f k t381 1 a4).bind fun t393 => ((r29_marks.f k t381 2 a4).bind fun t394 => ((r29_marks.f k t381 2 a4).bind fun t395 => ((r28_Not.f t395).bind fun t396 => ((r29_marks.f k t381 1 a4).bind fun t397 => ((r28_Not.f t397).bind fun t398 => ((some (([0, t390, t392, t393, t394, t396, t398] : List Nat) : List Nat)).bind fun y399 => (if 0 ≤ a3 then (if a3 < (y399.length : Int) then ((r28_And.f (([t389, rdOf (0 : Nat) y399 a3] : List Nat))).bind fun t406 => (some t406)) else (none)) else (none)))))))))))))) = some r := H; have A6 := am_ A60; clear A60; replace H := Option.bind_eq_some_iff.mp H; obtain ⟨⟨t385, t386⟩, A70, H⟩ := H; replace H : ((r28_Of.f (wrap64 (t385 - t380)) t385).bind fun t389 => ((r28_Of.f 1 t379).bind fun t390 => ((r28_Of.f 1 t379).bind fun t391 => ((r28_Not.f t391).bind fun t392 => ((r29_marks.f k t381 1 a4).bind fun t393 => ((r29_marks.f k t381 2 a4).bind fun t394 => ((r29_marks.f k t381 2 a4).bind fun t395 => ((r28_Not.f t395).bind fun t396 => ((r29_marks.f k t381 1 a4).bind fun t397 => ((r28_Not.f t397).bind fun t398 => ((some (([0, t390, t392, t393, t394, t396, t398] : List Nat) : List Nat)).bind fun y399 => (if 0 ≤ a3 then (if a3 < (y399.length : Int) then ((r28_And.f (([t389, rdOf (0 : Nat) y399 a3] : List Nat))).bind fun t406 => (some t406)) else (none)) else (none))))))))))))) = some r := H; have A7 := am_ A70; clear A70; replace H := Option.bind_eq_some_iff.mp H; obtain ⟨t389, A80, H⟩ := H; replace H : ((r28_Of.f 1 t379).bind fun t390 => ((r28_Of.f 1 t379).bind fun t391 => ((r28_Not.f t391).bind fun t392 => ((r29_marks.f k t381 1 a4).bind fun t393 => ((r29_marks.f k t381 2 a4).bind fun t394 => ((r29_marks.f k t381 2 a4).bind fun t395 => ((r28_Not.f t395).bind fun t396 => ((r29_marks.f k t381 1 a4).bind fun t397 => ((r28_Not.f t397).bind fun t398 => ((some (([0, t390, t392, t393, t394, t396, t398] : List Nat) : List Nat)).bind fun y399 => (if 0 ≤ a3 then (if a3 < (y399.length : Int) then ((r28_And.f (([t389, rdOf (0 : Nat) y399 a3] : List Nat))).bind fun t406 => (some t406)) else (none)) else (none)))))))))))) = some r := H; have A8 := am_ A80; clear A80; replace H := Option.bind_eq_some_iff.mp H; obtain ⟨t390, A90, H⟩ := H; replace H : ((r28_Of.f 1 t379).bind fun t391 => ((r28_Not.f t391).bind fun t392 => ((r29_marks.f k t381 1 a4).bind fun t393 => ((r29_marks.f k t381 2 a4).bind fun t394 => ((r29_marks.f k t381 2 a4).bind fun t395 => ((r28_Not.f t395).bind fun t396 => ((r29_marks.f k t381 1 a4).bind fun t397 => ((r28_Not.f t397).bind fun t398 => ((some (([0, t390, t392, t393, t394, t396, t398] : List Nat) : List Nat)).bind fun y399 => (if 0 ≤ a3 then (if a3 < (y399.length : Int) then ((r28_And.f (([t389, rdOf (0 : Nat) y399 a3] : List Nat))).bind fun t406 => (some t406)) else (none)) else (none))))))))))) = some r := H; have A9 := am_ A90; clear A90; replace H := Option.bind_eq_some_iff.mp H; obtain ⟨t391, A100, H⟩ := H; replace H : ((r28_Not.f t391).bind fun t392 => ((r29_marks.f k t381 1 a4).bind fun t393 => ((r29_marks.f k t381 2 a4).bind fun t394 => ((r29_marks.f k t381 2 a4).bind fun t395 => ((r28_Not.f t395).bind fun t396 => ((r29_marks.f k t381 1 a4).bind fun t397 => ((r28_Not.f t397).bind fun t398 => ((some (([0, t390, t392, t393, t394, t396, t398] : List Nat) : List Nat)).bind fun y399 => (if 0 ≤ a3 then (if a3 < (y399.length : Int) then ((r28_And.f (([t389, rdOf (0 : Nat) y399 a3] : List Nat))).bind fun t406 => (some t406)) else (none)) else (none)))))))))) = some r := H; have A10 := am_ A100; clear A100; replace H := Option.bind_eq_some_iff.mp H; obtain ⟨t392, A110, H⟩ := H; replace H : ((r29_marks.f k t381 1 a4).bind fun t393 => ((r29_marks.f k t381 2 a4).bind fun t394 => ((r29_marks.f k t381 2 a4).bind fun t395 => ((r28_Not.f t395).bind fun t396 => ((r29_marks.f k t381 1 a4).bind fun t397 => ((r28_Not.f t397).bind fun t398 => ((some (([0, t390, t392, t393, t394, t396, t398] : List Nat) : List Nat)).bind fun y399 => (if 0 ≤ a3 then (if a3 < (y399.length : Int) then ((r28_And.f (([t389, rdOf (0 : Nat) y399 a3] : List Nat))).bind fun t406 => (some t406)) else (none)) else (none))))))))) = some r := H; have A11 := am_ A110; clear A110; replace H := Option.bind_eq_some_iff.mp H; obtain ⟨t393, A120, H⟩ := H; replace H : ((r29_marks.f k t381 2 a4).bind fun t394 => ((r29_marks.f k t381 2 a4).bind fun t395 => ((r28_Not.f t395).bind fun t396 => ((r29_marks.f k t381 1 a4).bind fun t397 => ((r28_Not.f t397).bind fun t398 => ((some (([0, t390, t392, t393, t394, t396, t398] : List Nat) : List Nat)).bind fun y399 => (if 0 ≤ a3 then (if a3 < (y399.length : Int) then ((r28_And.f (([t389, rdOf (0 : Nat) y399 a3] : List Nat))).bind fun t406 => (some t406)) else (none)) else (none)))))))) = some r := H; have A12 := am_ A120; clear A120; replace H := Option.bind_eq_some_iff.mp H; obtain ⟨t394, A130, H⟩ := H; replace H : ((r29_marks.f k t381 2 a4).bind fun t395 => ((r28_Not.f t395).bind fun t396 => ((r29_marks.f k t381 1 a4).bind fun t397 => ((r28_Not.f t397).bind fun t398 => ((some (([0, t390, t392, t393, t394, t396, t398] : List Nat) : List Nat)).bind fun y399 => (if 0 ≤ a3 then (if a3 < (y399.length : Int) then ((r28_And.f (([t389, rdOf (0 : Nat) y399 a3] : List Nat))).bind fun t406 => (some t406)) else (none)) else (none))))))) = some r := H; have A13 := am_ A130; clear A130; replace H := Option.bind_eq_some_iff.mp H; obtain ⟨t395, A140, H⟩ := H; replace H : ((r28_Not.f t395).bind fun t396 => ((r29_marks.f k t381 1 a4).bind fun t397 => ((r28_Not.f t397).bind fun t398 => ((some (([0, t390, t392, t393, t394, t396, t398] : List Nat) : List Nat)).bind fun y399 => (if 0 ≤ a3 then (if a3 < (y399.length : Int) then ((r28_And.f (([t389, rdOf (0 : Nat) y399 a3] : List Nat))).bind fun t406 => (some t406)) else (none)) else (none)))))) = some r := H; have A14 := am_ A140; clear A140; replace H := Option.bind_eq_some_iff.mp H; obtain ⟨t396, A150, H⟩ := H; replace H : ((r29_marks.f k t381 1 a4).bind fun t397 => ((r28_Not.f t397).bind fun t398 => ((some (([0, t390, t392, t393, t394, t396, t398] : List Nat) : List Nat)).bind fun y399 => (if 0 ≤ a3 then (if a3 < (y399.length : Int) then ((r28_And.f (([t389, rdOf (0 : Nat) y399 a3] : List Nat))).bind fun t406 => (some t406)) else (none)) else (none))))) = some r := H; have A15 := am_ A150; clear A150; replace H := Option.bind_eq_some_iff.mp H; obtain ⟨t397, A160, H⟩ := H; replace H : ((r28_Not.f t397).bind fun t398 => ((some (([0, t390, t392, t393, t394, t396, t398] : List Nat) : List Nat)).bind fun y399 => (if 0 ≤ a3 then (if a3 < (y399.length : Int) then ((r28_And.f (([t389, rdOf (0 : Nat) y399 a3] : List Nat))).bind fun t406 => (some t406)) else (none)) else (none)))) = some r := H; have A16 := am_ A160; clear A160; replace H := Option.bind_eq_some_iff.mp H; obtain ⟨t398, A170, H⟩ := H; replace H : ((some (([0, t390, t392, t393, t394, t396, t398] : List Nat) : List Nat)).bind fun y399 => (if 0 ≤ a3 then (if a3 < (y399.length : Int) then ((r28_And.f (([t389, rdOf (0 : Nat) y399 a3] : List Nat))).bind fun t406 => (some t406)) else (none)) else (none))) = some r := H; have A17 := am_ A170; clear A170
 obtain ⟨y399, hy399⟩ : ∃ y_ : List Nat, y_ = (([0, t390, t392, t393, t394, t396, t398] : List Nat)) := ⟨_, rfl⟩
 replace H : (if 0 ≤ a3 then (if a3 < (y399.length : Int) then ((r28_And.f (([t389, rdOf (0 : Nat) y399 a3] : List Nat))).bind fun t406 => (some t406)) else (none)) else (none)) = some r := by first | (rw [hy399]; with_reducible exact H) | (have H2_ := (Option.bind_some _ _).symm.trans H; rw [hy399]; with_reducible exact H2_) | (have H2_ := (Option.bind_some _ _).symm.trans H; with_reducible exact H2_) | with_reducible exact H | (rw [hy399]; exact H) | exact H
 have Ny399 := am_ hy399; clear hy399
 by_cases c18 : 0 ≤ a3
 ·rw [if_pos c18] at H
  have c18b0 : decide (0 ≤ a3) = true := decide_eq_true c18; clear c18
  by_cases c19 : a3 < (y399.length : Int)
  ·rw [if_pos c19] at H
   have c19b0 : decide (a3 < (y399.length : Int)) = true := decide_eq_true c19; clear c19
   obtain ⟨y403, hy403⟩ : ∃ y_ : List Nat, y_ = (([t389, rdOf (0 : Nat) y399 a3] : List Nat)) := ⟨_, rfl⟩
   replace H : ((r28_And.f y403).bind fun t406 => (some t406)) = some r := by first | (rw [hy403]; with_reducible exact H) | (have H2_ := (Option.bind_some _ _).symm.trans H; rw [hy403]; with_reducible exact H2_) | (have H2_ := (Option.bind_some _ _).symm.trans H; with_reducible exact H2_) | with_reducible exact H | (rw [hy403]; exact H) | exact H
   have Ny403 := am_ hy403; clear hy403; replace H := Option.bind_eq_some_iff.mp H; obtain ⟨t406, A200, H⟩ := H; replace H : (some t406) = some r := H; have A20 := am_ A200; clear A200; obtain rfl := Option.some.inj H
   go_enter Try.func65, Try.ntmps65
   try go_wp2_with (first | ((with_reducible refine gate_callee (f := 62) rfl ?_); refine goesL_ (some 18) rfl rfl Try.func62 (by kernel_rfl) rfl #[.slice A0 l0.length c0, .int .i64 a1, .int .i64 a2] rfl (by (try simp only [List.map_toArray, List.map_cons, List.map_nil]); first | done | rfl | (simp only [List.length_drop, List.length_take]; rfl)) ?_; (with_reducible refine (r29_column.calls k _ _ l0 a1 a2 t379 t380 t381 _ ?side1 ?side2 A6.out).mono ?_); (case side1 => repeat (first | exact HR0.out | (with_reducible refine Kd.C_alloc ?_ _) | (with_reducible refine Kd.C_drewN ?_ _) | (with_reducible refine Kd.C_drew ?_))); (case side2 => exact HC0.out); rintro e w21 ⟨v382, rfl, ho0, hb⟩; refine ⟨_, rfl, ?_⟩; have HO383 := am_ (Kd.R_lower ho0 (below_size (bl_))); replace HB := am_ (below_step (bl_) hb); (try clear hb); (try clear hb2); (try clear hk); (try clear hi); (try clear ho0)) | ((with_reducible refine gate_dst (N := 11) rfl ?_); refine box_event ?hg (N := 11) ?hd (cs := #[.int .i64 0, .int .i64 0, .slice none 0 0]) (t := 116) ?hr ?_; (case hd => rfl); (case hg => rfl); (case hr => first | (go_simp; done) | (go_simp; rfl)); intro gb384 hg w22 hbox hb; replace HO383 := am_ (Kd.R_below (kr_ HO383.out) hb); have BK384 := am_ (hbox); have GW384 := am_ ((by rw [hg]; exact (below_size (bl_)) : w.heap.size ≤ gb384)); have GE384 := am_ ((by rw [hg]; exact (below_size (bl_)) : w.heap.size ≤ gb384)); replace HB := am_ (below_step (bl_) hb); clear hb hbox hg; obtain ⟨hcz23_0, hcz23_1, hcz23_2, hfz23_0, hfz23_1, hfz23_2⟩ := bw3_ BK384.out; obtain ⟨Ao24, co24, eo24⟩ := Kd.R_slice HO383.out; subst eo24) | ((with_reducible refine gate_callee (f := 63) rfl ?_); refine goesL_ (some 21) rfl rfl Try.func63 (by kernel_rfl) rfl #[.slice A0 l0.length c0, .int .i64 a1] rfl (by (try simp only [List.map_toArray, List.map_cons, List.map_nil]); first | done | rfl | (simp only [List.length_drop, List.length_take]; rfl)) ?_; (with_reducible refine (r29_Said.calls k _ _ l0 a1 t385 t386 _ ?side1 ?side2 A7.out).mono ?_); (case side1 => exact Kd.C_below HR0.out (bl_)); (case side2 => exact HC0.out); rintro e w25 ⟨v387, rfl, ho0, hb⟩; refine ⟨_, rfl, ?_⟩; have n0_ := am_ (Kd.R_below (by (with_reducible repeat (first | apply Kd.R_alloc | apply Kd.R_drewN | apply Kd.R_drew)); exact (Kd.R_mono (fr_ gb384 2 (fr_ gb384 1 (fr_ gb384 0 (Kd.R_types HO383.out BK384.out (by decide)) (fun _ hk => hk.2) (.int .i64 t379)) (fun _ hk => hk.2) (.int .i64 t380)) (fun _ hk => hk.2) (.slice Ao24 t381.length co24)) (fun _ h_ => h_.1))) hb); have n1_ := am_ (Kd.S_lower (Kd.S_newB (Kd.S_new' ho0 (Kd.R_lt (by (with_reducible repeat (first | apply Kd.R_alloc | apply Kd.R_drewN | apply Kd.R_drew)); exact (Kd.R_mono (fr_ gb384 2 (fr_ gb384 1 (fr_ gb384 0 (Kd.R_types HO383.out BK384.out (by decide)) (fun _ hk => hk.2) (.int .i64 t379)) (fun _ hk => hk.2) (.int .i64 t380)) (fun _ hk => hk.2) (.slice Ao24 t381.length co24)) (fun _ h_ => h_.1))))) (g := gb384) (o := .cells #[.int .i64 t379, .int .i64 t380, .slice Ao24 t381.length co24] 116 (0, 0)) (by refine bp_ ?_; refine blk_put (cs := #[.int .i64 t379, .int .i64 t380, .slice none 0 0]) ?_ 2 _ rfl; refine bp_ ?_; refine blk_put (cs := #[.int .i64 t379, .int .i64 0, .slice none 0 0]) ?_ 1 _ rfl; refine bp_ ?_; refine blk_put (cs := #[.int .i64 0, .int .i64 0, .slice none 0 0]) ?_ 0 _ rfl; refine bp_ ?_; exact BK384.out)) (below_size (bl_))); have n2_ := am_ (blk_below (g := gb384) (o := .cells #[.int .i64 t379, .int .i64 t380, .slice Ao24 t381.length co24] 116 (0, 0)) (by refine bp_ ?_; refine blk_put (cs := #[.int .i64 t379, .int .i64 t380, .slice none 0 0]) ?_ 2 _ rfl; refine bp_ ?_; refine blk_put (cs := #[.int .i64 t379, .int .i64 0, .slice none 0 0]) ?_ 1 _ rfl; refine bp_ ?_; refine blk_put (cs := #[.int .i64 0, .int .i64 0, .slice none 0 0]) ?_ 0 _ rfl; refine bp_ ?_; exact BK384.out) hb); have n3_ := am_ (below_step (bl_) hb); clear HO383; clear BK384; clear HB; have HO383 := n0_; have HO388 := n1_; have BK384 := n2_; have HB := n3_; clear n0_ n1_ n2_ n3_; (try clear hb); (try clear hb2); (try clear hk); (try clear hi); (try clear ho0); obtain ⟨hcz26_0, hcz26_1, hcz26_2, hfz26_0, hfz26_1, hfz26_2⟩ := bw3_ BK384.out) | ((with_reducible refine gate_callee (f := 61) rfl ?_); refine goesL_ (some 28) rfl rfl Try.func61 (by kernel_rfl) rfl #[.int .i64 (wrap64 (t385 - t380)), .int .i64 t385] rfl (by (try simp only [List.map_toArray, List.map_cons, List.map_nil]); first | done | rfl | (simp only [List.length_drop, List.length_take]; rfl)) ?_; (with_reducible refine (r28_Of.calls (wrap64 (t385 - t380)) t385 t389 _ A8.out).mono ?_); rintro e w' ⟨rfl, ⟨nd, rfl⟩⟩; refine ⟨_, rfl, ?_⟩))
   (try (rw [drewN_self w25]; generalize hq_ : World.drewN w25 _ = w25; have n0_ : Aside0 (Kd.R (Kd.int .i64) 3 w25 w.heap.size (fun _ => True) (.slice Ao24 t381.length co24) t381) := ⟨by rw [← hq_]; exact (kr_ HO383.out)⟩; have n1_ : Aside0 (Kd.S k116 116 w25 w.heap.size (fun k_ => some k_ ≠ (.slice Ao24 t381.length co24 : Value).ownBlock ∧ k_ ≠ gb384) v387 t386) := ⟨by rw [← hq_]; exact (by (with_reducible repeat (first | apply Kd.S_alloc | apply Kd.S_drewN | apply Kd.S_drew)); exact Kd.S_mono HO388.out (fun _ hk => ⟨hk.1.2, hk.2⟩))⟩; have n2_ : Aside0 (w25.heap[gb384]? = some (.cells #[.int .i64 t379, .int .i64 t380, .slice Ao24 t381.length co24] 116 (0, 0))) := ⟨by rw [← hq_]; exact (bk_ BK384.out)⟩; have n3_ : Aside0 (Below w.heap.size w w25) := ⟨by rw [← hq_]; exact (bl_)⟩; clear HO383 HO388 BK384 HB hq_; have HO383 := n0_; have HO388 := n1_; have BK384 := n2_; have HB := n3_; clear n0_ n1_ n2_ n3_)); have n0_ := am_ (Kd.R_drew HO383.out); have n1_ := am_ (Kd.S_drew HO388.out); have n2_ := am_ (blk_drew BK384.out); have n3_ := am_ (below_drew1 HB.out); clear HO383; clear HO388; clear BK384; clear HB; have HO383 := n0_; have HO388 := n1_; have BK384 := n2_; have HB := n3_; clear n0_ n1_ n2_ n3_
   refine start_ (n := 27) (S := fun w' => w'.cell? ⟨gb384, 0, none⟩ = some (.int .i64 t379) ∧ w'.cell? ⟨gb384, 1, none⟩ = some (.int .i64 t380) ∧ w'.cell? ⟨gb384, 2, none⟩ = some (.slice Ao24 t381.length co24)) (ds := []) #[false, false, false, false, false, false, false, false, false, false, false, false, false, false, false, false, false, false, false, false, false, false, false, false, false, false, false] (by kernel_rfl) rfl rfl ⟨bc_ BK384.out 0, bc_ BK384.out 1, bc_ BK384.out 2⟩ (fun hHeld => ?_); refine with_tabW r29_against.tab4 r29_against.bits4 (fun HT_ HW_ => ?_)
   generalize w25.drew = w27 at HO383 HO388 BK384 HB hHeld ⊢
   refine pure_ (i := 0) (N := some 29) (v := ?_) (a' := ?_) #[true, false, false, false, false, false, false, false, false, false, false, false, false, false, false, false, false, false, false, false, false, false, false, false, false, false, false] rfl rfl (any_of HT_.out (by kernel_rfl)) (fun _ _ _ h => h) (Or.inl ⟨by rfl, ?_⟩) ?_ ?_; rotate_left
   ·intro w'
    go_simp; (with_reducible rfl)
   rotate_left
   ·simp only [Act.put, sa_, sz_, ss_, i64_w, i32_w]
    rfl
   refine pure_ (i := 3) (N := some 32) (v := ?_) (a' := ?_) #[true, false, false, true, false, false, false, false, false, false, false, false, false, false, false, false, false, false, false, false, false, false, false, false, false, false, false] rfl rfl (any_of HT_.out (by kernel_rfl)) (fun _ _ _ h => h) (Or.inl ⟨by rfl, ?_⟩) ?_ ?_; rotate_left
   ·intro w'
    go_simp; (with_reducible rfl)
   rotate_left
   ·simp only [Act.put, sa_, sz_, ss_, i64_w, i32_w]
    rfl
   refine pure_ (i := 7) (N := some 36) (v := ?_) (a' := ?_) #[true, false, false, true, false, false, false, true, false, false, false, false, false, false, false, false, false, false, false, false, false, false, false, false, false, false, false] rfl rfl (any_of HT_.out (by kernel_rfl)) (fun _ _ _ h => h) (Or.inl ⟨by rfl, ?_⟩) ?_ ?_; rotate_left
   ·intro w'
    go_simp; (with_reducible rfl)
   rotate_left
   ·simp only [Act.put, sa_, sz_, ss_, i64_w, i32_w]
    rfl
   refine pure_ (i := 9) (N := some 38) (v := ?_) (a' := ?_) #[true, false, false, true, false, false, false, true, false, true, false, false, false, false, false, false, false, false, false, false, false, false, false, false, false, false, false] rfl rfl (any_of HT_.out (by kernel_rfl)) (fun _ _ _ h => h) (Or.inl ⟨by rfl, ?_⟩) ?_ ?_; rotate_left
   ·intro w'
    go_simp; (with_reducible rfl)
   rotate_left
   ·simp only [Act.put, sa_, sz_, ss_, i64_w, i32_w]
    rfl
   refine pure_ (i := 11) (N := some 40) (v := ?_) (a' := ?_) #[true, false, false, true, false, false, false, true, false, true, false, true, false, false, false, false, false, false, false, false, false, false, false, false, false, false, false] rfl rfl (any_of HT_.out (by kernel_rfl)) (fun _ _ _ h => h) (Or.inl ⟨by rfl, ?_⟩) ?_ ?_; rotate_left
   ·intro w'
    go_simp; (with_reducible rfl)
   rotate_left
   ·simp only [Act.put, sa_, sz_, ss_, i64_w, i32_w]
    rfl
   refine pure_ (i := 13) (N := some 42) (v := ?_) (a' := ?_) #[true, false, false, true, false, false, false, true, false, true, false, true, false, true, false, false, false, false, false, false, false, false, false, false, false, false, false] rfl rfl (any_of HT_.out (by kernel_rfl)) (fun _ _ _ h => h) (Or.inl ⟨by rfl, ?_⟩) ?_ ?_; rotate_left
   ·intro w'
    go_simp; (with_reducible rfl)
   rotate_left
   ·simp only [Act.put, sa_, sz_, ss_, i64_w, i32_w]
    rfl
   refine pure_ (i := 15) (N := some 44) (v := ?_) (a' := ?_) #[true, false, false, true, false, false, false, true, false, true, false, true, false, true, false, true, false, false, false, false, false, false, false, false, false, false, false] rfl rfl (any_of HT_.out (by kernel_rfl)) (fun _ _ _ h => h) (Or.inl ⟨by rfl, ?_⟩) ?_ ?_; rotate_left
   ·intro w'
    go_simp; (with_reducible rfl)
   rotate_left
   ·simp only [Act.put, sa_, sz_, ss_, i64_w, i32_w]
    rfl
   refine pure_ (i := 17) (N := some 46) (v := ?_) (a' := ?_) #[true, false, false, true, false, false, false, true, false, true, false, true, false, true, false, true, false, true, false, false, false, false, false, false, false, false, false] rfl rfl (any_of HT_.out (by kernel_rfl)) (fun _ _ _ h => h) (Or.inl ⟨by rfl, ?_⟩) ?_ ?_; rotate_left
   ·intro w'
    go_simp; (with_reducible rfl)
   rotate_left
   ·simp only [Act.put, sa_, sz_, ss_, i64_w, i32_w]
    rfl
   refine pure_ (i := 20) (N := some 49) (v := ?_) (a' := ?_) #[true, false, false, true, false, false, false, true, false, true, false, true, false, true, false, true, false, true, false, false, true, false, false, false, false, false, false] rfl rfl (any_of HT_.out (by kernel_rfl)) (fun _ _ _ h => h) (Or.inl ⟨by rfl, ?_⟩) ?_ ?_; rotate_left
   ·intro w'
    go_simp; (with_reducible rfl)
   rotate_left
   ·simp only [Act.put, sa_, sz_, ss_, i64_w, i32_w]
    rfl
   refine pure_ (i := 22) (N := some 51) (v := ?_) (a' := ?_) #[true, false, false, true, false, false, false, true, false, true, false, true, false, true, false, true, false, true, false, false, true, false, true, false, false, false, false] rfl rfl (any_of HT_.out (by kernel_rfl)) (fun _ _ _ h => h) (Or.inl ⟨by rfl, ?_⟩) ?_ ?_; rotate_left
   ·intro w'
    go_simp; (with_reducible rfl)
   rotate_left
   ·simp only [Act.put, sa_, sz_, ss_, i64_w, i32_w]
    rfl
   refine take_ (i := 1) (N := some 30) (v := ?_) (a' := ?_) #[true, true, false, true, false, false, false, true, false, true, false, true, false, true, false, true, false, true, false, false, true, false, true, false, false, false, false] rfl rfl (take_ofW HT_.out HW_.out (by kernel_rfl)) (fun _ _ _ h => h) (Or.inl ⟨by rfl, ?_⟩) hHeld ?_ ?_; rotate_left
   ·rintro w' ⟨s0, s1, s2⟩
    go_simp; (with_reducible rfl)
   rotate_left
   ·simp only [Act.put, sa_, sz_, ss_, i64_w, i32_w]
    rfl
   refine take_ (i := 4) (N := some 33) (v := ?_) (a' := ?_) #[true, true, false, true, true, false, false, true, false, true, false, true, false, true, false, true, false, true, false, false, true, false, true, false, false, false, false] rfl rfl (take_ofW HT_.out HW_.out (by kernel_rfl)) (fun _ _ _ h => h) (Or.inl ⟨by rfl, ?_⟩) hHeld ?_ ?_; rotate_left
   ·rintro w' ⟨s0, s1, s2⟩
    go_simp; (with_reducible rfl)
   rotate_left
   ·simp only [Act.put, sa_, sz_, ss_, i64_w, i32_w]
    rfl
   refine take_ (i := 8) (N := some 37) (v := ?_) (a' := ?_) #[true, true, false, true, true, false, false, true, true, true, false, true, false, true, false, true, false, true, false, false, true, false, true, false, false, false, false] rfl rfl (take_ofW HT_.out HW_.out (by kernel_rfl)) (fun _ _ _ h => h) (Or.inl ⟨by rfl, ?_⟩) hHeld ?_ ?_; rotate_left
   ·rintro w' ⟨s0, s1, s2⟩
    go_simp; (with_reducible rfl)
   rotate_left
   ·simp only [Act.put, sa_, sz_, ss_, i64_w, i32_w]
    rfl
   refine take_ (i := 12) (N := some 41) (v := ?_) (a' := ?_) #[true, true, false, true, true, false, false, true, true, true, false, true, true, true, false, true, false, true, false, false, true, false, true, false, false, false, false] rfl rfl (take_ofW HT_.out HW_.out (by kernel_rfl)) (fun _ _ _ h => h) (Or.inl ⟨by rfl, ?_⟩) hHeld ?_ ?_; rotate_left
   ·rintro w' ⟨s0, s1, s2⟩
    go_simp; (with_reducible rfl)
   rotate_left
   ·simp only [Act.put, sa_, sz_, ss_, i64_w, i32_w]
    rfl
   refine take_ (i := 16) (N := some 45) (v := ?_) (a' := ?_) #[true, true, false, true, true, false, false, true, true, true, false, true, true, true, false, true, true, true, false, false, true, false, true, false, false, false, false] rfl rfl (take_ofW HT_.out HW_.out (by kernel_rfl)) (fun _ _ _ h => h) (Or.inl ⟨by rfl, ?_⟩) hHeld ?_ ?_; rotate_left
   ·rintro w' ⟨s0, s1, s2⟩
    go_simp; (with_reducible rfl)
   rotate_left
   ·simp only [Act.put, sa_, sz_, ss_, i64_w, i32_w]
    rfl
   refine take_ (i := 21) (N := some 50) (v := ?_) (a' := ?_) #[true, true, false, true, true, false, false, true, true, true, false, true, true, true, false, true, true, true, false, false, true, true, true, false, false, false, false] rfl rfl (take_ofW HT_.out HW_.out (by kernel_rfl)) (fun _ _ _ h => h) (Or.inl ⟨by rfl, ?_⟩) hHeld ?_ ?_; rotate_left
   ·rintro w' ⟨s0, s1, s2⟩
    go_simp; (with_reducible rfl)
   rotate_left
   ·simp only [Act.put, sa_, sz_, ss_, i64_w, i32_w]
    rfl
   refine one_ (i := 2) (N := some 31) #[true, true, true, true, true, false, false, true, true, true, false, true, true, true, false, true, true, true, false, false, true, true, true, false, false, false, false] rfl rfl (one_of HT_.out (by kernel_rfl)) (by decide) (fun K hK => ?_); refine goes_ Try.func61 (by kernel_rfl) rfl #[.int .i64 1, .int .i64 t379] (by rfl) rfl rfl (by (try simp only [List.map_toArray, List.map_cons, List.map_nil]); first | done | rfl | (simp only [List.length_drop, List.length_take]; rfl)) ?_; (with_reducible refine (r28_Of.calls 1 t379 t390 _ A9.out).mono ?_); rintro e w' ⟨rfl, ⟨nd, rfl⟩⟩; refine ⟨_, rfl, ?_⟩; refine hK.out _ _ ⟨bc_ BK384.out 0, bc_ BK384.out 1, bc_ BK384.out 2⟩ (fun hHeld => ?_); clear hK K; refine norm_ (a' := ?_) ?_ ?_; rotate_left
   ·show Act.put _ (some 31) _ = _
    simp only [Act.put, sa_, sz_, ss_, i64_w, i32_w]; rfl
   refine one_ (i := 5) (N := some 34) #[true, true, true, true, true, true, false, true, true, true, false, true, true, true, false, true, true, true, false, false, true, true, true, false, false, false, false] rfl rfl (one_of HT_.out (by kernel_rfl)) (by decide) (fun K hK => ?_); refine goes_ Try.func61 (by kernel_rfl) rfl #[.int .i64 1, .int .i64 t379] (by rfl) rfl rfl (by (try simp only [List.map_toArray, List.map_cons, List.map_nil]); first | done | rfl | (simp only [List.length_drop, List.length_take]; rfl)) ?_; (with_reducible refine (r28_Of.calls 1 t379 t391 _ A10.out).mono ?_); rintro e w' ⟨rfl, ⟨nd, rfl⟩⟩; refine ⟨_, rfl, ?_⟩; refine hK.out _ _ ⟨bc_ BK384.out 0, bc_ BK384.out 1, bc_ BK384.out 2⟩ (fun hHeld => ?_); clear hK K; refine norm_ (a' := ?_) ?_ ?_; rotate_left
   ·show Act.put _ (some 34) _ = _
    simp only [Act.put, sa_, sz_, ss_, i64_w, i32_w]; rfl
   refine one_ (i := 6) (N := some 35) #[true, true, true, true, true, true, true, true, true, true, false, true, true, true, false, true, true, true, false, false, true, true, true, false, false, false, false] rfl rfl (one_of HT_.out (by kernel_rfl)) (by decide) (fun K hK => ?_); refine goes_ Try.func60 (by kernel_rfl) rfl #[.float .f64 t391] (by rfl) rfl rfl (by (try simp only [List.map_toArray, List.map_cons, List.map_nil]); first | done | rfl | (simp only [List.length_drop, List.length_take]; rfl)) ?_; (with_reducible refine (r28_Not.calls t391 t392 _ A11.out).mono ?_); rintro e w' ⟨rfl, ⟨nd, rfl⟩⟩; refine ⟨_, rfl, ?_⟩; refine hK.out _ _ ⟨bc_ BK384.out 0, bc_ BK384.out 1, bc_ BK384.out 2⟩ (fun hHeld => ?_); clear hK K; refine norm_ (a' := ?_) ?_ ?_; rotate_left
   ·show Act.put _ (some 35) _ = _
    simp only [Act.put, sa_, sz_, ss_, i64_w, i32_w]; rfl
   refine one_ (i := 10) (N := some 39) #[true, true, true, true, true, true, true, true, true, true, true, true, true, true, false, true, true, true, false, false, true, true, true, false, false, false, false] rfl rfl (one_of HT_.out (by kernel_rfl)) (by decide) (fun K hK => ?_); refine goes_ Try.func110 (by kernel_rfl) rfl #[.slice Ao24 t381.length co24, .int .i64 1, .int .i64 a4] (by rfl) rfl rfl (by (try simp only [List.map_toArray, List.map_cons, List.map_nil]); first | done | rfl | (simp only [List.length_drop, List.length_take]; rfl)) ?_; (with_reducible refine (r29_marks.calls k _ _ t381 1 a4 t393 _ ?side1 ?side2 A12.out).mono ?_); (case side1 => repeat (first | exact (Kd.R_reads' HO383.out).2.2 | (with_reducible refine Kd.C_alloc ?_ _) | (with_reducible refine Kd.C_drewN ?_ _) | (with_reducible refine Kd.C_drew ?_))); (case side2 => exact (Kd.R_reads' HO383.out).2.1); rintro e w' ⟨rfl, ⟨nd, rfl⟩⟩; refine ⟨_, rfl, ?_⟩; refine hK.out _ _ ⟨bc_ BK384.out 0, bc_ BK384.out 1, bc_ BK384.out 2⟩ (fun hHeld => ?_); clear hK K; refine norm_ (a' := ?_) ?_ ?_; rotate_left
   ·show Act.put _ (some 39) _ = _
    simp only [Act.put, sa_, sz_, ss_, i64_w, i32_w]; rfl
   refine one_ (i := 14) (N := some 43) #[true, true, true, true, true, true, true, true, true, true, true, true, true, true, true, true, true, true, false, false, true, true, true, false, false, false, false] rfl rfl (one_of HT_.out (by kernel_rfl)) (by decide) (fun K hK => ?_); refine goes_ Try.func110 (by kernel_rfl) rfl #[.slice Ao24 t381.length co24, .int .i64 2, .int .i64 a4] (by rfl) rfl rfl (by (try simp only [List.map_toArray, List.map_cons, List.map_nil]); first | done | rfl | (simp only [List.length_drop, List.length_take]; rfl)) ?_; (with_reducible refine (r29_marks.calls k _ _ t381 2 a4 t394 _ ?side1 ?side2 A13.out).mono ?_); (case side1 => repeat (first | exact (Kd.R_reads' HO383.out).2.2 | (with_reducible refine Kd.C_alloc ?_ _) | (with_reducible refine Kd.C_drewN ?_ _) | (with_reducible refine Kd.C_drew ?_))); (case side2 => exact (Kd.R_reads' HO383.out).2.1); rintro e w' ⟨rfl, ⟨nd, rfl⟩⟩; refine ⟨_, rfl, ?_⟩; refine hK.out _ _ ⟨bc_ BK384.out 0, bc_ BK384.out 1, bc_ BK384.out 2⟩ (fun hHeld => ?_); clear hK K; refine norm_ (a' := ?_) ?_ ?_; rotate_left
   ·show Act.put _ (some 43) _ = _
    simp only [Act.put, sa_, sz_, ss_, i64_w, i32_w]; rfl
   refine one_ (i := 18) (N := some 47) #[true, true, true, true, true, true, true, true, true, true, true, true, true, true, true, true, true, true, true, false, true, true, true, false, false, false, false] rfl rfl (one_of HT_.out (by kernel_rfl)) (by decide) (fun K hK => ?_); refine goes_ Try.func110 (by kernel_rfl) rfl #[.slice Ao24 t381.length co24, .int .i64 2, .int .i64 a4] (by rfl) rfl rfl (by (try simp only [List.map_toArray, List.map_cons, List.map_nil]); first | done | rfl | (simp only [List.length_drop, List.length_take]; rfl)) ?_; (with_reducible refine (r29_marks.calls k _ _ t381 2 a4 t395 _ ?side1 ?side2 A14.out).mono ?_); (case side1 => repeat (first | exact (Kd.R_reads' HO383.out).2.2 | (with_reducible refine Kd.C_alloc ?_ _) | (with_reducible refine Kd.C_drewN ?_ _) | (with_reducible refine Kd.C_drew ?_))); (case side2 => exact (Kd.R_reads' HO383.out).2.1); rintro e w' ⟨rfl, ⟨nd, rfl⟩⟩; refine ⟨_, rfl, ?_⟩; refine hK.out _ _ ⟨bc_ BK384.out 0, bc_ BK384.out 1, bc_ BK384.out 2⟩ (fun hHeld => ?_); clear hK K; refine norm_ (a' := ?_) ?_ ?_; rotate_left
   ·show Act.put _ (some 47) _ = _
    simp only [Act.put, sa_, sz_, ss_, i64_w, i32_w]; rfl
   refine one_ (i := 19) (N := some 48) #[true, true, true, true, true, true, true, true, true, true, true, true, true, true, true, true, true, true, true, true, true, true, true, false, false, false, false] rfl rfl (one_of HT_.out (by kernel_rfl)) (by decide) (fun K hK => ?_); refine goes_ Try.func60 (by kernel_rfl) rfl #[.float .f64 t395] (by rfl) rfl rfl (by (try simp only [List.map_toArray, List.map_cons, List.map_nil]); first | done | rfl | (simp only [List.length_drop, List.length_take]; rfl)) ?_; (with_reducible refine (r28_Not.calls t395 t396 _ A15.out).mono ?_); rintro e w' ⟨rfl, ⟨nd, rfl⟩⟩; refine ⟨_, rfl, ?_⟩; refine hK.out _ _ ⟨bc_ BK384.out 0, bc_ BK384.out 1, bc_ BK384.out 2⟩ (fun hHeld => ?_); clear hK K; refine norm_ (a' := ?_) ?_ ?_; rotate_left
   ·show Act.put _ (some 48) _ = _
    simp only [Act.put, sa_, sz_, ss_, i64_w, i32_w]; rfl
   refine one_ (i := 23) (N := some 52) #[true, true, true, true, true, true, true, true, true, true, true, true, true, true, true, true, true, true, true, true, true, true, true, true, false, false, false] rfl rfl (one_of HT_.out (by kernel_rfl)) (by decide) (fun K hK => ?_); refine goes_ Try.func110 (by kernel_rfl) rfl #[.slice Ao24 t381.length co24, .int .i64 1, .int .i64 a4] (by rfl) rfl rfl (by (try simp only [List.map_toArray, List.map_cons, List.map_nil]); first | done | rfl | (simp only [List.length_drop, List.length_take]; rfl)) ?_; (with_reducible refine (r29_marks.calls k _ _ t381 1 a4 t397 _ ?side1 ?side2 A16.out).mono ?_); (case side1 => repeat (first | exact (Kd.R_reads' HO383.out).2.2 | (with_reducible refine Kd.C_alloc ?_ _) | (with_reducible refine Kd.C_drewN ?_ _) | (with_reducible refine Kd.C_drew ?_))); (case side2 => exact (Kd.R_reads' HO383.out).2.1); rintro e w' ⟨rfl, ⟨nd, rfl⟩⟩; refine ⟨_, rfl, ?_⟩; refine hK.out _ _ ⟨bc_ BK384.out 0, bc_ BK384.out 1, bc_ BK384.out 2⟩ (fun hHeld => ?_); clear hK K; refine norm_ (a' := ?_) ?_ ?_; rotate_left
   ·show Act.put _ (some 52) _ = _
    simp only [Act.put, sa_, sz_, ss_, i64_w, i32_w]; rfl
   refine one_ (i := 24) (N := some 53) #[true, true, true, true, true, true, true, true, true, true, true, true, true, true, true, true, true, true, true, true, true, true, true, true, true, false, false] rfl rfl (one_of HT_.out (by kernel_rfl)) (by decide) (fun K hK => ?_); refine goes_ Try.func60 (by kernel_rfl) rfl #[.float .f64 t397] (by rfl) rfl rfl (by (try simp only [List.map_toArray, List.map_cons, List.map_nil]); first | done | rfl | (simp only [List.length_drop, List.length_take]; rfl)) ?_; (with_reducible refine (r28_Not.calls t397 t398 _ A17.out).mono ?_); rintro e w' ⟨rfl, ⟨nd, rfl⟩⟩; refine ⟨_, rfl, ?_⟩; refine hK.out _ _ ⟨bc_ BK384.out 0, bc_ BK384.out 1, bc_ BK384.out 2⟩ (fun hHeld => ?_); clear hK K; refine norm_ (a' := ?_) ?_ ?_; rotate_left
   ·show Act.put _ (some 53) _ = _
    simp only [Act.put, sa_, sz_, ss_, i64_w, i32_w]; rfl
   refine one_ (i := 25) (N := some 54) #[true, true, true, true, true, true, true, true, true, true, true, true, true, true, true, true, true, true, true, true, true, true, true, true, true, true, false] rfl rfl (one_of HT_.out (by kernel_rfl)) (by decide) (fun K hK => ?_)
   refine Kd.R_lit_step Kd.flt _ 65 ?hg (N := 54) ?hd (xs := ([0, t390, t392, t393, t394, t396, t398] : List Nat)) (inner := [.float .f64 0, .float .f64 t390, .float .f64 t392, .float .f64 t393, .float .f64 t394, .float .f64 t396, .float .f64 t398]) (ok := fun _ => True) (okp := fun _ => True) ?hr ?hp (fun _ hk => hk) trivial (Below.refl _ _) (Nat.le_refl _) (by simp) ?_; (case hd => rfl); (case hg => rfl); (case hr => first | (go_simp; done) | (go_simp; rfl)); (case hp => exact (Reps.one (show Kd.M Kd.flt _ _ _ 0 [.float .f64 0] from rfl) (Reps.one (show Kd.M Kd.flt _ _ _ t390 [.float .f64 t390] from rfl) (Reps.one (show Kd.M Kd.flt _ _ _ t392 [.float .f64 t392] from rfl) (Reps.one (show Kd.M Kd.flt _ _ _ t393 [.float .f64 t393] from rfl) (Reps.one (show Kd.M Kd.flt _ _ _ t394 [.float .f64 t394] from rfl) (Reps.one (show Kd.M Kd.flt _ _ _ t396 [.float .f64 t396] from rfl) (Reps.one (show Kd.M Kd.flt _ _ _ t398 [.float .f64 t398] from rfl) (Reps.none _ _)))))))))
   intro v400 w28 ho29 hb hg_ hnew_; clear hg_ hnew_; (first | rw [← Ny399.out] at ho29 | (simp only [Int.reduceToNat] at ho29; rw [← Ny399.out] at ho29)); have n0_ := am_ (Kd.R_below (kr_ HO383.out) hb); have n1_ := am_ (Kd.S_below (by (with_reducible repeat (first | apply Kd.S_alloc | apply Kd.S_drewN | apply Kd.S_drew)); exact HO388.out) hb); have n2_ := am_ (Kd.R_lower ho29 (below_size (bl_))); have n3_ := am_ (blk_below (bk_ BK384.out) hb); have n4_ := am_ (below_step (bl_) hb); clear HO383; clear HO388; clear BK384; clear HB; have HO383 := n0_; have HO388 := n1_; have HO401 := n2_; have BK384 := n3_; have HB := n4_; clear n0_ n1_ n2_ n3_ n4_; clear hb ho29; refine hK.out _ _ ⟨bc_ BK384.out 0, bc_ BK384.out 1, bc_ BK384.out 2⟩ (fun hHeld => ?_); clear hK K; refine norm_ (a' := ?_) ?_ ?_; rotate_left
   ·show Act.put _ (some 54) _ = _
    simp only [Act.put, sa_, sz_, ss_, i64_w, i32_w]; rfl
   refine pure_ (i := 26) (N := some 14) (v := ?_) (a' := ?_) #[true, true, true, true, true, true, true, true, true, true, true, true, true, true, true, true, true, true, true, true, true, true, true, true, true, true, true] rfl rfl (any_of HT_.out (by kernel_rfl)) (fun _ _ _ h => h) (Or.inl ⟨by rfl, ?_⟩) ?_ ?_; rotate_left
   ·intro w'
    go_simp; (with_reducible rfl)
   rotate_left
   ·simp only [Act.put, sa_, sz_, ss_, i64_w, i32_w]
    rfl
   refine done_ (done_of HT_.out (by kernel_rfl)) ?_; obtain ⟨Ao30, co30, eo30⟩ := Kd.R_slice HO401.out; subst eo30; have p402 : 0 ≤ (a3 : Int) := of_decide_eq_true (as_); have q402 : a3 < (y399.length : Int) := of_decide_eq_true (as_); obtain ⟨ad402, e402, hx402_0⟩ := Kd.at_flt (Kd.R_reads' HO401.out).2.2 a3 p402 q402; cases e402; replace p402 := eq_true p402; replace q402 := eq_true q402
   try go_wp2_with (first | ((with_reducible refine gate_dst (N := 60) rfl ?_); refine Kd.R_lit Kd.flt _ 65 ?hg (N := 60) ?hd (xs := ([t389, rdOf (0 : Nat) y399 a3] : List Nat)) (inner := [.float .f64 t389, .float .f64 (rdOf (0 : Nat) y399 a3)]) (ok := fun _ => True) (okp := fun _ => True) ?hr ?hp (fun _ hk => hk) trivial (Below.refl _ _) (Nat.le_refl _) (by simp) ?_; (case hd => rfl); (case hg => rfl); (case hr => first | (go_simp; done) | (go_simp; rfl)); (case hp => exact (Reps.one (show Kd.M Kd.flt _ _ _ t389 [.float .f64 t389] from rfl) (Reps.one (show Kd.M Kd.flt _ _ _ (rdOf (0 : Nat) y399 a3) [.float .f64 (rdOf (0 : Nat) y399 a3)] from rfl) (Reps.none _ _)))); intro v404 w31 ho32 hb hg_ hnew_; clear hg_ hnew_; (first | rw [← Ny403.out] at ho32 | (simp only [Int.reduceToNat] at ho32; rw [← Ny403.out] at ho32)); have n0_ := am_ (Kd.R_below (kr_ HO383.out) hb); have n1_ := am_ (Kd.S_below (by (with_reducible repeat (first | apply Kd.S_alloc | apply Kd.S_drewN | apply Kd.S_drew)); exact HO388.out) hb); have n2_ := am_ (Kd.R_elder' (kr_ HO401.out) (Kd.R_base ho32) hb); have n3_ := am_ (Kd.R_lower (Kd.R_new' ho32 (Kd.R_lt (kr_ HO401.out))) (below_size (bl_))); have n4_ := am_ (blk_below (bk_ BK384.out) hb); have n5_ := am_ (below_step (bl_) hb); clear HO383; clear HO388; clear HO401; clear BK384; clear HB; have HO383 := n0_; have HO388 := n1_; have HO401 := n2_; have HO405 := n3_; have BK384 := n4_; have HB := n5_; clear n0_ n1_ n2_ n3_ n4_ n5_; clear hb ho32; obtain ⟨Ao33, co33, eo33⟩ := Kd.R_slice HO405.out; subst eo33) | ((with_reducible refine gate_callee (f := 58) rfl ?_); refine goesL_ (some 61) rfl rfl Try.func58 (by kernel_rfl) rfl #[.slice Ao33 y403.length co33] rfl (by (try simp only [List.map_toArray, List.map_cons, List.map_nil]); first | done | rfl | (simp only [List.length_drop, List.length_take]; rfl)) ?_; (with_reducible refine (r28_And.calls _ _ y403 t406 _ ?side1 ?side2 A20.out).mono ?_); (case side1 => repeat (first | exact (Kd.R_reads' HO405.out).2.2 | (with_reducible refine Kd.C_alloc ?_ _) | (with_reducible refine Kd.C_drewN ?_ _) | (with_reducible refine Kd.C_drew ?_))); (case side2 => exact (Kd.R_reads' HO405.out).2.1); rintro e w' ⟨rfl, ⟨nd, rfl⟩⟩; refine ⟨_, rfl, ?_⟩))
   go_ret
   exact ⟨ew_, bl_⟩
  ·rw [if_neg c19] at H
   exact absurd H (by simp)
 ·rw [if_neg c18] at H
  exact absurd H (by simp)
def r29_equal.f (k : Nat) (l0 : List (S103)) (a1 : Int) (a2 : Int) (a3 : Int) (a4 : Int) : Option (Nat) := (r29_column.f k l0 a1 a2).bind fun bt407 => ((r29_column.f k l0 a3 a4).bind fun bt412 => (if bt407.1 > bt412.1 then ((r28_Of.f 1 bt407.1).bind fun t417 => (some t417)) else ((r28_Of.f 1 bt412.1).bind fun t418 => (some t418))))
theorem r29_equal.mono : ∀ a0 a1 a2 a3 a4 k, LeO (r29_equal.f k a0 a1 a2 a3 a4) (r29_equal.f (k + 1) a0 a1 a2 a3 a4) := by
 intro a0 a1 a2 a3 a4 k; unfold r29_equal.f
 repeat' first
   | (with_reducible exact r29_column.mono _ _ _ _)
   | (with_reducible exact LeO.refl _)
   | (with_reducible exact LeO.none _)
   | (with_reducible refine LeO.ite ?_ ?_)
   | (with_reducible refine LeO.bind ?_ (fun _ => ?_))
   | exact r29_column.mono _ _ _ _
   | exact LeO.none _
   | refine LeO.ite ?_ ?_
   | refine LeO.bind ?_ (fun _ => ?_)
theorem r29_equal.calls (k : Nat) (A0 : Option Addr) (c0 : Nat) (l0 : List (S103)) (a1 : Int) (a2 : Int) (a3 : Int) (a4 : Int) (r : Nat) (w : World) (hr0 : Kd.C k103 w A0 l0.length l0) (hc0 : l0.length ≤ c0) (h : r29_equal.f k l0 a1 a2 a3 a4 = some r) :
  Calls Try.prog 66 #[.slice A0 l0.length c0, .int .i64 a1, .int .i64 a2, .int .i64 a3, .int .i64 a4] w fun e w' => e = .returned (.float .f64 r) ∧ Below w.heap.size w w' := by
 have hu116 := Try.underlying116
 have hfd116_0 : ∀ (x0_ x1_ x2_ : Value) (W_ : World), (Instr.field 116 (.agg #[x0_, x1_, x2_]) 0).run Try.prog W_ = .ok x0_ W_ := fun _ _ _ _ => by kernel_rfl
 have HR0 := am_ hr0; have HC0 := am_ hc0; clear hr0 hc0; have HB := am_ (Below.refl w.heap.size w); have H : ((r29_column.f k l0 a1 a2).bind fun bt407 => ((r29_column.f k l0 a3 a4).bind fun bt412 => (if bt407.1 > bt412.1 then ((r28_Of.f 1 bt407.1).bind fun t417 => (some t417)) else ((r28_Of.f 1 bt412.1).bind fun t418 => (some t418))))) = some r := h; clear h; replace H := Option.bind_eq_some_iff.mp H; obtain ⟨⟨t407, t408, t409⟩, A60, H⟩ := H; replace H : ((r29_column.f k l0 a3 a4).bind fun bt412 => (if t407 > bt412.1 then ((r28_Of.f 1 t407).bind fun t417 => (some t417)) else ((r28_Of.f 1 bt412.1).bind fun t418 => (some t418)))) = some r := H; have A6 := am_ A60; clear A60; replace H := Option.bind_eq_some_iff.mp H; obtain ⟨⟨t412, t413, t414⟩, A70, H⟩ := H; replace H : (if t407 > t412 then ((r28_Of.f 1 t407).bind fun t417 => (some t417)) else ((r28_Of.f 1 t412).bind fun t418 => (some t418))) = some r := H; have A7 := am_ A70; clear A70
 by_cases c8 : t407 > t412
 ·rw [if_pos c8] at H
  have c8b0 : decide (t412 < t407) = true := decide_eq_true c8; clear c8; replace H := Option.bind_eq_some_iff.mp H; obtain ⟨t417, A90, H⟩ := H; replace H : (some t417) = some r := H; have A9 := am_ A90; clear A90; obtain rfl := Option.some.inj H
  go_enter Try.func66, Try.ntmps66
  go_wp2_with (first | ((with_reducible refine gate_callee (f := 62) rfl ?_); refine goesL_ (some 16) rfl rfl Try.func62 (by kernel_rfl) rfl #[.slice A0 l0.length c0, .int .i64 a1, .int .i64 a2] rfl (by (try simp only [List.map_toArray, List.map_cons, List.map_nil]); first | done | rfl | (simp only [List.length_drop, List.length_take]; rfl)) ?_; (with_reducible refine (r29_column.calls k _ _ l0 a1 a2 t407 t408 t409 _ ?side1 ?side2 A6.out).mono ?_); (case side1 => repeat (first | exact HR0.out | (with_reducible refine Kd.C_alloc ?_ _) | (with_reducible refine Kd.C_drewN ?_ _) | (with_reducible refine Kd.C_drew ?_))); (case side2 => exact HC0.out); rintro e w10 ⟨v410, rfl, ho0, hb⟩; refine ⟨_, rfl, ?_⟩; have HO411 := am_ (Kd.R_lower ho0 (below_size (bl_))); replace HB := am_ (below_step (bl_) hb); (try clear hb); (try clear hb2); (try clear hk); (try clear hi); (try clear ho0)) | ((with_reducible refine gate_callee (f := 62) rfl ?_); refine goesL_ (some 21) rfl rfl Try.func62 (by kernel_rfl) rfl #[.slice A0 l0.length c0, .int .i64 a3, .int .i64 a4] rfl (by (try simp only [List.map_toArray, List.map_cons, List.map_nil]); first | done | rfl | (simp only [List.length_drop, List.length_take]; rfl)) ?_; (with_reducible refine (r29_column.calls k _ _ l0 a3 a4 t412 t413 t414 _ ?side1 ?side2 A7.out).mono ?_); (case side1 => repeat (first | exact (Kd.C_below HR0.out HB.out) | (with_reducible refine Kd.C_alloc ?_ _) | (with_reducible refine Kd.C_drewN ?_ _) | (with_reducible refine Kd.C_drew ?_))); (case side2 => exact HC0.out); rintro e w11 ⟨v415, rfl, ho0, hb⟩; refine ⟨_, rfl, ?_⟩; have n0_ := am_ (Kd.R_elder' (kr_ HO411.out) (Kd.R_base ho0) hb); have n1_ := am_ (Kd.R_lower (Kd.R_new' ho0 (Kd.R_lt (kr_ HO411.out))) (below_size (bl_))); have n2_ := am_ (below_step (bl_) hb); clear HO411; clear HB; have HO411 := n0_; have HO416 := n1_; have HB := n2_; clear n0_ n1_ n2_; (try clear hb); (try clear hb2); (try clear hk); (try clear hi); (try clear ho0)) | ((with_reducible refine gate_callee (f := 61) rfl ?_); refine goesL_ (some 27) rfl rfl Try.func61 (by kernel_rfl) rfl #[.int .i64 1, .int .i64 t407] rfl (by (try simp only [List.map_toArray, List.map_cons, List.map_nil]); first | done | rfl | (simp only [List.length_drop, List.length_take]; rfl)) ?_; (with_reducible refine (r28_Of.calls 1 t407 t417 _ A9.out).mono ?_); rintro e w' ⟨rfl, ⟨nd, rfl⟩⟩; refine ⟨_, rfl, ?_⟩))
  go_ret
  exact ⟨ew_, bl_⟩
 ·rw [if_neg c8] at H
  have c8b0 : decide (t412 < t407) = false := decide_eq_false c8; clear c8; replace H := Option.bind_eq_some_iff.mp H; obtain ⟨t418, A120, H⟩ := H; replace H : (some t418) = some r := H; have A12 := am_ A120; clear A120; obtain rfl := Option.some.inj H
  go_enter Try.func66, Try.ntmps66
  go_wp2_with (first | ((with_reducible refine gate_callee (f := 62) rfl ?_); refine goesL_ (some 16) rfl rfl Try.func62 (by kernel_rfl) rfl #[.slice A0 l0.length c0, .int .i64 a1, .int .i64 a2] rfl (by (try simp only [List.map_toArray, List.map_cons, List.map_nil]); first | done | rfl | (simp only [List.length_drop, List.length_take]; rfl)) ?_; (with_reducible refine (r29_column.calls k _ _ l0 a1 a2 t407 t408 t409 _ ?side1 ?side2 A6.out).mono ?_); (case side1 => repeat (first | exact HR0.out | (with_reducible refine Kd.C_alloc ?_ _) | (with_reducible refine Kd.C_drewN ?_ _) | (with_reducible refine Kd.C_drew ?_))); (case side2 => exact HC0.out); rintro e w13 ⟨v410, rfl, ho0, hb⟩; refine ⟨_, rfl, ?_⟩; have HO411 := am_ (Kd.R_lower ho0 (below_size (bl_))); replace HB := am_ (below_step (bl_) hb); (try clear hb); (try clear hb2); (try clear hk); (try clear hi); (try clear ho0)) | ((with_reducible refine gate_callee (f := 62) rfl ?_); refine goesL_ (some 21) rfl rfl Try.func62 (by kernel_rfl) rfl #[.slice A0 l0.length c0, .int .i64 a3, .int .i64 a4] rfl (by (try simp only [List.map_toArray, List.map_cons, List.map_nil]); first | done | rfl | (simp only [List.length_drop, List.length_take]; rfl)) ?_; (with_reducible refine (r29_column.calls k _ _ l0 a3 a4 t412 t413 t414 _ ?side1 ?side2 A7.out).mono ?_); (case side1 => repeat (first | exact (Kd.C_below HR0.out HB.out) | (with_reducible refine Kd.C_alloc ?_ _) | (with_reducible refine Kd.C_drewN ?_ _) | (with_reducible refine Kd.C_drew ?_))); (case side2 => exact HC0.out); rintro e w14 ⟨v415, rfl, ho0, hb⟩; refine ⟨_, rfl, ?_⟩; have n0_ := am_ (Kd.R_elder' (kr_ HO411.out) (Kd.R_base ho0) hb); have n1_ := am_ (Kd.R_lower (Kd.R_new' ho0 (Kd.R_lt (kr_ HO411.out))) (below_size (bl_))); have n2_ := am_ (below_step (bl_) hb); clear HO411; clear HB; have HO411 := n0_; have HO416 := n1_; have HB := n2_; clear n0_ n1_ n2_; (try clear hb); (try clear hb2); (try clear hk); (try clear hi); (try clear ho0)) | ((with_reducible refine gate_callee (f := 61) rfl ?_); refine goesL_ (some 29) rfl rfl Try.func61 (by kernel_rfl) rfl #[.int .i64 1, .int .i64 t412] rfl (by (try simp only [List.map_toArray, List.map_cons, List.map_nil]); first | done | rfl | (simp only [List.length_drop, List.length_take]; rfl)) ?_; (with_reducible refine (r28_Of.calls 1 t412 t418 _ A12.out).mono ?_); rintro e w' ⟨rfl, ⟨nd, rfl⟩⟩; refine ⟨_, rfl, ?_⟩))
  go_ret
  exact ⟨ew_, bl_⟩
end Go.Proofs.Ytcfgjaggccnoaaa.PCostShares
namespace Go.Proofs.Ytcfgjaggccnoaaa.PCostShares
open Go.RowKit Go.Proofs.YtcfgjaggccnoaaaW.PrintWords Go.Proofs.YtcfgjaggccnoaaaW.PrintLast Go.Proofs.YtcfgjaggccnoaaaW.PrintMore
attribute [local go_sem] max2_int min2_int max_two min_two max_three min_three max_four min_four
set_option linter.unusedVariables false
set_option maxHeartbeats 8000000
set_option linter.unusedSimpArgs false
set_option maxRecDepth 100000
def r29_Share.F : Nat → S27 → List S103 → Option Nat
 | 0, _, _ => none
 | k + 1, x, st =>
  if x.f0 = 10 ∧ x.f6.length = 2 then (r29_Share.F k (rd_T27 x.f6 0) st).bind fun a => (r29_Share.F k (rd_T27 x.f6 1) st).bind fun b => r28_And.f [a, b]
  else if x.f0 = 11 ∧ x.f6.length = 2 then (r29_Share.F k (rd_T27 x.f6 0) st).bind fun a => (r29_Share.F k (rd_T27 x.f6 1) st).bind fun b => r28_Or.f a b
  else if x.f0 = 12 ∧ x.f6.length = 1 then (r29_Share.F k (rd_T27 x.f6 0) st).bind fun a => r28_Not.f a
  else if x.f6.length = 1 ∧ (x.f0 = 13 ∨ x.f0 = 14) ∧ (rd_T27 x.f6 0).f0 = 15 then
   (r29_column.f k st (rd_T27 x.f6 0).f3 (rd_T27 x.f6 0).f4).bind fun c => (r29_Said.f k st (rd_T27 x.f6 0).f3).bind fun s => (r28_Of.f c.2.1 s.1).bind fun v => if x.f0 = 14 then r28_Not.f v else some v
  else if x.f6.length ≠ 2 ∨ x.f0 < 1 ∨ 6 < x.f0 then some 4602678819172646912
  else if (rd_T27 x.f6 0).f0 = 15 ∧ (rd_T27 x.f6 1).f0 = 16 ∧ (rd_T27 x.f6 1).f5.f0 = 1 then r29_against.f k st (rd_T27 x.f6 0).f3 (rd_T27 x.f6 0).f4 x.f0 (rd_T27 x.f6 1).f5.f1
  else if (rd_T27 x.f6 1).f0 = 15 ∧ (rd_T27 x.f6 0).f0 = 16 ∧ (rd_T27 x.f6 0).f5.f0 = 1 then r29_against.f k st (rd_T27 x.f6 1).f3 (rd_T27 x.f6 1).f4 (rd [0, 1, 2, 5, 6, 3, 4] x.f0) (rd_T27 x.f6 0).f5.f1
  else if (rd_T27 x.f6 0).f0 = 15 ∧ (rd_T27 x.f6 1).f0 = 15 ∧ x.f0 = 1 then r29_equal.f k st (rd_T27 x.f6 0).f3 (rd_T27 x.f6 0).f4 (rd_T27 x.f6 1).f3 (rd_T27 x.f6 1).f4
  else some 4602678819172646912
def r29_Share.f (k : Nat) (a0_0 : Int) (a0_1 : ByteArray) (a0_2 : ByteArray) (a0_3 : Int) (a0_4 : Int) (a0_5 : Int) (a0_6 : Int) (a0_7 : ByteArray) (l0_8 : List S27) (l1 : List S103) : Option Nat := r29_Share.F k ⟨a0_0, a0_1, a0_2, a0_3, a0_4, ⟨a0_5, a0_6, a0_7⟩, l0_8⟩ l1
theorem r29_Share.bm {α β : Type} {a a' : Option α} {f f' : α → Option β} {r : β} (h : a.bind f = some r) (ha : ∀ y, a = some y → a' = some y) (hf : ∀ y, f y = some r → f' y = some r) : a'.bind f' = some r := by
 obtain ⟨y, h1, h2⟩ := Option.bind_eq_some_iff.1 h; rw [ha y h1]; exact hf y h2
theorem r29_Share.monoF : ∀ (k : Nat) (x : S27) (st : List S103) (r : Nat), r29_Share.F k x st = some r → r29_Share.F (k + 1) x st = some r
 | 0, x, st, r, h => by cases h
 | k + 1, x, st, r, h => by
  have ih := r29_Share.monoF k; rw [r29_Share.F] at h ⊢
  split at h
  ·rename_i c
   rw [if_pos c]
   exact r29_Share.bm h (fun y => ih _ _ y) fun y h => r29_Share.bm h (fun y => ih _ _ y) fun y h => h
  ·rename_i c
   rw [if_neg c]
   split at h
   ·rename_i c
    rw [if_pos c]
    exact r29_Share.bm h (fun y => ih _ _ y) fun y h => r29_Share.bm h (fun y => ih _ _ y) fun y h => h
   ·rename_i c
    rw [if_neg c]
    split at h
    ·rename_i c
     rw [if_pos c]
     exact r29_Share.bm h (fun y => ih _ _ y) fun y h => h
    ·rename_i c
     rw [if_neg c]
     split at h
     ·rename_i c
      rw [if_pos c]
      exact r29_Share.bm h (fun y => r29_column.mono _ _ _ _ y) fun y h => r29_Share.bm h (fun y => r29_Said.mono _ _ _ y) fun y h => h
     ·rename_i c
      rw [if_neg c]
      split at h
      ·rename_i c
       rw [if_pos c]; exact h
      ·rename_i c
       rw [if_neg c]
       split at h
       ·rename_i c
        rw [if_pos c]; exact r29_against.mono _ _ _ _ _ _ _ h
       ·rename_i c
        rw [if_neg c]
        split at h
        ·rename_i c
         rw [if_pos c]; exact r29_against.mono _ _ _ _ _ _ _ h
        ·rename_i c
         rw [if_neg c]
         split at h
         ·rename_i c
          rw [if_pos c]; exact r29_equal.mono _ _ _ _ _ _ _ h
         ·rename_i c
          rw [if_neg c]; exact h
theorem r29_Share.mono : ∀ a0 a1 a2 a3 a4 a5 a6 a7 a8 a9 k, LeO (r29_Share.f k a0 a1 a2 a3 a4 a5 a6 a7 a8 a9) (r29_Share.f (k + 1) a0 a1 a2 a3 a4 a5 a6 a7 a8 a9) := fun _ _ _ _ _ _ _ _ _ _ k r h => r29_Share.monoF k _ _ r h
def r29_Share.Ok (k : Nat) (st : List S103) : Prop := ∀ (x : S27) (A0 A1 : Option Addr) (c0 c1 : Nat) (r : Nat) (w : World), Kd.C k27 w A0 x.f6.length x.f6 → x.f6.length ≤ c0 → Kd.C k103 w A1 st.length st → st.length ≤ c1 → r29_Share.F k x st = some r → Calls Try.prog 27 #[.agg #[.int .i64 x.f0, .string x.f1, .string x.f2, .int .i64 x.f3, .int .i64 x.f4, .int .i64 x.f5.f0, .int .i64 x.f5.f1, .string x.f5.f2, .slice A0 x.f6.length c0], .slice A1 st.length c1] w fun e w' => e = .returned (.float .f64 r) ∧ Below w.heap.size w w'
theorem r29_Share.boxV {P : Program} {ops : Array Oper} {Q : Exit → Act → World → Prop} {oi : Oper} {N : Tmp} {a : Act} {w : World} {K : Act → World → Prop} {cs : Array Value} {t : TypeId} (hw : Region.wanted oi (yielded ops a.tmps) = true) (hN : oi.dst = some N) (hrun : (execOp a.eval oi).run P w = .ok (.value (.pointer (some ⟨w.heap.size, 0, none⟩))) (w.alloc (.cells cs t (0, 0))))
  (h : ∀ g, g = w.heap.size → ∀ w1, w1.heap[g]? = some (.cells cs t (0, 0)) → Below w.heap.size w w1 → K (a.put (some N) (.pointer (some ⟨g, 0, none⟩))) w1) : if Region.wanted oi (yielded ops a.tmps) = true then Oper.wp P oi a w K Q else K (a.put (some N) undef) w :=
 value_ hw hN hrun (h _ rfl _ (blk_new w _) (below_alloc (Below.refl _ _) _))
def r29_Share.st9 (W : World) (g : Nat) (v0 v1 v2 v3 v4 v5 v6 v7 v8 : Value) : World := ((((((((W.setCell ⟨g, 0, none⟩ v0).setCell ⟨g, 1, none⟩ v1).setCell ⟨g, 2, none⟩ v2).setCell ⟨g, 3, none⟩ v3).setCell ⟨g, 4, none⟩ v4).setCell ⟨g, 5, none⟩ v5).setCell ⟨g, 6, none⟩ v6).setCell ⟨g, 7, none⟩ v7).setCell ⟨g, 8, none⟩ v8
theorem r29_Share.st_blk {W : World} {g t : Nat} {c0 c1 c2 c3 c4 c5 c6 c7 c8 v0 v1 v2 v3 v4 v5 v6 v7 v8 : Value} (hb : W.heap[g]? = some (.cells #[c0, c1, c2, c3, c4, c5, c6, c7, c8] t (0, 0))) : (r29_Share.st9 W g v0 v1 v2 v3 v4 v5 v6 v7 v8).heap[g]? = some (.cells #[v0, v1, v2, v3, v4, v5, v6, v7, v8] t (0, 0)) := by
 unfold r29_Share.st9; replace hb := blk_put (cs := #[c0, c1, c2, c3, c4, c5, c6, c7, c8]) (cs' := #[v0, c1, c2, c3, c4, c5, c6, c7, c8]) hb 0 v0 rfl; replace hb := blk_put (cs := #[v0, c1, c2, c3, c4, c5, c6, c7, c8]) (cs' := #[v0, v1, c2, c3, c4, c5, c6, c7, c8]) hb 1 v1 rfl; replace hb := blk_put (cs := #[v0, v1, c2, c3, c4, c5, c6, c7, c8]) (cs' := #[v0, v1, v2, c3, c4, c5, c6, c7, c8]) hb 2 v2 rfl; replace hb := blk_put (cs := #[v0, v1, v2, c3, c4, c5, c6, c7, c8]) (cs' := #[v0, v1, v2, v3, c4, c5, c6, c7, c8]) hb 3 v3 rfl; replace hb := blk_put (cs := #[v0, v1, v2, v3, c4, c5, c6, c7, c8]) (cs' := #[v0, v1, v2, v3, v4, c5, c6, c7, c8]) hb 4 v4 rfl; replace hb := blk_put (cs := #[v0, v1, v2, v3, v4, c5, c6, c7, c8]) (cs' := #[v0, v1, v2, v3, v4, v5, c6, c7, c8]) hb 5 v5 rfl; replace hb := blk_put (cs := #[v0, v1, v2, v3, v4, v5, c6, c7, c8]) (cs' := #[v0, v1, v2, v3, v4, v5, v6, c7, c8]) hb 6 v6 rfl; replace hb := blk_put (cs := #[v0, v1, v2, v3, v4, v5, v6, c7, c8]) (cs' := #[v0, v1, v2, v3, v4, v5, v6, v7, c8]) hb 7 v7 rfl; replace hb := blk_put (cs := #[v0, v1, v2, v3, v4, v5, v6, v7, c8]) (cs' := #[v0, v1, v2, v3, v4, v5, v6, v7, v8]) hb 8 v8 rfl; exact hb
theorem r29_Share.st_far {W : World} {g k : Nat} {v0 v1 v2 v3 v4 v5 v6 v7 v8 : Value} (h : k ≠ g) : (r29_Share.st9 W g v0 v1 v2 v3 v4 v5 v6 v7 v8).heap[k]? = W.heap[k]? := by
 unfold r29_Share.st9
 repeat (rw [Below.heap_setCell _ _ _ k (by exact h)])
theorem r29_Share.st_below {W : World} {g b : Nat} {v0 v1 v2 v3 v4 v5 v6 v7 v8 : Value} (h : b ≤ g) : Below b W (r29_Share.st9 W g v0 v1 v2 v3 v4 v5 v6 v7 v8) := by
 unfold r29_Share.st9
 repeat (refine Below.setCell ?_ h _)
 exact Below.refl b W
theorem r29_Share.one_in {w W : World} {n a : Nat} {v0 v1 v2 v3 v4 v5 v6 v7 v8 c0 c1 c2 c3 c4 c5 c6 c7 c8 : Value} {t : Nat} (hB : Below n w W) (ha : n ≤ a) (h1 : W.heap[a]? = some (.cells #[c0, c1, c2, c3, c4, c5, c6, c7, c8] t (0, 0))) :
  ∃ V, V = r29_Share.st9 W a v0 v1 v2 v3 v4 v5 v6 v7 v8 ∧ V.heap[a]? = some (.cells #[v0, v1, v2, v3, v4, v5, v6, v7, v8] t (0, 0)) ∧ (∀ k, k ≠ a → V.heap[k]? = W.heap[k]?) ∧ Below n w V :=
 ⟨_, rfl, r29_Share.st_blk h1, fun _ h => r29_Share.st_far h, hB.trans (r29_Share.st_below ha)⟩
theorem r29_Share.and_ {x : S27} {st : List S103} {A0 A1 : Option Addr} {c0 c1 : Nat} {w : World} (hx : Kd.C k27 w A0 x.f6.length x.f6) (hc0 : x.f6.length ≤ c0) (hs : Kd.C k103 w A1 st.length st) (hc1 : st.length ≤ c1) {k : Nat} (ih : r29_Share.Ok k st) {a b r : Nat} (h0 : x.f0 = 10) (hl : x.f6.length = 2) (ha : r29_Share.F k (rd_T27 x.f6 0) st = some a) (hb : r29_Share.F k (rd_T27 x.f6 1) st = some b) (hk : r28_And.f [a, b] = some r) :
  Calls Try.prog 27 #[.agg #[.int .i64 x.f0, .string x.f1, .string x.f2, .int .i64 x.f3, .int .i64 x.f4, .int .i64 x.f5.f0, .int .i64 x.f5.f1, .string x.f5.f2, .slice A0 x.f6.length c0], .slice A1 st.length c1] w fun e w' => e = .returned (.float .f64 r) ∧ Below w.heap.size w w' := by
 have HX := Lib.hid hx; have HS := Lib.hid hs; have HC := Lib.hid (And.intro hc0 hc1); have IH := Lib.hid ih; have HA := Lib.hid ha; have HB := Lib.hid hb; have HK := Lib.hid hk
 have n2 : ((x.f6.length : Int) == 2) = true := beq_iff_eq.2 (by omega); have n2' : ((x.f6.length : Int) != 2) = false := bne_eq_false_iff_eq.2 (by omega); have n1 : ((x.f6.length : Int) == 1) = false := beq_eq_false_iff_ne.2 (by omega); have o10 : (x.f0 == 10) = true := beq_iff_eq.2 (by omega)
 have hl2 : (x.f6.length : Int) = 2 := by omega
 clear hx hs hc0 hc1 ih ha hb hk h0
 go_enter Try.func27, Try.ntmps27
 go_wp2_with (((with_reducible refine gate_dst (N := 2) rfl ?_); refine box_event ?hg (N := 2) ?hd (cs := #[.int .i64 x.f0, .string x.f1, .string x.f2, .int .i64 x.f3, .int .i64 x.f4, .int .i64 x.f5.f0, .int .i64 x.f5.f1, .string x.f5.f2, .slice A0 x.f6.length c0]) (t := 27) ?hr ?_; (case hd => rfl); (case hg => rfl); (case hr => first | (go_simp; done) | (go_simp; rfl)); intro g hg_ wb hb_ hl_; have BK := Lib.hid hb_; have BB := Lib.hid hl_; have HG := Lib.hid (Nat.le_of_eq hg_.symm); obtain ⟨p0, p1, p2, p3, p4, p5, p6, p7, p8, q0, q1, q2, q3, q4, q5, q6, q7, q8⟩ := bw9_  hb_; clear hb_ hl_ hg_; simp only [Act.put, sa_, sz_, ss_]))
 have m0 : (Int.toNat 0 * 9) = 0 := rfl; have m1 : (Int.toNat 1 * 9) = 9 := rfl; obtain ⟨ada, Ga, da, ea, xa0, xa1, xa2, xa3, xa4, xa5, xa6, xa7, xa8, la, ia⟩ := at_T27 (Kd.C_below HX.out BB.out) 0 (by decide) (by omega); subst ea; obtain ⟨adb, Gb, db, eb, xb0, xb1, xb2, xb3, xb4, xb5, xb6, xb7, xb8, lb, ib⟩ := at_T27 (Kd.C_below HX.out BB.out) 1 (by decide) (by omega)
 obtain rfl : ada = adb := by injection eb
 clear eb
 have LA := Lib.hid (And.intro la ia); have LB := Lib.hid (And.intro lb ib); clear la ia lb ib
 have z0 : ada.add 0 = ada := by cases ada; simp [Addr.add]
 have z9 : ada.add 9 = ⟨ada.block, ada.off + 9, none⟩ := by have h := add_field ada 0 9 (by decide); rw [z0] at h; exact h
 simp only [m0, m1, z0, z9] at xa0 xa1 xa2 xa3 xa4 xa5 xa6 xa7 xa8 xb0 xb1 xb2 xb3 xb4 xb5 xb6 xb7 xb8; refine start_ (n := 15) (S := fun w' => Below wb.heap.size wb w') (ds := []) #[false, false, false, false, false, false, false, false, false, false, false, false, false, false, false] (by kernel_rfl) rfl rfl (Below.drew (Below.refl _ _)) (fun hHeld => ?_)
 generalize wb.drew = wc at hHeld ⊢
 refine pure_ (i := 0) (N := some 20) (v := ?_) (a' := ?_) #[true, false, false, false, false, false, false, false, false, false, false, false, false, false, false] rfl rfl (by kernel_rfl) (fun _ _ _ h => h) (Or.inl ⟨by rfl, ?_⟩) ?_ ?_; rotate_left
 ·intro w'
  go_simp; (with_reducible rfl)
 rotate_left
 ·simp only [Act.put, sa_, sz_, ss_, i64_w, i32_w]
  rfl
 refine take_ (i := 1) (N := some 21) (v := ?_) (a' := ?_) #[true, true, false, false, false, false, false, false, false, false, false, false, false, false, false] rfl rfl (by kernel_rfl) (fun _ _ _ h => h) (Or.inl ⟨by rfl, ?_⟩) hHeld ?_ ?_; rotate_left
 ·intro w' hS; obtain ⟨p0, p1, p2, p3, p4, p5, p6, p7, p8, q0, q1, q2, q3, q4, q5, q6, q7, q8⟩ := bw9_ (blk_below BK.out hS); go_simp; (with_reducible rfl)
 rotate_left
 ·simp only [Act.put, sa_, sz_, ss_, i64_w, i32_w]
  rfl
 refine pure_ (i := 2) (N := some 22) (v := ?_) (a' := ?_) #[true, true, true, false, false, false, false, false, false, false, false, false, false, false, false] rfl rfl (by kernel_rfl) (fun _ _ _ h => h) (Or.inl ⟨by rfl, ?_⟩) ?_ ?_; rotate_left
 ·intro w'
  go_simp; (with_reducible rfl)
 rotate_left
 ·simp only [Act.put, sa_, sz_, ss_, i64_w, i32_w]
  rfl
 refine take_ (i := 3) (N := some 23) (v := ?_) (a' := ?_) #[true, true, true, true, false, false, false, false, false, false, false, false, false, false, false] rfl rfl (by kernel_rfl) (fun _ _ _ h => h) (Or.inl ⟨by rfl, ?_⟩) hHeld ?_ ?_; rotate_left
 ·intro w' hS; have ua0 := pw_cell_below hS xa0; have ua1 := pw_cell_below hS xa1; have ua2 := pw_cell_below hS xa2; have ua3 := pw_cell_below hS xa3; have ua4 := pw_cell_below hS xa4; have ua5 := pw_cell_below hS xa5; have ua6 := pw_cell_below hS xa6; have ua7 := pw_cell_below hS xa7; have ua8 := pw_cell_below hS xa8; go_simp; (with_reducible rfl)
 rotate_left
 ·simp only [Act.put, sa_, sz_, ss_, i64_w, i32_w]
  rfl
 refine pure_ (i := 4) (N := some 24) (v := ?_) (a' := ?_) #[true, true, true, true, true, false, false, false, false, false, false, false, false, false, false] rfl rfl (by kernel_rfl) (fun _ _ _ h => h) (Or.inl ⟨by rfl, ?_⟩) ?_ ?_; rotate_left
 ·intro w'
  go_simp; (with_reducible rfl)
 rotate_left
 ·simp only [Act.put, sa_, sz_, ss_, i64_w, i32_w]
  rfl
 refine pure_ (i := 6) (N := some 26) (v := ?_) (a' := ?_) #[true, true, true, true, true, false, true, false, false, false, false, false, false, false, false] rfl rfl (by kernel_rfl) (fun _ _ _ h => h) (Or.inl ⟨by rfl, ?_⟩) ?_ ?_; rotate_left
 ·intro w'
  go_simp; (with_reducible rfl)
 rotate_left
 ·simp only [Act.put, sa_, sz_, ss_, i64_w, i32_w]
  rfl
 refine take_ (i := 7) (N := some 27) (v := ?_) (a' := ?_) #[true, true, true, true, true, false, true, true, false, false, false, false, false, false, false] rfl rfl (by kernel_rfl) (fun _ _ _ h => h) (Or.inl ⟨by rfl, ?_⟩) hHeld ?_ ?_; rotate_left
 ·intro w' hS; obtain ⟨p0, p1, p2, p3, p4, p5, p6, p7, p8, q0, q1, q2, q3, q4, q5, q6, q7, q8⟩ := bw9_ (blk_below BK.out hS); go_simp; (with_reducible rfl)
 rotate_left
 ·simp only [Act.put, sa_, sz_, ss_, i64_w, i32_w]
  rfl
 refine pure_ (i := 8) (N := some 28) (v := ?_) (a' := ?_) #[true, true, true, true, true, false, true, true, true, false, false, false, false, false, false] rfl rfl (by kernel_rfl) (fun _ _ _ h => h) (Or.inl ⟨by rfl, ?_⟩) ?_ ?_; rotate_left
 ·intro w'
  go_simp; (with_reducible rfl)
 rotate_left
 ·simp only [Act.put, sa_, sz_, ss_, i64_w, i32_w]
  rfl
 refine take_ (i := 9) (N := some 29) (v := ?_) (a' := ?_) #[true, true, true, true, true, false, true, true, true, true, false, false, false, false, false] rfl rfl (by kernel_rfl) (fun _ _ _ h => h) (Or.inl ⟨by rfl, ?_⟩) hHeld ?_ ?_; rotate_left
 ·intro w' hS; have ub0 := pw_cell_below hS xb0; have ub1 := pw_cell_below hS xb1; have ub2 := pw_cell_below hS xb2; have ub3 := pw_cell_below hS xb3; have ub4 := pw_cell_below hS xb4; have ub5 := pw_cell_below hS xb5; have ub6 := pw_cell_below hS xb6; have ub7 := pw_cell_below hS xb7; have ub8 := pw_cell_below hS xb8; go_simp; (with_reducible rfl)
 rotate_left
 ·simp only [Act.put, sa_, sz_, ss_, i64_w, i32_w]
  rfl
 refine pure_ (i := 10) (N := some 30) (v := ?_) (a' := ?_) #[true, true, true, true, true, false, true, true, true, true, true, false, false, false, false] rfl rfl (by kernel_rfl) (fun _ _ _ h => h) (Or.inl ⟨by rfl, ?_⟩) ?_ ?_; rotate_left
 ·intro w'
  go_simp; (with_reducible rfl)
 rotate_left
 ·simp only [Act.put, sa_, sz_, ss_, i64_w, i32_w]
  rfl
 refine one_ (i := 5) (N := some 25) #[true, true, true, true, true, true, true, true, true, true, true, false, false, false, false] rfl rfl (by kernel_rfl) (by decide) (fun K hK => ?_); refine goes_ Try.func27 (by kernel_rfl) rfl #[.agg #[.int .i64 (rd_T27 x.f6 0).f0, .string (rd_T27 x.f6 0).f1, .string (rd_T27 x.f6 0).f2, .int .i64 (rd_T27 x.f6 0).f3, .int .i64 (rd_T27 x.f6 0).f4, .int .i64 (rd_T27 x.f6 0).f5.f0, .int .i64 (rd_T27 x.f6 0).f5.f1, .string (rd_T27 x.f6 0).f5.f2, .slice Ga (rd_T27 x.f6 0).f6.length da], .slice A1 st.length c1] (by rfl) rfl rfl (by (try simp only [List.map_toArray, List.map_cons, List.map_nil]); first | done | rfl) ?_; refine (IH.out (rd_T27 x.f6 0) Ga A1 da c1 _ _ (Kd.C_below LA.out.2 hHeld) LA.out.1 (Kd.C_below HS.out (below_step BB.out hHeld)) HC.out.2 HA.out).mono ?_; rintro e' w1 ⟨rfl, hb_⟩; refine ⟨_, rfl, ?_⟩; have X1 := Lib.hid (below_step hHeld hb_); clear hb_; refine hK.out _ _ (X1.out) (fun hHeld => ?_); clear hK K; refine norm_ (a' := ?_) ?_ ?_; rotate_left
 ·show Act.put _ (some 25) _ = _
  simp only [Act.put, sa_, sz_, ss_, i64_w, i32_w]; rfl
 refine one_ (i := 11) (N := some 31) #[true, true, true, true, true, true, true, true, true, true, true, true, false, false, false] rfl rfl (by kernel_rfl) (by decide) (fun K hK => ?_); refine goes_ Try.func27 (by kernel_rfl) rfl #[.agg #[.int .i64 (rd_T27 x.f6 1).f0, .string (rd_T27 x.f6 1).f1, .string (rd_T27 x.f6 1).f2, .int .i64 (rd_T27 x.f6 1).f3, .int .i64 (rd_T27 x.f6 1).f4, .int .i64 (rd_T27 x.f6 1).f5.f0, .int .i64 (rd_T27 x.f6 1).f5.f1, .string (rd_T27 x.f6 1).f5.f2, .slice Gb (rd_T27 x.f6 1).f6.length db], .slice A1 st.length c1] (by rfl) rfl rfl (by (try simp only [List.map_toArray, List.map_cons, List.map_nil]); first | done | rfl) ?_; refine (IH.out (rd_T27 x.f6 1) Gb A1 db c1 _ _ (Kd.C_below LB.out.2 hHeld) LB.out.1 (Kd.C_below HS.out (below_step BB.out hHeld)) HC.out.2 HB.out).mono ?_; rintro e' w2 ⟨rfl, hb_⟩; refine ⟨_, rfl, ?_⟩; have X2 := Lib.hid (below_step hHeld hb_); clear hb_; refine hK.out _ _ (X2.out) (fun hHeld => ?_); clear hK K; refine norm_ (a' := ?_) ?_ ?_; rotate_left
 ·show Act.put _ (some 31) _ = _
  simp only [Act.put, sa_, sz_, ss_, i64_w, i32_w]; rfl
 refine one_ (i := 12) (N := some 32) #[true, true, true, true, true, true, true, true, true, true, true, true, true, false, false] rfl rfl (by kernel_rfl) (by decide) (fun K hK => ?_); refine Kd.R_lit_step Kd.flt _ 65 ?hg (N := 32) ?hd (xs := ([a, b] : List Nat)) (inner := [.float .f64 a, .float .f64 b]) (ok := fun _ => True) (okp := fun _ => True) ?hr ?hp (fun _ hk => hk) trivial (Below.refl _ _) (Nat.le_refl _) (by simp) ?_; (case hd => rfl); (case hg => rfl); (case hr => first | (go_simp; done) | (go_simp; rfl)); (case hp => exact (Reps.one (show Kd.M Kd.flt _ _ _ a [.float .f64 a] from rfl) (Reps.one (show Kd.M Kd.flt _ _ _ b [.float .f64 b] from rfl) (Reps.none _ _)))); intro v_ wl hr_ hb_ hg_ hn_; clear hg_ hn_; obtain ⟨ZA, ZC, hv_⟩ := Kd.R_slice hr_; subst hv_; have RL := Lib.hid hr_; have X3 := Lib.hid (below_step hHeld hb_); clear hr_ hb_; refine hK.out _ _ (X3.out) (fun hHeld => ?_); clear hK K; refine norm_ (a' := ?_) ?_ ?_; rotate_left
 ·show Act.put _ (some 32) _ = _
  simp only [Act.put, sa_, sz_, ss_, i64_w, i32_w]; rfl
 refine one_ (i := 13) (N := some 33) #[true, true, true, true, true, true, true, true, true, true, true, true, true, true, false] rfl rfl (by kernel_rfl) (by decide) (fun K hK => ?_); refine goes_ Try.func58 (by kernel_rfl) rfl #[.slice ZA 2 ZC] (by rfl) rfl rfl (by (try simp only [List.map_toArray, List.map_cons, List.map_nil]); first | done | rfl) ?_; refine (r28_And.calls ZA ZC [a, b] r _ (Kd.R_reads' RL.out).2.2 (Kd.R_reads' RL.out).2.1 HK.out).mono ?_; rintro e' w4 ⟨rfl, hd_⟩; refine ⟨_, rfl, ?_⟩; have X4 := Lib.hid (below_step hHeld (Drawn0.below hd_)); clear hd_; refine hK.out _ _ (X4.out) (fun hHeld => ?_); clear hK K; refine norm_ (a' := ?_) ?_ ?_; rotate_left
 ·show Act.put _ (some 33) _ = _
  simp only [Act.put, sa_, sz_, ss_, i64_w, i32_w]; rfl
 refine pure_ (i := 14) (N := some 4) (v := ?_) (a' := ?_) #[true, true, true, true, true, true, true, true, true, true, true, true, true, true, true] rfl rfl (by kernel_rfl) (fun _ _ _ h => h) (Or.inl ⟨by rfl, ?_⟩) ?_ ?_; rotate_left
 ·intro w'
  go_simp; (with_reducible rfl)
 rotate_left
 ·simp only [Act.put, sa_, sz_, ss_, i64_w, i32_w]
  rfl
 refine done_ (by kernel_rfl) ?_
 try go_wp2
 go_ret
 exact ⟨rfl, below_step BB.out X4.out⟩
theorem r29_Share.or_ {x : S27} {st : List S103} {A0 A1 : Option Addr} {c0 c1 : Nat} {w : World} (hx : Kd.C k27 w A0 x.f6.length x.f6) (hc0 : x.f6.length ≤ c0) (hs : Kd.C k103 w A1 st.length st) (hc1 : st.length ≤ c1) {k : Nat} (ih : r29_Share.Ok k st) {a b r : Nat} (h0 : x.f0 = 11) (hl : x.f6.length = 2) (ha : r29_Share.F k (rd_T27 x.f6 0) st = some a) (hb : r29_Share.F k (rd_T27 x.f6 1) st = some b) (hk : r28_Or.f a b = some r) :
  Calls Try.prog 27 #[.agg #[.int .i64 x.f0, .string x.f1, .string x.f2, .int .i64 x.f3, .int .i64 x.f4, .int .i64 x.f5.f0, .int .i64 x.f5.f1, .string x.f5.f2, .slice A0 x.f6.length c0], .slice A1 st.length c1] w fun e w' => e = .returned (.float .f64 r) ∧ Below w.heap.size w w' := by
 have HX := Lib.hid hx; have HS := Lib.hid hs; have HC := Lib.hid (And.intro hc0 hc1); have IH := Lib.hid ih; have HA := Lib.hid ha; have HB := Lib.hid hb; have HK := Lib.hid hk
 have n2 : ((x.f6.length : Int) == 2) = true := beq_iff_eq.2 (by omega); have n2' : ((x.f6.length : Int) != 2) = false := bne_eq_false_iff_eq.2 (by omega); have n1 : ((x.f6.length : Int) == 1) = false := beq_eq_false_iff_ne.2 (by omega); have o10 : (x.f0 == 10) = false := beq_eq_false_iff_ne.2 (by omega); have o11 : (x.f0 == 11) = true := beq_iff_eq.2 (by omega)
 have hl2 : (x.f6.length : Int) = 2 := by omega
 clear hx hs hc0 hc1 ih ha hb hk h0
 go_enter Try.func27, Try.ntmps27
 go_wp2_with (((with_reducible refine gate_dst (N := 2) rfl ?_); refine box_event ?hg (N := 2) ?hd (cs := #[.int .i64 x.f0, .string x.f1, .string x.f2, .int .i64 x.f3, .int .i64 x.f4, .int .i64 x.f5.f0, .int .i64 x.f5.f1, .string x.f5.f2, .slice A0 x.f6.length c0]) (t := 27) ?hr ?_; (case hd => rfl); (case hg => rfl); (case hr => first | (go_simp; done) | (go_simp; rfl)); intro g hg_ wb hb_ hl_; have BK := Lib.hid hb_; have BB := Lib.hid hl_; have HG := Lib.hid (Nat.le_of_eq hg_.symm); obtain ⟨p0, p1, p2, p3, p4, p5, p6, p7, p8, q0, q1, q2, q3, q4, q5, q6, q7, q8⟩ := bw9_  hb_; clear hb_ hl_ hg_; simp only [Act.put, sa_, sz_, ss_]))
 have m0 : (Int.toNat 0 * 9) = 0 := rfl; have m1 : (Int.toNat 1 * 9) = 9 := rfl; obtain ⟨ada, Ga, da, ea, xa0, xa1, xa2, xa3, xa4, xa5, xa6, xa7, xa8, la, ia⟩ := at_T27 (Kd.C_below HX.out BB.out) 0 (by decide) (by omega); subst ea; obtain ⟨adb, Gb, db, eb, xb0, xb1, xb2, xb3, xb4, xb5, xb6, xb7, xb8, lb, ib⟩ := at_T27 (Kd.C_below HX.out BB.out) 1 (by decide) (by omega)
 obtain rfl : ada = adb := by injection eb
 clear eb
 have LA := Lib.hid (And.intro la ia); have LB := Lib.hid (And.intro lb ib); clear la ia lb ib
 have z0 : ada.add 0 = ada := by cases ada; simp [Addr.add]
 have z9 : ada.add 9 = ⟨ada.block, ada.off + 9, none⟩ := by have h := add_field ada 0 9 (by decide); rw [z0] at h; exact h
 simp only [m0, m1, z0, z9] at xa0 xa1 xa2 xa3 xa4 xa5 xa6 xa7 xa8 xb0 xb1 xb2 xb3 xb4 xb5 xb6 xb7 xb8; refine start_ (n := 14) (S := fun w' => Below wb.heap.size wb w') (ds := []) #[false, false, false, false, false, false, false, false, false, false, false, false, false, false] (by kernel_rfl) rfl rfl (Below.drew (Below.refl _ _)) (fun hHeld => ?_)
 generalize wb.drew = wc at hHeld ⊢
 refine pure_ (i := 0) (N := some 41) (v := ?_) (a' := ?_) #[true, false, false, false, false, false, false, false, false, false, false, false, false, false] rfl rfl (by kernel_rfl) (fun _ _ _ h => h) (Or.inl ⟨by rfl, ?_⟩) ?_ ?_; rotate_left
 ·intro w'
  go_simp; (with_reducible rfl)
 rotate_left
 ·simp only [Act.put, sa_, sz_, ss_, i64_w, i32_w]
  rfl
 refine take_ (i := 1) (N := some 42) (v := ?_) (a' := ?_) #[true, true, false, false, false, false, false, false, false, false, false, false, false, false] rfl rfl (by kernel_rfl) (fun _ _ _ h => h) (Or.inl ⟨by rfl, ?_⟩) hHeld ?_ ?_; rotate_left
 ·intro w' hS; obtain ⟨p0, p1, p2, p3, p4, p5, p6, p7, p8, q0, q1, q2, q3, q4, q5, q6, q7, q8⟩ := bw9_ (blk_below BK.out hS); go_simp; (with_reducible rfl)
 rotate_left
 ·simp only [Act.put, sa_, sz_, ss_, i64_w, i32_w]
  rfl
 refine pure_ (i := 2) (N := some 43) (v := ?_) (a' := ?_) #[true, true, true, false, false, false, false, false, false, false, false, false, false, false] rfl rfl (by kernel_rfl) (fun _ _ _ h => h) (Or.inl ⟨by rfl, ?_⟩) ?_ ?_; rotate_left
 ·intro w'
  go_simp; (with_reducible rfl)
 rotate_left
 ·simp only [Act.put, sa_, sz_, ss_, i64_w, i32_w]
  rfl
 refine take_ (i := 3) (N := some 44) (v := ?_) (a' := ?_) #[true, true, true, true, false, false, false, false, false, false, false, false, false, false] rfl rfl (by kernel_rfl) (fun _ _ _ h => h) (Or.inl ⟨by rfl, ?_⟩) hHeld ?_ ?_; rotate_left
 ·intro w' hS; have ua0 := pw_cell_below hS xa0; have ua1 := pw_cell_below hS xa1; have ua2 := pw_cell_below hS xa2; have ua3 := pw_cell_below hS xa3; have ua4 := pw_cell_below hS xa4; have ua5 := pw_cell_below hS xa5; have ua6 := pw_cell_below hS xa6; have ua7 := pw_cell_below hS xa7; have ua8 := pw_cell_below hS xa8; go_simp; (with_reducible rfl)
 rotate_left
 ·simp only [Act.put, sa_, sz_, ss_, i64_w, i32_w]
  rfl
 refine pure_ (i := 4) (N := some 45) (v := ?_) (a' := ?_) #[true, true, true, true, true, false, false, false, false, false, false, false, false, false] rfl rfl (by kernel_rfl) (fun _ _ _ h => h) (Or.inl ⟨by rfl, ?_⟩) ?_ ?_; rotate_left
 ·intro w'
  go_simp; (with_reducible rfl)
 rotate_left
 ·simp only [Act.put, sa_, sz_, ss_, i64_w, i32_w]
  rfl
 refine pure_ (i := 6) (N := some 47) (v := ?_) (a' := ?_) #[true, true, true, true, true, false, true, false, false, false, false, false, false, false] rfl rfl (by kernel_rfl) (fun _ _ _ h => h) (Or.inl ⟨by rfl, ?_⟩) ?_ ?_; rotate_left
 ·intro w'
  go_simp; (with_reducible rfl)
 rotate_left
 ·simp only [Act.put, sa_, sz_, ss_, i64_w, i32_w]
  rfl
 refine take_ (i := 7) (N := some 48) (v := ?_) (a' := ?_) #[true, true, true, true, true, false, true, true, false, false, false, false, false, false] rfl rfl (by kernel_rfl) (fun _ _ _ h => h) (Or.inl ⟨by rfl, ?_⟩) hHeld ?_ ?_; rotate_left
 ·intro w' hS; obtain ⟨p0, p1, p2, p3, p4, p5, p6, p7, p8, q0, q1, q2, q3, q4, q5, q6, q7, q8⟩ := bw9_ (blk_below BK.out hS); go_simp; (with_reducible rfl)
 rotate_left
 ·simp only [Act.put, sa_, sz_, ss_, i64_w, i32_w]
  rfl
 refine pure_ (i := 8) (N := some 49) (v := ?_) (a' := ?_) #[true, true, true, true, true, false, true, true, true, false, false, false, false, false] rfl rfl (by kernel_rfl) (fun _ _ _ h => h) (Or.inl ⟨by rfl, ?_⟩) ?_ ?_; rotate_left
 ·intro w'
  go_simp; (with_reducible rfl)
 rotate_left
 ·simp only [Act.put, sa_, sz_, ss_, i64_w, i32_w]
  rfl
 refine take_ (i := 9) (N := some 50) (v := ?_) (a' := ?_) #[true, true, true, true, true, false, true, true, true, true, false, false, false, false] rfl rfl (by kernel_rfl) (fun _ _ _ h => h) (Or.inl ⟨by rfl, ?_⟩) hHeld ?_ ?_; rotate_left
 ·intro w' hS; have ub0 := pw_cell_below hS xb0; have ub1 := pw_cell_below hS xb1; have ub2 := pw_cell_below hS xb2; have ub3 := pw_cell_below hS xb3; have ub4 := pw_cell_below hS xb4; have ub5 := pw_cell_below hS xb5; have ub6 := pw_cell_below hS xb6; have ub7 := pw_cell_below hS xb7; have ub8 := pw_cell_below hS xb8; go_simp; (with_reducible rfl)
 rotate_left
 ·simp only [Act.put, sa_, sz_, ss_, i64_w, i32_w]
  rfl
 refine pure_ (i := 10) (N := some 51) (v := ?_) (a' := ?_) #[true, true, true, true, true, false, true, true, true, true, true, false, false, false] rfl rfl (by kernel_rfl) (fun _ _ _ h => h) (Or.inl ⟨by rfl, ?_⟩) ?_ ?_; rotate_left
 ·intro w'
  go_simp; (with_reducible rfl)
 rotate_left
 ·simp only [Act.put, sa_, sz_, ss_, i64_w, i32_w]
  rfl
 refine one_ (i := 5) (N := some 46) #[true, true, true, true, true, true, true, true, true, true, true, false, false, false] rfl rfl (by kernel_rfl) (by decide) (fun K hK => ?_); refine goes_ Try.func27 (by kernel_rfl) rfl #[.agg #[.int .i64 (rd_T27 x.f6 0).f0, .string (rd_T27 x.f6 0).f1, .string (rd_T27 x.f6 0).f2, .int .i64 (rd_T27 x.f6 0).f3, .int .i64 (rd_T27 x.f6 0).f4, .int .i64 (rd_T27 x.f6 0).f5.f0, .int .i64 (rd_T27 x.f6 0).f5.f1, .string (rd_T27 x.f6 0).f5.f2, .slice Ga (rd_T27 x.f6 0).f6.length da], .slice A1 st.length c1] (by rfl) rfl rfl (by (try simp only [List.map_toArray, List.map_cons, List.map_nil]); first | done | rfl) ?_; refine (IH.out (rd_T27 x.f6 0) Ga A1 da c1 _ _ (Kd.C_below LA.out.2 hHeld) LA.out.1 (Kd.C_below HS.out (below_step BB.out hHeld)) HC.out.2 HA.out).mono ?_; rintro e' w1 ⟨rfl, hb_⟩; refine ⟨_, rfl, ?_⟩; have X1 := Lib.hid (below_step hHeld hb_); clear hb_; refine hK.out _ _ (X1.out) (fun hHeld => ?_); clear hK K; refine norm_ (a' := ?_) ?_ ?_; rotate_left
 ·show Act.put _ (some 46) _ = _
  simp only [Act.put, sa_, sz_, ss_, i64_w, i32_w]; rfl
 refine one_ (i := 11) (N := some 52) #[true, true, true, true, true, true, true, true, true, true, true, true, false, false] rfl rfl (by kernel_rfl) (by decide) (fun K hK => ?_); refine goes_ Try.func27 (by kernel_rfl) rfl #[.agg #[.int .i64 (rd_T27 x.f6 1).f0, .string (rd_T27 x.f6 1).f1, .string (rd_T27 x.f6 1).f2, .int .i64 (rd_T27 x.f6 1).f3, .int .i64 (rd_T27 x.f6 1).f4, .int .i64 (rd_T27 x.f6 1).f5.f0, .int .i64 (rd_T27 x.f6 1).f5.f1, .string (rd_T27 x.f6 1).f5.f2, .slice Gb (rd_T27 x.f6 1).f6.length db], .slice A1 st.length c1] (by rfl) rfl rfl (by (try simp only [List.map_toArray, List.map_cons, List.map_nil]); first | done | rfl) ?_; refine (IH.out (rd_T27 x.f6 1) Gb A1 db c1 _ _ (Kd.C_below LB.out.2 hHeld) LB.out.1 (Kd.C_below HS.out (below_step BB.out hHeld)) HC.out.2 HB.out).mono ?_; rintro e' w2 ⟨rfl, hb_⟩; refine ⟨_, rfl, ?_⟩; have X2 := Lib.hid (below_step hHeld hb_); clear hb_; refine hK.out _ _ (X2.out) (fun hHeld => ?_); clear hK K; refine norm_ (a' := ?_) ?_ ?_; rotate_left
 ·show Act.put _ (some 52) _ = _
  simp only [Act.put, sa_, sz_, ss_, i64_w, i32_w]; rfl
 refine one_ (i := 12) (N := some 53) #[true, true, true, true, true, true, true, true, true, true, true, true, true, false] rfl rfl (by kernel_rfl) (by decide) (fun K hK => ?_); refine goes_ Try.func59 (by kernel_rfl) rfl #[.float .f64 a, .float .f64 b] (by rfl) rfl rfl (by (try simp only [List.map_toArray, List.map_cons, List.map_nil]); first | done | rfl) ?_; refine (r28_Or.calls a b r _ HK.out).mono ?_; rintro e' w4 ⟨rfl, hd_⟩; refine ⟨_, rfl, ?_⟩; have X4 := Lib.hid (below_step hHeld (Drawn0.below hd_)); clear hd_; refine hK.out _ _ (X4.out) (fun hHeld => ?_); clear hK K; refine norm_ (a' := ?_) ?_ ?_; rotate_left
 ·show Act.put _ (some 53) _ = _
  simp only [Act.put, sa_, sz_, ss_, i64_w, i32_w]; rfl
 refine pure_ (i := 13) (N := some 4) (v := ?_) (a' := ?_) #[true, true, true, true, true, true, true, true, true, true, true, true, true, true] rfl rfl (by kernel_rfl) (fun _ _ _ h => h) (Or.inl ⟨by rfl, ?_⟩) ?_ ?_; rotate_left
 ·intro w'
  go_simp; (with_reducible rfl)
 rotate_left
 ·simp only [Act.put, sa_, sz_, ss_, i64_w, i32_w]
  rfl
 refine done_ (by kernel_rfl) ?_
 try go_wp2
 go_ret
 exact ⟨rfl, below_step BB.out X4.out⟩
theorem r29_Share.not_ {x : S27} {st : List S103} {A0 A1 : Option Addr} {c0 c1 : Nat} {w : World} (hx : Kd.C k27 w A0 x.f6.length x.f6) (hc0 : x.f6.length ≤ c0) (hs : Kd.C k103 w A1 st.length st) (hc1 : st.length ≤ c1) {k : Nat} (ih : r29_Share.Ok k st) {a r : Nat} (h0 : x.f0 = 12) (hl : x.f6.length = 1) (ha : r29_Share.F k (rd_T27 x.f6 0) st = some a) (hk : r28_Not.f a = some r) :
  Calls Try.prog 27 #[.agg #[.int .i64 x.f0, .string x.f1, .string x.f2, .int .i64 x.f3, .int .i64 x.f4, .int .i64 x.f5.f0, .int .i64 x.f5.f1, .string x.f5.f2, .slice A0 x.f6.length c0], .slice A1 st.length c1] w fun e w' => e = .returned (.float .f64 r) ∧ Below w.heap.size w w' := by
 have HX := Lib.hid hx; have HS := Lib.hid hs; have HC := Lib.hid (And.intro hc0 hc1); have IH := Lib.hid ih; have HA := Lib.hid ha; have HK := Lib.hid hk
 have n2 : ((x.f6.length : Int) == 2) = false := beq_eq_false_iff_ne.2 (by omega); have n2' : ((x.f6.length : Int) != 2) = true := bne_iff_ne.2 (by omega); have n1 : ((x.f6.length : Int) == 1) = true := beq_iff_eq.2 (by omega); have o12 : (x.f0 == 12) = true := beq_iff_eq.2 (by omega)
 have hl2 : (x.f6.length : Int) = 1 := by omega
 clear hx hs hc0 hc1 ih ha hk h0
 go_enter Try.func27, Try.ntmps27
 go_wp2_with (first
  | ((with_reducible refine gate_dst (N := 2) rfl ?_); refine box_event ?hg (N := 2) ?hd (cs := #[.int .i64 x.f0, .string x.f1, .string x.f2, .int .i64 x.f3, .int .i64 x.f4, .int .i64 x.f5.f0, .int .i64 x.f5.f1, .string x.f5.f2, .slice A0 x.f6.length c0]) (t := 27) ?hr ?_; (case hd => rfl); (case hg => rfl); (case hr => first | (go_simp; done) | (go_simp; rfl)); intro g hg_ wb hb_ hl_; have BK := Lib.hid hb_; have BB := Lib.hid hl_; have HG := Lib.hid (Nat.le_of_eq hg_.symm); obtain ⟨p0, p1, p2, p3, p4, p5, p6, p7, p8, q0, q1, q2, q3, q4, q5, q6, q7, q8⟩ := bw9_  hb_; have m0 : (Int.toNat 0 * 9) = 0 := rfl; obtain ⟨ada, Ga, da, ea, xa0, xa1, xa2, xa3, xa4, xa5, xa6, xa7, xa8, la, ia⟩ := at_T27 (Kd.C_below HX.out BB.out) 0 (by decide) (by omega); subst ea; have z0 : ada.add 0 = ada := (by cases ada; simp [Addr.add]); simp only [m0, z0] at xa0 xa1 xa2 xa3 xa4 xa5 xa6 xa7 xa8; have LA := Lib.hid (And.intro la ia); clear la ia; clear hb_ hl_ hg_; simp only [Act.put, sa_, sz_, ss_])
  | ((with_reducible refine gate_callee (f := 27) rfl ?_); (try (refine gate_guard (by rfl) ?_; dsimp only)); refine goesL_ (some 66) rfl rfl Try.func27 (by kernel_rfl) rfl #[.agg #[.int .i64 (rd_T27 x.f6 0).f0, .string (rd_T27 x.f6 0).f1, .string (rd_T27 x.f6 0).f2, .int .i64 (rd_T27 x.f6 0).f3, .int .i64 (rd_T27 x.f6 0).f4, .int .i64 (rd_T27 x.f6 0).f5.f0, .int .i64 (rd_T27 x.f6 0).f5.f1, .string (rd_T27 x.f6 0).f5.f2, .slice Ga (rd_T27 x.f6 0).f6.length da], .slice A1 st.length c1] rfl (by (try simp only [List.map_toArray, List.map_cons, List.map_nil]); first | done | rfl) ?_; refine (IH.out (rd_T27 x.f6 0) Ga A1 da c1 _ _ LA.out.2 LA.out.1 (Kd.C_below HS.out BB.out) HC.out.2 HA.out).mono ?_; rintro r' w1 ⟨rfl, hb_⟩; refine ⟨_, rfl, ?_⟩; simp only [Act.put, sa_, sz_, ss_]; have X1 := Lib.hid (below_step BB.out hb_); clear hb_)
  | ((with_reducible refine gate_callee (f := 60) rfl ?_); (try (refine gate_guard (by rfl) ?_; dsimp only)); refine goesL_ (some 67) rfl rfl Try.func60 (by kernel_rfl) rfl #[.float .f64 a] rfl (by (try simp only [List.map_toArray, List.map_cons, List.map_nil]); first | done | rfl) ?_; refine (r28_Not.calls a r _ HK.out).mono ?_; rintro r' w2 ⟨rfl, hd_⟩; refine ⟨_, rfl, ?_⟩; simp only [Act.put, sa_, sz_, ss_]; have X2 := Lib.hid (below_step X1.out (Drawn0.below hd_)); clear hd_))
 go_ret
 exact ⟨rfl, X2.out⟩
theorem r29_Share.null_ {x : S27} {st : List S103} {A0 A1 : Option Addr} {c0 c1 : Nat} {w : World} (hx : Kd.C k27 w A0 x.f6.length x.f6) (hc0 : x.f6.length ≤ c0) (hs : Kd.C k103 w A1 st.length st) (hc1 : st.length ≤ c1) {k : Nat} (ih : r29_Share.Ok k st) {v r : Nat} {c0' c1' s0' : Int} {c2' : List Int} {s1' : List S116} (h0 : x.f0 = 13) (hl : x.f6.length = 1) (hf : (rd_T27 x.f6 0).f0 = 15) (hc : r29_column.f k st (rd_T27 x.f6 0).f3 (rd_T27 x.f6 0).f4 = some (c0', c1', c2')) (hs' : r29_Said.f k st (rd_T27 x.f6 0).f3 = some (s0', s1')) (hv : r28_Of.f c1' s0' = some v) (hk : some v = some r) :
  Calls Try.prog 27 #[.agg #[.int .i64 x.f0, .string x.f1, .string x.f2, .int .i64 x.f3, .int .i64 x.f4, .int .i64 x.f5.f0, .int .i64 x.f5.f1, .string x.f5.f2, .slice A0 x.f6.length c0], .slice A1 st.length c1] w fun e w' => e = .returned (.float .f64 r) ∧ Below w.heap.size w w' := by
 have HX := Lib.hid hx; have HS := Lib.hid hs; have HC := Lib.hid (And.intro hc0 hc1); have IH := Lib.hid ih; have HCC := Lib.hid hc; have HSS := Lib.hid hs'; have HV := Lib.hid hv; have HK := Lib.hid hk
 have n2 : ((x.f6.length : Int) == 2) = false := beq_eq_false_iff_ne.2 (by omega); have n2' : ((x.f6.length : Int) != 2) = true := bne_iff_ne.2 (by omega); have n1 : ((x.f6.length : Int) == 1) = true := beq_iff_eq.2 (by omega); have o12 : (x.f0 == 12) = false := beq_eq_false_iff_ne.2 (by omega); have o13 : (x.f0 == 13) = true := beq_iff_eq.2 (by omega); have o14 : (x.f0 == 14) = false := beq_eq_false_iff_ne.2 (by omega)
 have hl2 : (x.f6.length : Int) = 1 := by omega
 have ca : ((rd_T27 x.f6 0).f0 == 15) = true := beq_iff_eq.2 (by omega); clear hx hs hc0 hc1 ih hc hs' hv hk h0 hf
 go_enter Try.func27, Try.ntmps27
 have hfa : ∀ (x0_ x1_ x2_ : Value) (W_ : World), (Instr.field 116 (.agg #[x0_, x1_, x2_]) 1).run Try.prog W_ = .ok x1_ W_ := fun _ _ _ _ => by kernel_rfl
 have hfb : ∀ (x0_ x1_ : Value) (W_ : World), (Instr.field 103 (.agg #[x0_, x1_]) 0).run Try.prog W_ = .ok x0_ W_ := fun _ _ _ => by kernel_rfl
 go_wp2_with (((with_reducible refine gate_dst (N := 2) rfl ?_); refine box_event ?hg (N := 2) ?hd (cs := #[.int .i64 x.f0, .string x.f1, .string x.f2, .int .i64 x.f3, .int .i64 x.f4, .int .i64 x.f5.f0, .int .i64 x.f5.f1, .string x.f5.f2, .slice A0 x.f6.length c0]) (t := 27) ?hr ?_; (case hd => rfl); (case hg => rfl); (case hr => first | (go_simp; done) | (go_simp; rfl)); intro g hg_ wb hb_ hl_; have BK := Lib.hid hb_; have BB := Lib.hid hl_; have HG := Lib.hid (Nat.le_of_eq hg_.symm); obtain ⟨p0, p1, p2, p3, p4, p5, p6, p7, p8, q0, q1, q2, q3, q4, q5, q6, q7, q8⟩ := bw9_  hb_; have m0 : (Int.toNat 0 * 9) = 0 := rfl; obtain ⟨ada, Ga, da, ea, xa0, xa1, xa2, xa3, xa4, xa5, xa6, xa7, xa8, la, ia⟩ := at_T27 (Kd.C_below HX.out BB.out) 0 (by decide) (by omega); subst ea; have z0 : ada.add 0 = ada := (by cases ada; simp [Addr.add]); simp only [m0, z0] at xa0 xa1 xa2 xa3 xa4 xa5 xa6 xa7 xa8; have LA := Lib.hid (And.intro la ia); clear la ia; clear hb_ hl_ hg_; simp only [Act.put, sa_, sz_, ss_]))
 refine start_ (n := 23) (S := fun w' => Below wb.heap.size wb w') (ds := []) #[false, false, false, false, false, false, false, false, false, false, false, false, false, false, false, false, false, false, false, false, false, false, false] (by kernel_rfl) rfl rfl (Below.drew (Below.refl _ _)) (fun hHeld => ?_)
 generalize wb.drew = wc at hHeld ⊢
 refine pure_ (i := 0) (N := some 88) (v := ?_) (a' := ?_) #[true, false, false, false, false, false, false, false, false, false, false, false, false, false, false, false, false, false, false, false, false, false, false] rfl rfl (by kernel_rfl) (fun _ _ _ h => h) (Or.inl ⟨by rfl, ?_⟩) ?_ ?_; rotate_left
 ·intro w'
  go_simp; (with_reducible rfl)
 rotate_left
 ·simp only [Act.put, sa_, sz_, ss_, i64_w, i32_w]
  rfl
 refine pure_ (i := 1) (N := some 89) (v := ?_) (a' := ?_) #[true, true, false, false, false, false, false, false, false, false, false, false, false, false, false, false, false, false, false, false, false, false, false] rfl rfl (by kernel_rfl) (fun _ _ _ h => h) (Or.inl ⟨by rfl, ?_⟩) ?_ ?_; rotate_left
 ·intro w'
  go_simp; (with_reducible rfl)
 rotate_left
 ·simp only [Act.put, sa_, sz_, ss_, i64_w, i32_w]
  rfl
 refine take_ (i := 2) (N := some 90) (v := ?_) (a' := ?_) #[true, true, true, false, false, false, false, false, false, false, false, false, false, false, false, false, false, false, false, false, false, false, false] rfl rfl (by kernel_rfl) (fun _ _ _ h => h) (Or.inl ⟨by rfl, ?_⟩) hHeld ?_ ?_; rotate_left
 ·intro w' hS; obtain ⟨p0, p1, p2, p3, p4, p5, p6, p7, p8, q0, q1, q2, q3, q4, q5, q6, q7, q8⟩ := bw9_ (blk_below BK.out hS); go_simp; (with_reducible rfl)
 rotate_left
 ·simp only [Act.put, sa_, sz_, ss_, i64_w, i32_w]
  rfl
 refine pure_ (i := 3) (N := some 91) (v := ?_) (a' := ?_) #[true, true, true, true, false, false, false, false, false, false, false, false, false, false, false, false, false, false, false, false, false, false, false] rfl rfl (by kernel_rfl) (fun _ _ _ h => h) (Or.inl ⟨by rfl, ?_⟩) ?_ ?_; rotate_left
 ·intro w'
  go_simp; (with_reducible rfl)
 rotate_left
 ·simp only [Act.put, sa_, sz_, ss_, i64_w, i32_w]
  rfl
 refine pure_ (i := 4) (N := some 92) (v := ?_) (a' := ?_) #[true, true, true, true, true, false, false, false, false, false, false, false, false, false, false, false, false, false, false, false, false, false, false] rfl rfl (by kernel_rfl) (fun _ _ _ h => h) (Or.inl ⟨by rfl, ?_⟩) ?_ ?_; rotate_left
 ·intro w'
  go_simp; (with_reducible rfl)
 rotate_left
 ·simp only [Act.put, sa_, sz_, ss_, i64_w, i32_w]
  rfl
 refine take_ (i := 5) (N := some 93) (v := ?_) (a' := ?_) #[true, true, true, true, true, true, false, false, false, false, false, false, false, false, false, false, false, false, false, false, false, false, false] rfl rfl (by kernel_rfl) (fun _ _ _ h => h) (Or.inl ⟨by rfl, ?_⟩) hHeld ?_ ?_; rotate_left
 ·intro w' hS; have u3 := pw_cell_below hS xa3; go_simp; (with_reducible rfl)
 rotate_left
 ·simp only [Act.put, sa_, sz_, ss_, i64_w, i32_w]
  rfl
 refine pure_ (i := 6) (N := some 94) (v := ?_) (a' := ?_) #[true, true, true, true, true, true, true, false, false, false, false, false, false, false, false, false, false, false, false, false, false, false, false] rfl rfl (by kernel_rfl) (fun _ _ _ h => h) (Or.inl ⟨by rfl, ?_⟩) ?_ ?_; rotate_left
 ·intro w'
  go_simp; (with_reducible rfl)
 rotate_left
 ·simp only [Act.put, sa_, sz_, ss_, i64_w, i32_w]
  rfl
 refine take_ (i := 7) (N := some 95) (v := ?_) (a' := ?_) #[true, true, true, true, true, true, true, true, false, false, false, false, false, false, false, false, false, false, false, false, false, false, false] rfl rfl (by kernel_rfl) (fun _ _ _ h => h) (Or.inl ⟨by rfl, ?_⟩) hHeld ?_ ?_; rotate_left
 ·intro w' hS; obtain ⟨p0, p1, p2, p3, p4, p5, p6, p7, p8, q0, q1, q2, q3, q4, q5, q6, q7, q8⟩ := bw9_ (blk_below BK.out hS); go_simp; (with_reducible rfl)
 rotate_left
 ·simp only [Act.put, sa_, sz_, ss_, i64_w, i32_w]
  rfl
 refine pure_ (i := 8) (N := some 96) (v := ?_) (a' := ?_) #[true, true, true, true, true, true, true, true, true, false, false, false, false, false, false, false, false, false, false, false, false, false, false] rfl rfl (by kernel_rfl) (fun _ _ _ h => h) (Or.inl ⟨by rfl, ?_⟩) ?_ ?_; rotate_left
 ·intro w'
  go_simp; (with_reducible rfl)
 rotate_left
 ·simp only [Act.put, sa_, sz_, ss_, i64_w, i32_w]
  rfl
 refine pure_ (i := 9) (N := some 97) (v := ?_) (a' := ?_) #[true, true, true, true, true, true, true, true, true, true, false, false, false, false, false, false, false, false, false, false, false, false, false] rfl rfl (by kernel_rfl) (fun _ _ _ h => h) (Or.inl ⟨by rfl, ?_⟩) ?_ ?_; rotate_left
 ·intro w'
  go_simp; (with_reducible rfl)
 rotate_left
 ·simp only [Act.put, sa_, sz_, ss_, i64_w, i32_w]
  rfl
 refine take_ (i := 10) (N := some 98) (v := ?_) (a' := ?_) #[true, true, true, true, true, true, true, true, true, true, true, false, false, false, false, false, false, false, false, false, false, false, false] rfl rfl (by kernel_rfl) (fun _ _ _ h => h) (Or.inl ⟨by rfl, ?_⟩) hHeld ?_ ?_; rotate_left
 ·intro w' hS; have u4 := pw_cell_below hS xa4; go_simp; (with_reducible rfl)
 rotate_left
 ·simp only [Act.put, sa_, sz_, ss_, i64_w, i32_w]
  rfl
 refine pure_ (i := 13) (N := some 101) (v := ?_) (a' := ?_) #[true, true, true, true, true, true, true, true, true, true, true, false, false, true, false, false, false, false, false, false, false, false, false] rfl rfl (by kernel_rfl) (fun _ _ _ h => h) (Or.inl ⟨by rfl, ?_⟩) ?_ ?_; rotate_left
 ·intro w'
  go_simp; (with_reducible rfl)
 rotate_left
 ·simp only [Act.put, sa_, sz_, ss_, i64_w, i32_w]
  rfl
 refine pure_ (i := 14) (N := some 102) (v := ?_) (a' := ?_) #[true, true, true, true, true, true, true, true, true, true, true, false, false, true, true, false, false, false, false, false, false, false, false] rfl rfl (by kernel_rfl) (fun _ _ _ h => h) (Or.inl ⟨by rfl, ?_⟩) ?_ ?_; rotate_left
 ·intro w'
  go_simp; (with_reducible rfl)
 rotate_left
 ·simp only [Act.put, sa_, sz_, ss_, i64_w, i32_w]
  rfl
 refine take_ (i := 15) (N := some 103) (v := ?_) (a' := ?_) #[true, true, true, true, true, true, true, true, true, true, true, false, false, true, true, true, false, false, false, false, false, false, false] rfl rfl (by kernel_rfl) (fun _ _ _ h => h) (Or.inl ⟨by rfl, ?_⟩) hHeld ?_ ?_; rotate_left
 ·intro w' hS; obtain ⟨p0, p1, p2, p3, p4, p5, p6, p7, p8, q0, q1, q2, q3, q4, q5, q6, q7, q8⟩ := bw9_ (blk_below BK.out hS); go_simp; (with_reducible rfl)
 rotate_left
 ·simp only [Act.put, sa_, sz_, ss_, i64_w, i32_w]
  rfl
 refine pure_ (i := 16) (N := some 104) (v := ?_) (a' := ?_) #[true, true, true, true, true, true, true, true, true, true, true, false, false, true, true, true, true, false, false, false, false, false, false] rfl rfl (by kernel_rfl) (fun _ _ _ h => h) (Or.inl ⟨by rfl, ?_⟩) ?_ ?_; rotate_left
 ·intro w'
  go_simp; (with_reducible rfl)
 rotate_left
 ·simp only [Act.put, sa_, sz_, ss_, i64_w, i32_w]
  rfl
 refine pure_ (i := 17) (N := some 105) (v := ?_) (a' := ?_) #[true, true, true, true, true, true, true, true, true, true, true, false, false, true, true, true, true, true, false, false, false, false, false] rfl rfl (by kernel_rfl) (fun _ _ _ h => h) (Or.inl ⟨by rfl, ?_⟩) ?_ ?_; rotate_left
 ·intro w'
  go_simp; (with_reducible rfl)
 rotate_left
 ·simp only [Act.put, sa_, sz_, ss_, i64_w, i32_w]
  rfl
 refine take_ (i := 18) (N := some 106) (v := ?_) (a' := ?_) #[true, true, true, true, true, true, true, true, true, true, true, false, false, true, true, true, true, true, true, false, false, false, false] rfl rfl (by kernel_rfl) (fun _ _ _ h => h) (Or.inl ⟨by rfl, ?_⟩) hHeld ?_ ?_; rotate_left
 ·intro w' hS; have u3 := pw_cell_below hS xa3; go_simp; (with_reducible rfl)
 rotate_left
 ·simp only [Act.put, sa_, sz_, ss_, i64_w, i32_w]
  rfl
 refine one_ (i := 11) (N := some 99) #[true, true, true, true, true, true, true, true, true, true, true, true, false, true, true, true, true, true, true, false, false, false, false] rfl rfl (by kernel_rfl) (by decide) (fun K hK => ?_); refine goes_ Try.func62 (by kernel_rfl) rfl #[.slice A1 st.length c1, .int .i64 (rd_T27 x.f6 0).f3, .int .i64 (rd_T27 x.f6 0).f4] (by rfl) rfl rfl (by (try simp only [List.map_toArray, List.map_cons, List.map_nil]); first | done | rfl) ?_; refine (r29_column.calls k A1 c1 st _ _ c0' c1' c2' _ (Kd.C_below HS.out (below_step BB.out hHeld)) HC.out.2 HCC.out).mono ?_; rintro e' w1 ⟨v1, rfl, hr_, hb_⟩; refine ⟨_, rfl, ?_⟩; have X1 := Lib.hid (below_step hHeld hb_); clear hb_ hr_; refine hK.out _ _ (X1.out) (fun hHeld => ?_); clear hK K; refine norm_ (a' := ?_) ?_ ?_; rotate_left
 ·show Act.put _ (some 99) _ = _
  simp only [Act.put, sa_, sz_, ss_, i64_w, i32_w]; rfl
 refine pure_ (i := 12) (N := some 100) (v := ?_) (a' := ?_) #[true, true, true, true, true, true, true, true, true, true, true, true, true, true, true, true, true, true, true, false, false, false, false] rfl rfl (by kernel_rfl) (fun _ _ _ h => h) (Or.inl ⟨by rfl, ?_⟩) ?_ ?_; rotate_left
 ·intro w'
  go_simp; (with_reducible rfl)
 rotate_left
 ·simp only [Act.put, sa_, sz_, ss_, i64_w, i32_w]
  rfl
 refine one_ (i := 19) (N := some 107) #[true, true, true, true, true, true, true, true, true, true, true, true, true, true, true, true, true, true, true, true, false, false, false] rfl rfl (by kernel_rfl) (by decide) (fun K hK => ?_); refine goes_ Try.func63 (by kernel_rfl) rfl #[.slice A1 st.length c1, .int .i64 (rd_T27 x.f6 0).f3] (by rfl) rfl rfl (by (try simp only [List.map_toArray, List.map_cons, List.map_nil]); first | done | rfl) ?_; refine (r29_Said.calls k A1 c1 st _ s0' s1' _ (Kd.C_below HS.out (below_step BB.out hHeld)) HC.out.2 HSS.out).mono ?_; rintro e' w2 ⟨v2, rfl, hr_, hb_⟩; refine ⟨_, rfl, ?_⟩; have X2 := Lib.hid (below_step hHeld hb_); clear hb_ hr_; refine hK.out _ _ (X2.out) (fun hHeld => ?_); clear hK K; refine norm_ (a' := ?_) ?_ ?_; rotate_left
 ·show Act.put _ (some 107) _ = _
  simp only [Act.put, sa_, sz_, ss_, i64_w, i32_w]; rfl
 refine pure_ (i := 20) (N := some 108) (v := ?_) (a' := ?_) #[true, true, true, true, true, true, true, true, true, true, true, true, true, true, true, true, true, true, true, true, true, false, false] rfl rfl (by kernel_rfl) (fun _ _ _ h => h) (Or.inl ⟨by rfl, ?_⟩) ?_ ?_; rotate_left
 ·intro w'
  go_simp; (with_reducible rfl)
 rotate_left
 ·simp only [Act.put, sa_, sz_, ss_, i64_w, i32_w]
  rfl
 refine one_ (i := 21) (N := some 109) #[true, true, true, true, true, true, true, true, true, true, true, true, true, true, true, true, true, true, true, true, true, true, false] rfl rfl (by kernel_rfl) (by decide) (fun K hK => ?_); refine goes_ Try.func61 (by kernel_rfl) rfl #[.int .i64 c1', .int .i64 s0'] (by rfl) rfl rfl (by (try simp only [List.map_toArray, List.map_cons, List.map_nil]); first | done | rfl) ?_; refine (r28_Of.calls c1' s0' v _ HV.out).mono ?_; rintro e' w3 ⟨rfl, hd_⟩; refine ⟨_, rfl, ?_⟩; have X3 := Lib.hid (below_step hHeld (Drawn0.below hd_)); clear hd_; refine hK.out _ _ (X3.out) (fun hHeld => ?_); clear hK K; refine norm_ (a' := ?_) ?_ ?_; rotate_left
 ·show Act.put _ (some 109) _ = _
  simp only [Act.put, sa_, sz_, ss_, i64_w, i32_w]; rfl
 refine pure_ (i := 22) (N := some 6) (v := ?_) (a' := ?_) #[true, true, true, true, true, true, true, true, true, true, true, true, true, true, true, true, true, true, true, true, true, true, true] rfl rfl (by kernel_rfl) (fun _ _ _ h => h) (Or.inl ⟨by rfl, ?_⟩) ?_ ?_; rotate_left
 ·intro w'
  go_simp; (with_reducible rfl)
 rotate_left
 ·simp only [Act.put, sa_, sz_, ss_, i64_w, i32_w]
  rfl
 refine done_ (by kernel_rfl) ?_; clear p0 p1 p2 p3 p4 p5 p6 p7 p8 q0 q1 q2 q3 q4 q5 q6 q7 q8; obtain ⟨p0, p1, p2, p3, p4, p5, p6, p7, p8, q0, q1, q2, q3, q4, q5, q6, q7, q8⟩ := bw9_ (blk_below BK.out X3.out)
 go_wp2
 go_ret
 exact ⟨congrArg (fun z => Ending.returned (.float .f64 z)) (Option.some.inj HK.out), below_step BB.out X3.out⟩
theorem r29_Share.live_ {x : S27} {st : List S103} {A0 A1 : Option Addr} {c0 c1 : Nat} {w : World} (hx : Kd.C k27 w A0 x.f6.length x.f6) (hc0 : x.f6.length ≤ c0) (hs : Kd.C k103 w A1 st.length st) (hc1 : st.length ≤ c1) {k : Nat} (ih : r29_Share.Ok k st) {v r : Nat} {c0' c1' s0' : Int} {c2' : List Int} {s1' : List S116} (h0 : x.f0 = 14) (hl : x.f6.length = 1) (hf : (rd_T27 x.f6 0).f0 = 15) (hc : r29_column.f k st (rd_T27 x.f6 0).f3 (rd_T27 x.f6 0).f4 = some (c0', c1', c2')) (hs' : r29_Said.f k st (rd_T27 x.f6 0).f3 = some (s0', s1')) (hv : r28_Of.f c1' s0' = some v) (hk : r28_Not.f v = some r) :
  Calls Try.prog 27 #[.agg #[.int .i64 x.f0, .string x.f1, .string x.f2, .int .i64 x.f3, .int .i64 x.f4, .int .i64 x.f5.f0, .int .i64 x.f5.f1, .string x.f5.f2, .slice A0 x.f6.length c0], .slice A1 st.length c1] w fun e w' => e = .returned (.float .f64 r) ∧ Below w.heap.size w w' := by
 have HX := Lib.hid hx; have HS := Lib.hid hs; have HC := Lib.hid (And.intro hc0 hc1); have IH := Lib.hid ih; have HCC := Lib.hid hc; have HSS := Lib.hid hs'; have HV := Lib.hid hv; have HK := Lib.hid hk
 have n2 : ((x.f6.length : Int) == 2) = false := beq_eq_false_iff_ne.2 (by omega); have n2' : ((x.f6.length : Int) != 2) = true := bne_iff_ne.2 (by omega); have n1 : ((x.f6.length : Int) == 1) = true := beq_iff_eq.2 (by omega); have o12 : (x.f0 == 12) = false := beq_eq_false_iff_ne.2 (by omega); have o13 : (x.f0 == 13) = false := beq_eq_false_iff_ne.2 (by omega); have o14 : (x.f0 == 14) = true := beq_iff_eq.2 (by omega)
 have hl2 : (x.f6.length : Int) = 1 := by omega
 have ca : ((rd_T27 x.f6 0).f0 == 15) = true := beq_iff_eq.2 (by omega); clear hx hs hc0 hc1 ih hc hs' hv hk h0 hf
 go_enter Try.func27, Try.ntmps27
 have hfa : ∀ (x0_ x1_ x2_ : Value) (W_ : World), (Instr.field 116 (.agg #[x0_, x1_, x2_]) 1).run Try.prog W_ = .ok x1_ W_ := fun _ _ _ _ => by kernel_rfl
 have hfb : ∀ (x0_ x1_ : Value) (W_ : World), (Instr.field 103 (.agg #[x0_, x1_]) 0).run Try.prog W_ = .ok x0_ W_ := fun _ _ _ => by kernel_rfl
 go_wp2_with (((with_reducible refine gate_dst (N := 2) rfl ?_); refine box_event ?hg (N := 2) ?hd (cs := #[.int .i64 x.f0, .string x.f1, .string x.f2, .int .i64 x.f3, .int .i64 x.f4, .int .i64 x.f5.f0, .int .i64 x.f5.f1, .string x.f5.f2, .slice A0 x.f6.length c0]) (t := 27) ?hr ?_; (case hd => rfl); (case hg => rfl); (case hr => first | (go_simp; done) | (go_simp; rfl)); intro g hg_ wb hb_ hl_; have BK := Lib.hid hb_; have BB := Lib.hid hl_; have HG := Lib.hid (Nat.le_of_eq hg_.symm); obtain ⟨p0, p1, p2, p3, p4, p5, p6, p7, p8, q0, q1, q2, q3, q4, q5, q6, q7, q8⟩ := bw9_  hb_; have m0 : (Int.toNat 0 * 9) = 0 := rfl; obtain ⟨ada, Ga, da, ea, xa0, xa1, xa2, xa3, xa4, xa5, xa6, xa7, xa8, la, ia⟩ := at_T27 (Kd.C_below HX.out BB.out) 0 (by decide) (by omega); subst ea; have z0 : ada.add 0 = ada := (by cases ada; simp [Addr.add]); simp only [m0, z0] at xa0 xa1 xa2 xa3 xa4 xa5 xa6 xa7 xa8; have LA := Lib.hid (And.intro la ia); clear la ia; clear hb_ hl_ hg_; simp only [Act.put, sa_, sz_, ss_]))
 refine start_ (n := 23) (S := fun w' => Below wb.heap.size wb w') (ds := []) #[false, false, false, false, false, false, false, false, false, false, false, false, false, false, false, false, false, false, false, false, false, false, false] (by kernel_rfl) rfl rfl (Below.drew (Below.refl _ _)) (fun hHeld => ?_)
 generalize wb.drew = wc at hHeld ⊢
 refine pure_ (i := 0) (N := some 88) (v := ?_) (a' := ?_) #[true, false, false, false, false, false, false, false, false, false, false, false, false, false, false, false, false, false, false, false, false, false, false] rfl rfl (by kernel_rfl) (fun _ _ _ h => h) (Or.inl ⟨by rfl, ?_⟩) ?_ ?_; rotate_left
 ·intro w'
  go_simp; (with_reducible rfl)
 rotate_left
 ·simp only [Act.put, sa_, sz_, ss_, i64_w, i32_w]
  rfl
 refine pure_ (i := 1) (N := some 89) (v := ?_) (a' := ?_) #[true, true, false, false, false, false, false, false, false, false, false, false, false, false, false, false, false, false, false, false, false, false, false] rfl rfl (by kernel_rfl) (fun _ _ _ h => h) (Or.inl ⟨by rfl, ?_⟩) ?_ ?_; rotate_left
 ·intro w'
  go_simp; (with_reducible rfl)
 rotate_left
 ·simp only [Act.put, sa_, sz_, ss_, i64_w, i32_w]
  rfl
 refine take_ (i := 2) (N := some 90) (v := ?_) (a' := ?_) #[true, true, true, false, false, false, false, false, false, false, false, false, false, false, false, false, false, false, false, false, false, false, false] rfl rfl (by kernel_rfl) (fun _ _ _ h => h) (Or.inl ⟨by rfl, ?_⟩) hHeld ?_ ?_; rotate_left
 ·intro w' hS; obtain ⟨p0, p1, p2, p3, p4, p5, p6, p7, p8, q0, q1, q2, q3, q4, q5, q6, q7, q8⟩ := bw9_ (blk_below BK.out hS); go_simp; (with_reducible rfl)
 rotate_left
 ·simp only [Act.put, sa_, sz_, ss_, i64_w, i32_w]
  rfl
 refine pure_ (i := 3) (N := some 91) (v := ?_) (a' := ?_) #[true, true, true, true, false, false, false, false, false, false, false, false, false, false, false, false, false, false, false, false, false, false, false] rfl rfl (by kernel_rfl) (fun _ _ _ h => h) (Or.inl ⟨by rfl, ?_⟩) ?_ ?_; rotate_left
 ·intro w'
  go_simp; (with_reducible rfl)
 rotate_left
 ·simp only [Act.put, sa_, sz_, ss_, i64_w, i32_w]
  rfl
 refine pure_ (i := 4) (N := some 92) (v := ?_) (a' := ?_) #[true, true, true, true, true, false, false, false, false, false, false, false, false, false, false, false, false, false, false, false, false, false, false] rfl rfl (by kernel_rfl) (fun _ _ _ h => h) (Or.inl ⟨by rfl, ?_⟩) ?_ ?_; rotate_left
 ·intro w'
  go_simp; (with_reducible rfl)
 rotate_left
 ·simp only [Act.put, sa_, sz_, ss_, i64_w, i32_w]
  rfl
 refine take_ (i := 5) (N := some 93) (v := ?_) (a' := ?_) #[true, true, true, true, true, true, false, false, false, false, false, false, false, false, false, false, false, false, false, false, false, false, false] rfl rfl (by kernel_rfl) (fun _ _ _ h => h) (Or.inl ⟨by rfl, ?_⟩) hHeld ?_ ?_; rotate_left
 ·intro w' hS; have u3 := pw_cell_below hS xa3; go_simp; (with_reducible rfl)
 rotate_left
 ·simp only [Act.put, sa_, sz_, ss_, i64_w, i32_w]
  rfl
 refine pure_ (i := 6) (N := some 94) (v := ?_) (a' := ?_) #[true, true, true, true, true, true, true, false, false, false, false, false, false, false, false, false, false, false, false, false, false, false, false] rfl rfl (by kernel_rfl) (fun _ _ _ h => h) (Or.inl ⟨by rfl, ?_⟩) ?_ ?_; rotate_left
 ·intro w'
  go_simp; (with_reducible rfl)
 rotate_left
 ·simp only [Act.put, sa_, sz_, ss_, i64_w, i32_w]
  rfl
 refine take_ (i := 7) (N := some 95) (v := ?_) (a' := ?_) #[true, true, true, true, true, true, true, true, false, false, false, false, false, false, false, false, false, false, false, false, false, false, false] rfl rfl (by kernel_rfl) (fun _ _ _ h => h) (Or.inl ⟨by rfl, ?_⟩) hHeld ?_ ?_; rotate_left
 ·intro w' hS; obtain ⟨p0, p1, p2, p3, p4, p5, p6, p7, p8, q0, q1, q2, q3, q4, q5, q6, q7, q8⟩ := bw9_ (blk_below BK.out hS); go_simp; (with_reducible rfl)
 rotate_left
 ·simp only [Act.put, sa_, sz_, ss_, i64_w, i32_w]
  rfl
 refine pure_ (i := 8) (N := some 96) (v := ?_) (a' := ?_) #[true, true, true, true, true, true, true, true, true, false, false, false, false, false, false, false, false, false, false, false, false, false, false] rfl rfl (by kernel_rfl) (fun _ _ _ h => h) (Or.inl ⟨by rfl, ?_⟩) ?_ ?_; rotate_left
 ·intro w'
  go_simp; (with_reducible rfl)
 rotate_left
 ·simp only [Act.put, sa_, sz_, ss_, i64_w, i32_w]
  rfl
 refine pure_ (i := 9) (N := some 97) (v := ?_) (a' := ?_) #[true, true, true, true, true, true, true, true, true, true, false, false, false, false, false, false, false, false, false, false, false, false, false] rfl rfl (by kernel_rfl) (fun _ _ _ h => h) (Or.inl ⟨by rfl, ?_⟩) ?_ ?_; rotate_left
 ·intro w'
  go_simp; (with_reducible rfl)
 rotate_left
 ·simp only [Act.put, sa_, sz_, ss_, i64_w, i32_w]
  rfl
 refine take_ (i := 10) (N := some 98) (v := ?_) (a' := ?_) #[true, true, true, true, true, true, true, true, true, true, true, false, false, false, false, false, false, false, false, false, false, false, false] rfl rfl (by kernel_rfl) (fun _ _ _ h => h) (Or.inl ⟨by rfl, ?_⟩) hHeld ?_ ?_; rotate_left
 ·intro w' hS; have u4 := pw_cell_below hS xa4; go_simp; (with_reducible rfl)
 rotate_left
 ·simp only [Act.put, sa_, sz_, ss_, i64_w, i32_w]
  rfl
 refine pure_ (i := 13) (N := some 101) (v := ?_) (a' := ?_) #[true, true, true, true, true, true, true, true, true, true, true, false, false, true, false, false, false, false, false, false, false, false, false] rfl rfl (by kernel_rfl) (fun _ _ _ h => h) (Or.inl ⟨by rfl, ?_⟩) ?_ ?_; rotate_left
 ·intro w'
  go_simp; (with_reducible rfl)
 rotate_left
 ·simp only [Act.put, sa_, sz_, ss_, i64_w, i32_w]
  rfl
 refine pure_ (i := 14) (N := some 102) (v := ?_) (a' := ?_) #[true, true, true, true, true, true, true, true, true, true, true, false, false, true, true, false, false, false, false, false, false, false, false] rfl rfl (by kernel_rfl) (fun _ _ _ h => h) (Or.inl ⟨by rfl, ?_⟩) ?_ ?_; rotate_left
 ·intro w'
  go_simp; (with_reducible rfl)
 rotate_left
 ·simp only [Act.put, sa_, sz_, ss_, i64_w, i32_w]
  rfl
 refine take_ (i := 15) (N := some 103) (v := ?_) (a' := ?_) #[true, true, true, true, true, true, true, true, true, true, true, false, false, true, true, true, false, false, false, false, false, false, false] rfl rfl (by kernel_rfl) (fun _ _ _ h => h) (Or.inl ⟨by rfl, ?_⟩) hHeld ?_ ?_; rotate_left
 ·intro w' hS; obtain ⟨p0, p1, p2, p3, p4, p5, p6, p7, p8, q0, q1, q2, q3, q4, q5, q6, q7, q8⟩ := bw9_ (blk_below BK.out hS); go_simp; (with_reducible rfl)
 rotate_left
 ·simp only [Act.put, sa_, sz_, ss_, i64_w, i32_w]
  rfl
 refine pure_ (i := 16) (N := some 104) (v := ?_) (a' := ?_) #[true, true, true, true, true, true, true, true, true, true, true, false, false, true, true, true, true, false, false, false, false, false, false] rfl rfl (by kernel_rfl) (fun _ _ _ h => h) (Or.inl ⟨by rfl, ?_⟩) ?_ ?_; rotate_left
 ·intro w'
  go_simp; (with_reducible rfl)
 rotate_left
 ·simp only [Act.put, sa_, sz_, ss_, i64_w, i32_w]
  rfl
 refine pure_ (i := 17) (N := some 105) (v := ?_) (a' := ?_) #[true, true, true, true, true, true, true, true, true, true, true, false, false, true, true, true, true, true, false, false, false, false, false] rfl rfl (by kernel_rfl) (fun _ _ _ h => h) (Or.inl ⟨by rfl, ?_⟩) ?_ ?_; rotate_left
 ·intro w'
  go_simp; (with_reducible rfl)
 rotate_left
 ·simp only [Act.put, sa_, sz_, ss_, i64_w, i32_w]
  rfl
 refine take_ (i := 18) (N := some 106) (v := ?_) (a' := ?_) #[true, true, true, true, true, true, true, true, true, true, true, false, false, true, true, true, true, true, true, false, false, false, false] rfl rfl (by kernel_rfl) (fun _ _ _ h => h) (Or.inl ⟨by rfl, ?_⟩) hHeld ?_ ?_; rotate_left
 ·intro w' hS; have u3 := pw_cell_below hS xa3; go_simp; (with_reducible rfl)
 rotate_left
 ·simp only [Act.put, sa_, sz_, ss_, i64_w, i32_w]
  rfl
 refine one_ (i := 11) (N := some 99) #[true, true, true, true, true, true, true, true, true, true, true, true, false, true, true, true, true, true, true, false, false, false, false] rfl rfl (by kernel_rfl) (by decide) (fun K hK => ?_); refine goes_ Try.func62 (by kernel_rfl) rfl #[.slice A1 st.length c1, .int .i64 (rd_T27 x.f6 0).f3, .int .i64 (rd_T27 x.f6 0).f4] (by rfl) rfl rfl (by (try simp only [List.map_toArray, List.map_cons, List.map_nil]); first | done | rfl) ?_; refine (r29_column.calls k A1 c1 st _ _ c0' c1' c2' _ (Kd.C_below HS.out (below_step BB.out hHeld)) HC.out.2 HCC.out).mono ?_; rintro e' w1 ⟨v1, rfl, hr_, hb_⟩; refine ⟨_, rfl, ?_⟩; have X1 := Lib.hid (below_step hHeld hb_); clear hb_ hr_; refine hK.out _ _ (X1.out) (fun hHeld => ?_); clear hK K; refine norm_ (a' := ?_) ?_ ?_; rotate_left
 ·show Act.put _ (some 99) _ = _
  simp only [Act.put, sa_, sz_, ss_, i64_w, i32_w]; rfl
 refine pure_ (i := 12) (N := some 100) (v := ?_) (a' := ?_) #[true, true, true, true, true, true, true, true, true, true, true, true, true, true, true, true, true, true, true, false, false, false, false] rfl rfl (by kernel_rfl) (fun _ _ _ h => h) (Or.inl ⟨by rfl, ?_⟩) ?_ ?_; rotate_left
 ·intro w'
  go_simp; (with_reducible rfl)
 rotate_left
 ·simp only [Act.put, sa_, sz_, ss_, i64_w, i32_w]
  rfl
 refine one_ (i := 19) (N := some 107) #[true, true, true, true, true, true, true, true, true, true, true, true, true, true, true, true, true, true, true, true, false, false, false] rfl rfl (by kernel_rfl) (by decide) (fun K hK => ?_); refine goes_ Try.func63 (by kernel_rfl) rfl #[.slice A1 st.length c1, .int .i64 (rd_T27 x.f6 0).f3] (by rfl) rfl rfl (by (try simp only [List.map_toArray, List.map_cons, List.map_nil]); first | done | rfl) ?_; refine (r29_Said.calls k A1 c1 st _ s0' s1' _ (Kd.C_below HS.out (below_step BB.out hHeld)) HC.out.2 HSS.out).mono ?_; rintro e' w2 ⟨v2, rfl, hr_, hb_⟩; refine ⟨_, rfl, ?_⟩; have X2 := Lib.hid (below_step hHeld hb_); clear hb_ hr_; refine hK.out _ _ (X2.out) (fun hHeld => ?_); clear hK K; refine norm_ (a' := ?_) ?_ ?_; rotate_left
 ·show Act.put _ (some 107) _ = _
  simp only [Act.put, sa_, sz_, ss_, i64_w, i32_w]; rfl
 refine pure_ (i := 20) (N := some 108) (v := ?_) (a' := ?_) #[true, true, true, true, true, true, true, true, true, true, true, true, true, true, true, true, true, true, true, true, true, false, false] rfl rfl (by kernel_rfl) (fun _ _ _ h => h) (Or.inl ⟨by rfl, ?_⟩) ?_ ?_; rotate_left
 ·intro w'
  go_simp; (with_reducible rfl)
 rotate_left
 ·simp only [Act.put, sa_, sz_, ss_, i64_w, i32_w]
  rfl
 refine one_ (i := 21) (N := some 109) #[true, true, true, true, true, true, true, true, true, true, true, true, true, true, true, true, true, true, true, true, true, true, false] rfl rfl (by kernel_rfl) (by decide) (fun K hK => ?_); refine goes_ Try.func61 (by kernel_rfl) rfl #[.int .i64 c1', .int .i64 s0'] (by rfl) rfl rfl (by (try simp only [List.map_toArray, List.map_cons, List.map_nil]); first | done | rfl) ?_; refine (r28_Of.calls c1' s0' v _ HV.out).mono ?_; rintro e' w3 ⟨rfl, hd_⟩; refine ⟨_, rfl, ?_⟩; have X3 := Lib.hid (below_step hHeld (Drawn0.below hd_)); clear hd_; refine hK.out _ _ (X3.out) (fun hHeld => ?_); clear hK K; refine norm_ (a' := ?_) ?_ ?_; rotate_left
 ·show Act.put _ (some 109) _ = _
  simp only [Act.put, sa_, sz_, ss_, i64_w, i32_w]; rfl
 refine pure_ (i := 22) (N := some 6) (v := ?_) (a' := ?_) #[true, true, true, true, true, true, true, true, true, true, true, true, true, true, true, true, true, true, true, true, true, true, true] rfl rfl (by kernel_rfl) (fun _ _ _ h => h) (Or.inl ⟨by rfl, ?_⟩) ?_ ?_; rotate_left
 ·intro w'
  go_simp; (with_reducible rfl)
 rotate_left
 ·simp only [Act.put, sa_, sz_, ss_, i64_w, i32_w]
  rfl
 refine done_ (by kernel_rfl) ?_; clear p0 p1 p2 p3 p4 p5 p6 p7 p8 q0 q1 q2 q3 q4 q5 q6 q7 q8; obtain ⟨p0, p1, p2, p3, p4, p5, p6, p7, p8, q0, q1, q2, q3, q4, q5, q6, q7, q8⟩ := bw9_ (blk_below BK.out X3.out)
 go_wp2_with (((with_reducible refine gate_callee (f := 60) rfl ?_); (try (refine gate_guard (by rfl) ?_; dsimp only)); refine goesL_ (some 114) rfl rfl Try.func60 (by kernel_rfl) rfl #[.float .f64 v] rfl (by (try simp only [List.map_toArray, List.map_cons, List.map_nil]); first | done | rfl) ?_; refine (r28_Not.calls v r _ HK.out).mono ?_; rintro r' w4 ⟨rfl, hd_⟩; refine ⟨_, rfl, ?_⟩; simp only [Act.put, sa_, sz_, ss_]; have X4 := Lib.hid (below_step X3.out (Drawn0.below hd_)); clear hd_))
 go_ret
 exact ⟨rfl, below_step BB.out X4.out⟩
theorem r29_Share.half1 {x : S27} {st : List S103} {A0 A1 : Option Addr} {c0 c1 : Nat} {w : World} (hx : Kd.C k27 w A0 x.f6.length x.f6) (hc0 : x.f6.length ≤ c0) (hs : Kd.C k103 w A1 st.length st) (hc1 : st.length ≤ c1) {k : Nat} (ih : r29_Share.Ok k st) (hl : x.f6.length = 1) (h2 : x.f0 ≠ 12) (h3 : x.f0 ≠ 13) (h4 : x.f0 ≠ 14) :
  Calls Try.prog 27 #[.agg #[.int .i64 x.f0, .string x.f1, .string x.f2, .int .i64 x.f3, .int .i64 x.f4, .int .i64 x.f5.f0, .int .i64 x.f5.f1, .string x.f5.f2, .slice A0 x.f6.length c0], .slice A1 st.length c1] w fun e w' => e = .returned (.float .f64 4602678819172646912) ∧ Below w.heap.size w w' := by
 have HX := Lib.hid hx; have HS := Lib.hid hs; have HC := Lib.hid (And.intro hc0 hc1); have IH := Lib.hid ih
 have n2 : ((x.f6.length : Int) == 2) = false := beq_eq_false_iff_ne.2 (by omega); have n2' : ((x.f6.length : Int) != 2) = true := bne_iff_ne.2 (by omega); have n1 : ((x.f6.length : Int) == 1) = true := beq_iff_eq.2 (by omega); have o12 : (x.f0 == 12) = false := beq_eq_false_iff_ne.2 (by omega); have o13 : (x.f0 == 13) = false := beq_eq_false_iff_ne.2 (by omega); have o14 : (x.f0 == 14) = false := beq_eq_false_iff_ne.2 (by omega); clear hx hs hc0 hc1 ih
 go_enter Try.func27, Try.ntmps27
 go_wp2_with (((with_reducible refine gate_dst (N := 2) rfl ?_); refine box_event ?hg (N := 2) ?hd (cs := #[.int .i64 x.f0, .string x.f1, .string x.f2, .int .i64 x.f3, .int .i64 x.f4, .int .i64 x.f5.f0, .int .i64 x.f5.f1, .string x.f5.f2, .slice A0 x.f6.length c0]) (t := 27) ?hr ?_; (case hd => rfl); (case hg => rfl); (case hr => first | (go_simp; done) | (go_simp; rfl)); intro g hg_ wb hb_ hl_; have BK := Lib.hid hb_; have BB := Lib.hid hl_; have HG := Lib.hid (Nat.le_of_eq hg_.symm); obtain ⟨p0, p1, p2, p3, p4, p5, p6, p7, p8, q0, q1, q2, q3, q4, q5, q6, q7, q8⟩ := bw9_  hb_; clear hb_ hl_ hg_; simp only [Act.put, sa_, sz_, ss_]))
 go_ret
 exact ⟨rfl, BB.out⟩
theorem r29_Share.half13 {x : S27} {st : List S103} {A0 A1 : Option Addr} {c0 c1 : Nat} {w : World} (hx : Kd.C k27 w A0 x.f6.length x.f6) (hc0 : x.f6.length ≤ c0) (hs : Kd.C k103 w A1 st.length st) (hc1 : st.length ≤ c1) {k : Nat} (ih : r29_Share.Ok k st) (hl : x.f6.length = 1) (h3 : x.f0 = 13) (hf : (rd_T27 x.f6 0).f0 ≠ 15) :
  Calls Try.prog 27 #[.agg #[.int .i64 x.f0, .string x.f1, .string x.f2, .int .i64 x.f3, .int .i64 x.f4, .int .i64 x.f5.f0, .int .i64 x.f5.f1, .string x.f5.f2, .slice A0 x.f6.length c0], .slice A1 st.length c1] w fun e w' => e = .returned (.float .f64 4602678819172646912) ∧ Below w.heap.size w w' := by
 have HX := Lib.hid hx; have HS := Lib.hid hs; have HC := Lib.hid (And.intro hc0 hc1); have IH := Lib.hid ih
 have n2 : ((x.f6.length : Int) == 2) = false := beq_eq_false_iff_ne.2 (by omega); have n2' : ((x.f6.length : Int) != 2) = true := bne_iff_ne.2 (by omega); have n1 : ((x.f6.length : Int) == 1) = true := beq_iff_eq.2 (by omega); have o12 : (x.f0 == 12) = false := beq_eq_false_iff_ne.2 (by omega); have o13 : (x.f0 == 13) = true := beq_iff_eq.2 (by omega)
 have hl2 : (x.f6.length : Int) = 1 := by omega
 have ca : ((rd_T27 x.f6 0).f0 == 15) = false := beq_eq_false_iff_ne.2 (by omega); clear hx hs hc0 hc1 ih
 go_enter Try.func27, Try.ntmps27
 go_wp2_with (((with_reducible refine gate_dst (N := 2) rfl ?_); refine box_event ?hg (N := 2) ?hd (cs := #[.int .i64 x.f0, .string x.f1, .string x.f2, .int .i64 x.f3, .int .i64 x.f4, .int .i64 x.f5.f0, .int .i64 x.f5.f1, .string x.f5.f2, .slice A0 x.f6.length c0]) (t := 27) ?hr ?_; (case hd => rfl); (case hg => rfl); (case hr => first | (go_simp; done) | (go_simp; rfl)); intro g hg_ wb hb_ hl_; have BK := Lib.hid hb_; have BB := Lib.hid hl_; have HG := Lib.hid (Nat.le_of_eq hg_.symm); obtain ⟨p0, p1, p2, p3, p4, p5, p6, p7, p8, q0, q1, q2, q3, q4, q5, q6, q7, q8⟩ := bw9_  hb_; have m0 : (Int.toNat 0 * 9) = 0 := rfl; obtain ⟨ada, Ga, da, ea, xa0, xa1, xa2, xa3, xa4, xa5, xa6, xa7, xa8, la, ia⟩ := at_T27 (Kd.C_below HX.out BB.out) 0 (by decide) (by omega); subst ea; have z0 : ada.add 0 = ada := (by cases ada; simp [Addr.add]); simp only [m0, z0] at xa0 xa1 xa2 xa3 xa4 xa5 xa6 xa7 xa8; have LA := Lib.hid (And.intro la ia); clear la ia; clear hb_ hl_ hg_; simp only [Act.put, sa_, sz_, ss_]))
 go_ret
 exact ⟨rfl, BB.out⟩
theorem r29_Share.half14 {x : S27} {st : List S103} {A0 A1 : Option Addr} {c0 c1 : Nat} {w : World} (hx : Kd.C k27 w A0 x.f6.length x.f6) (hc0 : x.f6.length ≤ c0) (hs : Kd.C k103 w A1 st.length st) (hc1 : st.length ≤ c1) {k : Nat} (ih : r29_Share.Ok k st) (hl : x.f6.length = 1) (h3 : x.f0 = 14) (hf : (rd_T27 x.f6 0).f0 ≠ 15) :
  Calls Try.prog 27 #[.agg #[.int .i64 x.f0, .string x.f1, .string x.f2, .int .i64 x.f3, .int .i64 x.f4, .int .i64 x.f5.f0, .int .i64 x.f5.f1, .string x.f5.f2, .slice A0 x.f6.length c0], .slice A1 st.length c1] w fun e w' => e = .returned (.float .f64 4602678819172646912) ∧ Below w.heap.size w w' := by
 have HX := Lib.hid hx; have HS := Lib.hid hs; have HC := Lib.hid (And.intro hc0 hc1); have IH := Lib.hid ih
 have n2 : ((x.f6.length : Int) == 2) = false := beq_eq_false_iff_ne.2 (by omega); have n2' : ((x.f6.length : Int) != 2) = true := bne_iff_ne.2 (by omega); have n1 : ((x.f6.length : Int) == 1) = true := beq_iff_eq.2 (by omega); have o12 : (x.f0 == 12) = false := beq_eq_false_iff_ne.2 (by omega); have o13 : (x.f0 == 13) = false := beq_eq_false_iff_ne.2 (by omega); have o14 : (x.f0 == 14) = true := beq_iff_eq.2 (by omega)
 have hl2 : (x.f6.length : Int) = 1 := by omega
 have ca : ((rd_T27 x.f6 0).f0 == 15) = false := beq_eq_false_iff_ne.2 (by omega); clear hx hs hc0 hc1 ih
 go_enter Try.func27, Try.ntmps27
 go_wp2_with (((with_reducible refine gate_dst (N := 2) rfl ?_); refine box_event ?hg (N := 2) ?hd (cs := #[.int .i64 x.f0, .string x.f1, .string x.f2, .int .i64 x.f3, .int .i64 x.f4, .int .i64 x.f5.f0, .int .i64 x.f5.f1, .string x.f5.f2, .slice A0 x.f6.length c0]) (t := 27) ?hr ?_; (case hd => rfl); (case hg => rfl); (case hr => first | (go_simp; done) | (go_simp; rfl)); intro g hg_ wb hb_ hl_; have BK := Lib.hid hb_; have BB := Lib.hid hl_; have HG := Lib.hid (Nat.le_of_eq hg_.symm); obtain ⟨p0, p1, p2, p3, p4, p5, p6, p7, p8, q0, q1, q2, q3, q4, q5, q6, q7, q8⟩ := bw9_  hb_; have m0 : (Int.toNat 0 * 9) = 0 := rfl; obtain ⟨ada, Ga, da, ea, xa0, xa1, xa2, xa3, xa4, xa5, xa6, xa7, xa8, la, ia⟩ := at_T27 (Kd.C_below HX.out BB.out) 0 (by decide) (by omega); subst ea; have z0 : ada.add 0 = ada := (by cases ada; simp [Addr.add]); simp only [m0, z0] at xa0 xa1 xa2 xa3 xa4 xa5 xa6 xa7 xa8; have LA := Lib.hid (And.intro la ia); clear la ia; clear hb_ hl_ hg_; simp only [Act.put, sa_, sz_, ss_]))
 go_ret
 exact ⟨rfl, BB.out⟩
theorem r29_Share.half0 {x : S27} {st : List S103} {A0 A1 : Option Addr} {c0 c1 : Nat} {w : World} (hx : Kd.C k27 w A0 x.f6.length x.f6) (hc0 : x.f6.length ≤ c0) (hs : Kd.C k103 w A1 st.length st) (hc1 : st.length ≤ c1) {k : Nat} (ih : r29_Share.Ok k st) (hl : x.f6.length ≠ 1) (hl' : x.f6.length ≠ 2) :
  Calls Try.prog 27 #[.agg #[.int .i64 x.f0, .string x.f1, .string x.f2, .int .i64 x.f3, .int .i64 x.f4, .int .i64 x.f5.f0, .int .i64 x.f5.f1, .string x.f5.f2, .slice A0 x.f6.length c0], .slice A1 st.length c1] w fun e w' => e = .returned (.float .f64 4602678819172646912) ∧ Below w.heap.size w w' := by
 have HX := Lib.hid hx; have HS := Lib.hid hs; have HC := Lib.hid (And.intro hc0 hc1); have IH := Lib.hid ih
 have n2 : ((x.f6.length : Int) == 2) = false := beq_eq_false_iff_ne.2 (by omega); have n2' : ((x.f6.length : Int) != 2) = true := bne_iff_ne.2 (by omega); have n1 : ((x.f6.length : Int) == 1) = false := beq_eq_false_iff_ne.2 (by omega); clear hx hs hc0 hc1 ih
 go_enter Try.func27, Try.ntmps27
 go_wp2_with (((with_reducible refine gate_dst (N := 2) rfl ?_); refine box_event ?hg (N := 2) ?hd (cs := #[.int .i64 x.f0, .string x.f1, .string x.f2, .int .i64 x.f3, .int .i64 x.f4, .int .i64 x.f5.f0, .int .i64 x.f5.f1, .string x.f5.f2, .slice A0 x.f6.length c0]) (t := 27) ?hr ?_; (case hd => rfl); (case hg => rfl); (case hr => first | (go_simp; done) | (go_simp; rfl)); intro g hg_ wb hb_ hl_; have BK := Lib.hid hb_; have BB := Lib.hid hl_; have HG := Lib.hid (Nat.le_of_eq hg_.symm); obtain ⟨p0, p1, p2, p3, p4, p5, p6, p7, p8, q0, q1, q2, q3, q4, q5, q6, q7, q8⟩ := bw9_  hb_; clear hb_ hl_ hg_; simp only [Act.put, sa_, sz_, ss_]))
 go_ret
 exact ⟨rfl, BB.out⟩
theorem r29_Share.half2a {x : S27} {st : List S103} {A0 A1 : Option Addr} {c0 c1 : Nat} {w : World} (hx : Kd.C k27 w A0 x.f6.length x.f6) (hc0 : x.f6.length ≤ c0) (hs : Kd.C k103 w A1 st.length st) (hc1 : st.length ≤ c1) {k : Nat} (ih : r29_Share.Ok k st) (hl : x.f6.length = 2) (h0 : x.f0 < 1) :
  Calls Try.prog 27 #[.agg #[.int .i64 x.f0, .string x.f1, .string x.f2, .int .i64 x.f3, .int .i64 x.f4, .int .i64 x.f5.f0, .int .i64 x.f5.f1, .string x.f5.f2, .slice A0 x.f6.length c0], .slice A1 st.length c1] w fun e w' => e = .returned (.float .f64 4602678819172646912) ∧ Below w.heap.size w w' := by
 have HX := Lib.hid hx; have HS := Lib.hid hs; have HC := Lib.hid (And.intro hc0 hc1); have IH := Lib.hid ih
 have n2 : ((x.f6.length : Int) == 2) = true := beq_iff_eq.2 (by omega); have n2' : ((x.f6.length : Int) != 2) = false := bne_eq_false_iff_eq.2 (by omega); have n1 : ((x.f6.length : Int) == 1) = false := beq_eq_false_iff_ne.2 (by omega); have o10 : (x.f0 == 10) = false := beq_eq_false_iff_ne.2 (by omega); have o11 : (x.f0 == 11) = false := beq_eq_false_iff_ne.2 (by omega); have lo : (decide (x.f0 < 1)) = true := decide_eq_true (by omega); clear hx hs hc0 hc1 ih
 go_enter Try.func27, Try.ntmps27
 go_wp2_with (((with_reducible refine gate_dst (N := 2) rfl ?_); refine box_event ?hg (N := 2) ?hd (cs := #[.int .i64 x.f0, .string x.f1, .string x.f2, .int .i64 x.f3, .int .i64 x.f4, .int .i64 x.f5.f0, .int .i64 x.f5.f1, .string x.f5.f2, .slice A0 x.f6.length c0]) (t := 27) ?hr ?_; (case hd => rfl); (case hg => rfl); (case hr => first | (go_simp; done) | (go_simp; rfl)); intro g hg_ wb hb_ hl_; have BK := Lib.hid hb_; have BB := Lib.hid hl_; have HG := Lib.hid (Nat.le_of_eq hg_.symm); obtain ⟨p0, p1, p2, p3, p4, p5, p6, p7, p8, q0, q1, q2, q3, q4, q5, q6, q7, q8⟩ := bw9_  hb_; clear hb_ hl_ hg_; simp only [Act.put, sa_, sz_, ss_]))
 go_ret
 exact ⟨rfl, BB.out⟩
theorem r29_Share.half2b {x : S27} {st : List S103} {A0 A1 : Option Addr} {c0 c1 : Nat} {w : World} (hx : Kd.C k27 w A0 x.f6.length x.f6) (hc0 : x.f6.length ≤ c0) (hs : Kd.C k103 w A1 st.length st) (hc1 : st.length ≤ c1) {k : Nat} (ih : r29_Share.Ok k st) (hl : x.f6.length = 2) (h0 : 6 < x.f0) (h1 : x.f0 ≠ 10) (h2 : x.f0 ≠ 11) :
  Calls Try.prog 27 #[.agg #[.int .i64 x.f0, .string x.f1, .string x.f2, .int .i64 x.f3, .int .i64 x.f4, .int .i64 x.f5.f0, .int .i64 x.f5.f1, .string x.f5.f2, .slice A0 x.f6.length c0], .slice A1 st.length c1] w fun e w' => e = .returned (.float .f64 4602678819172646912) ∧ Below w.heap.size w w' := by
 have HX := Lib.hid hx; have HS := Lib.hid hs; have HC := Lib.hid (And.intro hc0 hc1); have IH := Lib.hid ih
 have n2 : ((x.f6.length : Int) == 2) = true := beq_iff_eq.2 (by omega); have n2' : ((x.f6.length : Int) != 2) = false := bne_eq_false_iff_eq.2 (by omega); have n1 : ((x.f6.length : Int) == 1) = false := beq_eq_false_iff_ne.2 (by omega); have o10 : (x.f0 == 10) = false := beq_eq_false_iff_ne.2 (by omega); have o11 : (x.f0 == 11) = false := beq_eq_false_iff_ne.2 (by omega); have lo : (decide (x.f0 < 1)) = false := decide_eq_false (by omega); have hi : (decide (6 < x.f0)) = true := decide_eq_true (by omega); clear hx hs hc0 hc1 ih
 go_enter Try.func27, Try.ntmps27
 go_wp2_with (((with_reducible refine gate_dst (N := 2) rfl ?_); refine box_event ?hg (N := 2) ?hd (cs := #[.int .i64 x.f0, .string x.f1, .string x.f2, .int .i64 x.f3, .int .i64 x.f4, .int .i64 x.f5.f0, .int .i64 x.f5.f1, .string x.f5.f2, .slice A0 x.f6.length c0]) (t := 27) ?hr ?_; (case hd => rfl); (case hg => rfl); (case hr => first | (go_simp; done) | (go_simp; rfl)); intro g hg_ wb hb_ hl_; have BK := Lib.hid hb_; have BB := Lib.hid hl_; have HG := Lib.hid (Nat.le_of_eq hg_.symm); obtain ⟨p0, p1, p2, p3, p4, p5, p6, p7, p8, q0, q1, q2, q3, q4, q5, q6, q7, q8⟩ := bw9_  hb_; clear hb_ hl_ hg_; simp only [Act.put, sa_, sz_, ss_]))
 go_ret
 exact ⟨rfl, BB.out⟩
theorem r29_Share.test1 {x : S27} {st : List S103} {A0 A1 : Option Addr} {c0 c1 : Nat} {w : World} (hx : Kd.C k27 w A0 x.f6.length x.f6) (hc0 : x.f6.length ≤ c0) (hs : Kd.C k103 w A1 st.length st) (hc1 : st.length ≤ c1) {k : Nat} (ih : r29_Share.Ok k st) (hl : x.f6.length = 2) (h1 : 1 ≤ x.f0) (h6 : x.f0 ≤ 6) {r : Nat} (fa : (rd_T27 x.f6 0).f0 = 15) (numb : r29_number.f (rd_T27 x.f6 1).f0 (rd_T27 x.f6 1).f1 (rd_T27 x.f6 1).f2 (rd_T27 x.f6 1).f3 (rd_T27 x.f6 1).f4 (rd_T27 x.f6 1).f5.f0 (rd_T27 x.f6 1).f5.f1 (rd_T27 x.f6 1).f5.f2 (rd_T27 x.f6 1).f6 = some true) (hk : r29_against.f k st (rd_T27 x.f6 0).f3 (rd_T27 x.f6 0).f4 x.f0 (rd_T27 x.f6 1).f5.f1 = some r) :
  Calls Try.prog 27 #[.agg #[.int .i64 x.f0, .string x.f1, .string x.f2, .int .i64 x.f3, .int .i64 x.f4, .int .i64 x.f5.f0, .int .i64 x.f5.f1, .string x.f5.f2, .slice A0 x.f6.length c0], .slice A1 st.length c1] w fun e w' => e = .returned (.float .f64 r) ∧ Below w.heap.size w w' := by
 have HX := Lib.hid hx; have HS := Lib.hid hs; have HC := Lib.hid (And.intro hc0 hc1); have IH := Lib.hid ih; have HK := Lib.hid hk
 have n2 : ((x.f6.length : Int) == 2) = true := beq_iff_eq.2 (by omega); have n2' : ((x.f6.length : Int) != 2) = false := bne_eq_false_iff_eq.2 (by omega); have n1 : ((x.f6.length : Int) == 1) = false := beq_eq_false_iff_ne.2 (by omega); have o10 : (x.f0 == 10) = false := beq_eq_false_iff_ne.2 (by omega); have o11 : (x.f0 == 11) = false := beq_eq_false_iff_ne.2 (by omega); have lo : (decide (x.f0 < 1)) = false := decide_eq_false (by omega); have hi : (decide (6 < x.f0)) = false := decide_eq_false (by omega)
 have hl2 : (x.f6.length : Int) = 2 := by omega
 have ca : ((rd_T27 x.f6 0).f0 == 15) = true := beq_iff_eq.2 (by omega); have Nb : Hid (r29_number.f (rd_T27 x.f6 1).f0 (rd_T27 x.f6 1).f1 (rd_T27 x.f6 1).f2 (rd_T27 x.f6 1).f3 (rd_T27 x.f6 1).f4 (rd_T27 x.f6 1).f5.f0 (rd_T27 x.f6 1).f5.f1 (rd_T27 x.f6 1).f5.f2 (rd_T27 x.f6 1).f6 = some true) := Lib.hid numb; clear hx hs hc0 hc1 ih hk numb fa
 go_enter Try.func27, Try.ntmps27
 go_wp2_with (((with_reducible refine gate_dst (N := 2) rfl ?_); refine box_event ?hg (N := 2) ?hd (cs := #[.int .i64 x.f0, .string x.f1, .string x.f2, .int .i64 x.f3, .int .i64 x.f4, .int .i64 x.f5.f0, .int .i64 x.f5.f1, .string x.f5.f2, .slice A0 x.f6.length c0]) (t := 27) ?hr ?_; (case hd => rfl); (case hg => rfl); (case hr => first | (go_simp; done) | (go_simp; rfl)); intro g hg_ wb hb_ hl_; have BK := Lib.hid hb_; have BB := Lib.hid hl_; have HG := Lib.hid (Nat.le_of_eq hg_.symm); obtain ⟨p0, p1, p2, p3, p4, p5, p6, p7, p8, q0, q1, q2, q3, q4, q5, q6, q7, q8⟩ := bw9_  hb_; clear hb_ hl_ hg_; simp only [Act.put, sa_, sz_, ss_]))
 have m0 : (Int.toNat 0 * 9) = 0 := rfl; have m1 : (Int.toNat 1 * 9) = 9 := rfl; obtain ⟨ada, Ga, da, ea, xa0, xa1, xa2, xa3, xa4, xa5, xa6, xa7, xa8, la, ia⟩ := at_T27 (Kd.C_below HX.out BB.out) 0 (by decide) (by omega); subst ea; obtain ⟨adb, Gb, db, eb, xb0, xb1, xb2, xb3, xb4, xb5, xb6, xb7, xb8, lb, ib⟩ := at_T27 (Kd.C_below HX.out BB.out) 1 (by decide) (by omega)
 obtain rfl : ada = adb := by injection eb
 clear eb
 have LA := Lib.hid (And.intro la ia); have LB := Lib.hid (And.intro lb ib); clear la ia lb ib
 have z0 : ada.add 0 = ada := by cases ada; simp [Addr.add]
 have z9 : ada.add 9 = ⟨ada.block, ada.off + 9, none⟩ := by have h := add_field ada 0 9 (by decide); rw [z0] at h; exact h
 simp only [m0, m1, z0, z9] at xa0 xa1 xa2 xa3 xa4 xa5 xa6 xa7 xa8 xb0 xb1 xb2 xb3 xb4 xb5 xb6 xb7 xb8; clear z0 z9; refine start_ (n := 12) (S := fun w' => Below wb.heap.size wb w') (ds := []) #[false, false, false, false, false, false, false, false, false, false, false, false] (by kernel_rfl) rfl rfl (Below.drew (Below.refl _ _)) (fun hHeld => ?_)
 generalize wb.drew = wc at hHeld ⊢
 refine pure_ (i := 0) (N := some 128) (v := ?_) (a' := ?_) #[true, false, false, false, false, false, false, false, false, false, false, false] rfl rfl (by kernel_rfl) (fun _ _ _ h => h) (Or.inl ⟨by rfl, ?_⟩) ?_ ?_; rotate_left
 ·intro w'
  go_simp; (with_reducible rfl)
 rotate_left
 ·simp only [Act.put, sa_, sz_, ss_, i64_w, i32_w]
  rfl
 refine take_ (i := 1) (N := some 129) (v := ?_) (a' := ?_) #[true, true, false, false, false, false, false, false, false, false, false, false] rfl rfl (by kernel_rfl) (fun _ _ _ h => h) (Or.inl ⟨by rfl, ?_⟩) hHeld ?_ ?_; rotate_left
 ·intro w' hS; obtain ⟨p0, p1, p2, p3, p4, p5, p6, p7, p8, q0, q1, q2, q3, q4, q5, q6, q7, q8⟩ := bw9_ (blk_below BK.out hS); go_simp; (with_reducible rfl)
 rotate_left
 ·simp only [Act.put, sa_, sz_, ss_, i64_w, i32_w]
  rfl
 refine pure_ (i := 2) (N := some 130) (v := ?_) (a' := ?_) #[true, true, true, false, false, false, false, false, false, false, false, false] rfl rfl (by kernel_rfl) (fun _ _ _ h => h) (Or.inl ⟨by rfl, ?_⟩) ?_ ?_; rotate_left
 ·intro w'
  go_simp; (with_reducible rfl)
 rotate_left
 ·simp only [Act.put, sa_, sz_, ss_, i64_w, i32_w]
  rfl
 refine take_ (i := 3) (N := some 131) (v := ?_) (a' := ?_) #[true, true, true, true, false, false, false, false, false, false, false, false] rfl rfl (by kernel_rfl) (fun _ _ _ h => h) (Or.inl ⟨by rfl, ?_⟩) hHeld ?_ ?_; rotate_left
 ·intro w' hS; have ua0 := pw_cell_below hS xa0; have ua1 := pw_cell_below hS xa1; have ua2 := pw_cell_below hS xa2; have ua3 := pw_cell_below hS xa3; have ua4 := pw_cell_below hS xa4; have ua5 := pw_cell_below hS xa5; have ua6 := pw_cell_below hS xa6; have ua7 := pw_cell_below hS xa7; have ua8 := pw_cell_below hS xa8; go_simp; (with_reducible rfl)
 rotate_left
 ·simp only [Act.put, sa_, sz_, ss_, i64_w, i32_w]
  rfl
 refine pure_ (i := 4) (N := some 132) (v := ?_) (a' := ?_) #[true, true, true, true, true, false, false, false, false, false, false, false] rfl rfl (by kernel_rfl) (fun _ _ _ h => h) (Or.inl ⟨by rfl, ?_⟩) ?_ ?_; rotate_left
 ·intro w'
  go_simp; (with_reducible rfl)
 rotate_left
 ·simp only [Act.put, sa_, sz_, ss_, i64_w, i32_w]
  rfl
 refine take_ (i := 5) (N := some 133) (v := ?_) (a' := ?_) #[true, true, true, true, true, true, false, false, false, false, false, false] rfl rfl (by kernel_rfl) (fun _ _ _ h => h) (Or.inl ⟨by rfl, ?_⟩) hHeld ?_ ?_; rotate_left
 ·intro w' hS; obtain ⟨p0, p1, p2, p3, p4, p5, p6, p7, p8, q0, q1, q2, q3, q4, q5, q6, q7, q8⟩ := bw9_ (blk_below BK.out hS); go_simp; (with_reducible rfl)
 rotate_left
 ·simp only [Act.put, sa_, sz_, ss_, i64_w, i32_w]
  rfl
 refine pure_ (i := 6) (N := some 134) (v := ?_) (a' := ?_) #[true, true, true, true, true, true, true, false, false, false, false, false] rfl rfl (by kernel_rfl) (fun _ _ _ h => h) (Or.inl ⟨by rfl, ?_⟩) ?_ ?_; rotate_left
 ·intro w'
  go_simp; (with_reducible rfl)
 rotate_left
 ·simp only [Act.put, sa_, sz_, ss_, i64_w, i32_w]
  rfl
 refine take_ (i := 7) (N := some 135) (v := ?_) (a' := ?_) #[true, true, true, true, true, true, true, true, false, false, false, false] rfl rfl (by kernel_rfl) (fun _ _ _ h => h) (Or.inl ⟨by rfl, ?_⟩) hHeld ?_ ?_; rotate_left
 ·intro w' hS; have ub0 := pw_cell_below hS xb0; have ub1 := pw_cell_below hS xb1; have ub2 := pw_cell_below hS xb2; have ub3 := pw_cell_below hS xb3; have ub4 := pw_cell_below hS xb4; have ub5 := pw_cell_below hS xb5; have ub6 := pw_cell_below hS xb6; have ub7 := pw_cell_below hS xb7; have ub8 := pw_cell_below hS xb8; go_simp; (with_reducible rfl)
 rotate_left
 ·simp only [Act.put, sa_, sz_, ss_, i64_w, i32_w]
  rfl
 refine two_ (i := 8) (j := 9) (Ni := some 7) (Nj := some 8) #[true, true, true, true, true, true, true, true, true, false, false, false] #[true, true, true, true, true, true, true, true, false, true, false, false] rfl rfl rfl rfl (by kernel_rfl) (by decide) (by decide) (fun K hK => ?arm1) (fun K hK => ?arm2)
 case' arm1 =>
  refine r29_Share.boxV (by rfl) rfl (cs := #[.int .i64 0, .string (⟨#[]⟩ : ByteArray), .string (⟨#[]⟩ : ByteArray), .int .i64 0, .int .i64 0, .int .i64 0, .int .i64 0, .string (⟨#[]⟩ : ByteArray), .slice none 0 0]) (t := 27) ?hr ?_; (case hr => first | (go_simp; done) | (go_simp; rfl)); intro ga hg_ w1 hb_ hl_; have G_ga := Lib.hid hb_; have X1 := Lib.hid (below_step hHeld hl_); have H_ga := Lib.hid (show wb.heap.size ≤ ga from by rw [hg_]; exact (hHeld).size); clear hb_ hl_ hg_; refine hK.out _ _ (X1.out) (fun hHeld => ?_); clear hK K; refine norm_ (a' := ?_) ?_ ?_; rotate_left
  ·show Act.put _ (some 7) _ = _
   simp only [Act.put, sa_, sz_, ss_, i64_w, i32_w]; rfl
  refine one_ (i := 9) (N := some 8) #[true, true, true, true, true, true, true, true, true, true, false, false] rfl rfl (by kernel_rfl) (by decide) (fun K hK => ?_)
  refine r29_Share.boxV (by rfl) rfl (cs := #[.int .i64 0, .string (⟨#[]⟩ : ByteArray), .string (⟨#[]⟩ : ByteArray), .int .i64 0, .int .i64 0, .int .i64 0, .int .i64 0, .string (⟨#[]⟩ : ByteArray), .slice none 0 0]) (t := 27) ?hr ?_; (case hr => first | (go_simp; done) | (go_simp; rfl)); intro gb hg_ w2 hb_ hl_; have G_gb := Lib.hid hb_; have X2 := Lib.hid (below_step X1.out hl_); have H_gb := Lib.hid (show wb.heap.size ≤ gb from by rw [hg_]; exact (X1.out).size); have NE := Lib.hid (show ga ≠ gb from by have h := blk_lt G_ga.out; rw [hg_]; exact Nat.ne_of_lt h); have GA := Lib.hid (blk_below G_ga.out hl_); have GB := G_gb; clear hb_ hl_ hg_; refine hK.out _ _ (X2.out) (fun hHeld => ?_); clear hK K; refine norm_ (a' := ?_) ?_ ?_; rotate_left
  ·show Act.put _ (some 8) _ = _
   simp only [Act.put, sa_, sz_, ss_, i64_w, i32_w]; rfl
  obtain ⟨z0, z1, z2, z3, z4, z5, z6, z7, z8, y0, y1, y2, y3, y4, y5, y6, y7, y8⟩ := bw9_ (GA.out)
  refine one_ (i := 10) (N := none) #[true, true, true, true, true, true, true, true, true, true, true, false] rfl rfl (by kernel_rfl) (by decide) (fun K hK => ?_); refine skip_ (w1 := ?W10a) ?A10a ?B10a ?C10a ?D10a; (case A10a => rfl); (case B10a => rfl)
  case C10a =>
   go_simp; rfl
  (with_reducible refine hK.out _ _ ?S10a (fun hHeld2 => ?_))
  case S10a => exact X2.out.trans (r29_Share.st_below (v0 := .int .i64 (rd_T27 x.f6 0).f0) (v1 := .string (rd_T27 x.f6 0).f1) (v2 := .string (rd_T27 x.f6 0).f2) (v3 := .int .i64 (rd_T27 x.f6 0).f3) (v4 := .int .i64 (rd_T27 x.f6 0).f4) (v5 := .int .i64 (rd_T27 x.f6 0).f5.f0) (v6 := .int .i64 (rd_T27 x.f6 0).f5.f1) (v7 := .string (rd_T27 x.f6 0).f5.f2) (v8 := .slice Ga (rd_T27 x.f6 0).f6.length da) H_ga.out)
  clear hK K; obtain ⟨V, hV, h1_, h2_, hB_⟩ := r29_Share.one_in (n := wb.heap.size) (w := wb) (a := ga) (v0 := .int .i64 (rd_T27 x.f6 0).f0) (v1 := .string (rd_T27 x.f6 0).f1) (v2 := .string (rd_T27 x.f6 0).f2) (v3 := .int .i64 (rd_T27 x.f6 0).f3) (v4 := .int .i64 (rd_T27 x.f6 0).f4) (v5 := .int .i64 (rd_T27 x.f6 0).f5.f0) (v6 := .int .i64 (rd_T27 x.f6 0).f5.f1) (v7 := .string (rd_T27 x.f6 0).f5.f2) (v8 := .slice Ga (rd_T27 x.f6 0).f6.length da) X2.out H_ga.out GA.out
  unfold r29_Share.st9 at hV; rw [← hV]; clear hV; have X3 := Lib.hid hB_; clear hB_ hHeld2
  have GB' := Lib.hid ((h2_ gb (fun e => NE.out e.symm)).trans GB.out); have VG' := Lib.hid ((h2_ _ (by have h := H_ga.out; have h' := blk_lt BK.out; omega)).trans (blk_below BK.out X2.out)); have GA' := Lib.hid h1_; clear h1_ h2_ GA GB X2
  clear z0 z1 z2 z3 z4 z5 z6 z7 z8 y0 y1 y2 y3 y4 y5 y6 y7 y8; obtain ⟨z0, z1, z2, z3, z4, z5, z6, z7, z8, y0, y1, y2, y3, y4, y5, y6, y7, y8⟩ := bw9_ (GB'.out)
  refine one_ (i := 11) (N := none) #[true, true, true, true, true, true, true, true, true, true, true, true] rfl rfl (by kernel_rfl) (by decide) (fun K hK => ?_); refine skip_ (w1 := ?W11a) ?A11a ?B11a ?C11a ?D11a; (case A11a => rfl); (case B11a => rfl)
  case C11a =>
   go_simp; rfl
  (with_reducible refine hK.out _ _ ?S11a (fun hHeld2 => ?_))
  case S11a => exact X3.out.trans (r29_Share.st_below (v0 := .int .i64 (rd_T27 x.f6 1).f0) (v1 := .string (rd_T27 x.f6 1).f1) (v2 := .string (rd_T27 x.f6 1).f2) (v3 := .int .i64 (rd_T27 x.f6 1).f3) (v4 := .int .i64 (rd_T27 x.f6 1).f4) (v5 := .int .i64 (rd_T27 x.f6 1).f5.f0) (v6 := .int .i64 (rd_T27 x.f6 1).f5.f1) (v7 := .string (rd_T27 x.f6 1).f5.f2) (v8 := .slice Gb (rd_T27 x.f6 1).f6.length db) H_gb.out)
  clear hK K; obtain ⟨V, hV, h1_, h2_, hB_⟩ := r29_Share.one_in (n := wb.heap.size) (w := wb) (a := gb) (v0 := .int .i64 (rd_T27 x.f6 1).f0) (v1 := .string (rd_T27 x.f6 1).f1) (v2 := .string (rd_T27 x.f6 1).f2) (v3 := .int .i64 (rd_T27 x.f6 1).f3) (v4 := .int .i64 (rd_T27 x.f6 1).f4) (v5 := .int .i64 (rd_T27 x.f6 1).f5.f0) (v6 := .int .i64 (rd_T27 x.f6 1).f5.f1) (v7 := .string (rd_T27 x.f6 1).f5.f2) (v8 := .slice Gb (rd_T27 x.f6 1).f6.length db) X3.out H_gb.out GB'.out
  unfold r29_Share.st9 at hV; rw [← hV]; clear hV; have XV := Lib.hid hB_; clear hB_ hHeld2
  have VA := Lib.hid ((h2_ ga NE.out).trans GA'.out); have VG := Lib.hid ((h2_ _ (by have h := H_gb.out; have h' := blk_lt BK.out; omega)).trans VG'.out); have VB := Lib.hid h1_; clear h1_ h2_ GA' GB' VG' X3 X1 G_ga G_gb NE H_ga H_gb
  refine done_ (by kernel_rfl) ?_; clear z0 z1 z2 z3 z4 z5 z6 z7 z8 y0 y1 y2 y3 y4 y5 y6 y7 y8 p0 p1 p2 p3 p4 p5 p6 p7 p8 q0 q1 q2 q3 q4 q5 q6 q7 q8
  obtain ⟨p0, p1, p2, p3, p4, p5, p6, p7, p8, q0, q1, q2, q3, q4, q5, q6, q7, q8⟩ := bw9_ VG.out; obtain ⟨s0, s1, s2, s3, s4, s5, s6, s7, s8, r0, r1, r2, r3, r4, r5, r6, r7, r8⟩ := bw9_ (VA.out); obtain ⟨t0, t1, t2, t3, t4, t5, t6, t7, t8, i0, i1, i2, i3, i4, i5, i6, i7, i8⟩ := bw9_ (VB.out)
 case' arm2 =>
  refine r29_Share.boxV (by rfl) rfl (cs := #[.int .i64 0, .string (⟨#[]⟩ : ByteArray), .string (⟨#[]⟩ : ByteArray), .int .i64 0, .int .i64 0, .int .i64 0, .int .i64 0, .string (⟨#[]⟩ : ByteArray), .slice none 0 0]) (t := 27) ?hr ?_; (case hr => first | (go_simp; done) | (go_simp; rfl)); intro gb hg_ w1 hb_ hl_; have G_gb := Lib.hid hb_; have X1 := Lib.hid (below_step hHeld hl_); have H_gb := Lib.hid (show wb.heap.size ≤ gb from by rw [hg_]; exact (hHeld).size); clear hb_ hl_ hg_; refine hK.out _ _ (X1.out) (fun hHeld => ?_); clear hK K; refine norm_ (a' := ?_) ?_ ?_; rotate_left
  ·show Act.put _ (some 8) _ = _
   simp only [Act.put, sa_, sz_, ss_, i64_w, i32_w]; rfl
  refine one_ (i := 8) (N := some 7) #[true, true, true, true, true, true, true, true, true, true, false, false] rfl rfl (by kernel_rfl) (by decide) (fun K hK => ?_)
  refine r29_Share.boxV (by rfl) rfl (cs := #[.int .i64 0, .string (⟨#[]⟩ : ByteArray), .string (⟨#[]⟩ : ByteArray), .int .i64 0, .int .i64 0, .int .i64 0, .int .i64 0, .string (⟨#[]⟩ : ByteArray), .slice none 0 0]) (t := 27) ?hr ?_; (case hr => first | (go_simp; done) | (go_simp; rfl)); intro ga hg_ w2 hb_ hl_; have G_ga := Lib.hid hb_; have X2 := Lib.hid (below_step X1.out hl_); have H_ga := Lib.hid (show wb.heap.size ≤ ga from by rw [hg_]; exact (X1.out).size); have NE := Lib.hid (show ga ≠ gb from by have h := blk_lt G_gb.out; rw [hg_]; exact (Nat.ne_of_lt h).symm); have GB := Lib.hid (blk_below G_gb.out hl_); have GA := G_ga; clear hb_ hl_ hg_; refine hK.out _ _ (X2.out) (fun hHeld => ?_); clear hK K; refine norm_ (a' := ?_) ?_ ?_; rotate_left
  ·show Act.put _ (some 7) _ = _
   simp only [Act.put, sa_, sz_, ss_, i64_w, i32_w]; rfl
  obtain ⟨z0, z1, z2, z3, z4, z5, z6, z7, z8, y0, y1, y2, y3, y4, y5, y6, y7, y8⟩ := bw9_ (GA.out)
  refine one_ (i := 10) (N := none) #[true, true, true, true, true, true, true, true, true, true, true, false] rfl rfl (by kernel_rfl) (by decide) (fun K hK => ?_); refine skip_ (w1 := ?W10b) ?A10b ?B10b ?C10b ?D10b; (case A10b => rfl); (case B10b => rfl)
  case C10b =>
   go_simp; rfl
  (with_reducible refine hK.out _ _ ?S10b (fun hHeld2 => ?_))
  case S10b => exact X2.out.trans (r29_Share.st_below (v0 := .int .i64 (rd_T27 x.f6 0).f0) (v1 := .string (rd_T27 x.f6 0).f1) (v2 := .string (rd_T27 x.f6 0).f2) (v3 := .int .i64 (rd_T27 x.f6 0).f3) (v4 := .int .i64 (rd_T27 x.f6 0).f4) (v5 := .int .i64 (rd_T27 x.f6 0).f5.f0) (v6 := .int .i64 (rd_T27 x.f6 0).f5.f1) (v7 := .string (rd_T27 x.f6 0).f5.f2) (v8 := .slice Ga (rd_T27 x.f6 0).f6.length da) H_ga.out)
  clear hK K; obtain ⟨V, hV, h1_, h2_, hB_⟩ := r29_Share.one_in (n := wb.heap.size) (w := wb) (a := ga) (v0 := .int .i64 (rd_T27 x.f6 0).f0) (v1 := .string (rd_T27 x.f6 0).f1) (v2 := .string (rd_T27 x.f6 0).f2) (v3 := .int .i64 (rd_T27 x.f6 0).f3) (v4 := .int .i64 (rd_T27 x.f6 0).f4) (v5 := .int .i64 (rd_T27 x.f6 0).f5.f0) (v6 := .int .i64 (rd_T27 x.f6 0).f5.f1) (v7 := .string (rd_T27 x.f6 0).f5.f2) (v8 := .slice Ga (rd_T27 x.f6 0).f6.length da) X2.out H_ga.out GA.out
  unfold r29_Share.st9 at hV; rw [← hV]; clear hV; have X3 := Lib.hid hB_; clear hB_ hHeld2
  have GB' := Lib.hid ((h2_ gb (fun e => NE.out e.symm)).trans GB.out); have VG' := Lib.hid ((h2_ _ (by have h := H_ga.out; have h' := blk_lt BK.out; omega)).trans (blk_below BK.out X2.out)); have GA' := Lib.hid h1_; clear h1_ h2_ GA GB X2
  clear z0 z1 z2 z3 z4 z5 z6 z7 z8 y0 y1 y2 y3 y4 y5 y6 y7 y8; obtain ⟨z0, z1, z2, z3, z4, z5, z6, z7, z8, y0, y1, y2, y3, y4, y5, y6, y7, y8⟩ := bw9_ (GB'.out)
  refine one_ (i := 11) (N := none) #[true, true, true, true, true, true, true, true, true, true, true, true] rfl rfl (by kernel_rfl) (by decide) (fun K hK => ?_); refine skip_ (w1 := ?W11b) ?A11b ?B11b ?C11b ?D11b; (case A11b => rfl); (case B11b => rfl)
  case C11b =>
   go_simp; rfl
  (with_reducible refine hK.out _ _ ?S11b (fun hHeld2 => ?_))
  case S11b => exact X3.out.trans (r29_Share.st_below (v0 := .int .i64 (rd_T27 x.f6 1).f0) (v1 := .string (rd_T27 x.f6 1).f1) (v2 := .string (rd_T27 x.f6 1).f2) (v3 := .int .i64 (rd_T27 x.f6 1).f3) (v4 := .int .i64 (rd_T27 x.f6 1).f4) (v5 := .int .i64 (rd_T27 x.f6 1).f5.f0) (v6 := .int .i64 (rd_T27 x.f6 1).f5.f1) (v7 := .string (rd_T27 x.f6 1).f5.f2) (v8 := .slice Gb (rd_T27 x.f6 1).f6.length db) H_gb.out)
  clear hK K; obtain ⟨V, hV, h1_, h2_, hB_⟩ := r29_Share.one_in (n := wb.heap.size) (w := wb) (a := gb) (v0 := .int .i64 (rd_T27 x.f6 1).f0) (v1 := .string (rd_T27 x.f6 1).f1) (v2 := .string (rd_T27 x.f6 1).f2) (v3 := .int .i64 (rd_T27 x.f6 1).f3) (v4 := .int .i64 (rd_T27 x.f6 1).f4) (v5 := .int .i64 (rd_T27 x.f6 1).f5.f0) (v6 := .int .i64 (rd_T27 x.f6 1).f5.f1) (v7 := .string (rd_T27 x.f6 1).f5.f2) (v8 := .slice Gb (rd_T27 x.f6 1).f6.length db) X3.out H_gb.out GB'.out
  unfold r29_Share.st9 at hV; rw [← hV]; clear hV; have XV := Lib.hid hB_; clear hB_ hHeld2
  have VA := Lib.hid ((h2_ ga NE.out).trans GA'.out); have VG := Lib.hid ((h2_ _ (by have h := H_gb.out; have h' := blk_lt BK.out; omega)).trans VG'.out); have VB := Lib.hid h1_; clear h1_ h2_ GA' GB' VG' X3 X1 G_ga G_gb NE H_ga H_gb
  refine done_ (by kernel_rfl) ?_; clear z0 z1 z2 z3 z4 z5 z6 z7 z8 y0 y1 y2 y3 y4 y5 y6 y7 y8 p0 p1 p2 p3 p4 p5 p6 p7 p8 q0 q1 q2 q3 q4 q5 q6 q7 q8
  obtain ⟨p0, p1, p2, p3, p4, p5, p6, p7, p8, q0, q1, q2, q3, q4, q5, q6, q7, q8⟩ := bw9_ VG.out; obtain ⟨s0, s1, s2, s3, s4, s5, s6, s7, s8, r0, r1, r2, r3, r4, r5, r6, r7, r8⟩ := bw9_ (VA.out); obtain ⟨t0, t1, t2, t3, t4, t5, t6, t7, t8, i0, i1, i2, i3, i4, i5, i6, i7, i8⟩ := bw9_ (VB.out)
 all_goals
  go_wp2_with (first
    | ((with_reducible refine gate_callee (f := 64) rfl ?_); (try (refine gate_guard (by rfl) ?_; dsimp only)); refine goesL_ (some 141) rfl rfl Try.func64 (by kernel_rfl) rfl #[.agg #[.int .i64 (rd_T27 x.f6 1).f0, .string (rd_T27 x.f6 1).f1, .string (rd_T27 x.f6 1).f2, .int .i64 (rd_T27 x.f6 1).f3, .int .i64 (rd_T27 x.f6 1).f4, .int .i64 (rd_T27 x.f6 1).f5.f0, .int .i64 (rd_T27 x.f6 1).f5.f1, .string (rd_T27 x.f6 1).f5.f2, .slice Gb (rd_T27 x.f6 1).f6.length db]] rfl (by (try simp only [List.map_toArray, List.map_cons, List.map_nil]); first | done | rfl) ?_; refine (r29_number.calls _ _ _ _ _ _ _ _ Gb db _ true _ (Kd.C_below LB.out.2 XV.out) LB.out.1 Nb.out).mono ?_; rintro r' w3 ⟨rfl, hb_⟩; refine ⟨_, rfl, ?_⟩; simp only [Act.put, sa_, sz_, ss_]; have XV1 := Lib.hid (below_step XV.out hb_); have VG1 := Lib.hid (blk_below VG.out hb_); have VA1 := Lib.hid (blk_below VA.out hb_); have VB1 := Lib.hid (blk_below VB.out hb_); clear p0 p1 p2 p3 p4 p5 p6 p7 p8 q0 q1 q2 q3 q4 q5 q6 q7 q8 s0 s1 s2 s3 s4 s5 s6 s7 s8 r0 r1 r2 r3 r4 r5 r6 r7 r8 t0 t1 t2 t3 t4 t5 t6 t7 t8 i0 i1 i2 i3 i4 i5 i6 i7 i8; obtain ⟨p0, p1, p2, p3, p4, p5, p6, p7, p8, q0, q1, q2, q3, q4, q5, q6, q7, q8⟩ := bw9_ VG1.out; obtain ⟨s0, s1, s2, s3, s4, s5, s6, s7, s8, r0, r1, r2, r3, r4, r5, r6, r7, r8⟩ := bw9_ (VA1.out); obtain ⟨t0, t1, t2, t3, t4, t5, t6, t7, t8, i0, i1, i2, i3, i4, i5, i6, i7, i8⟩ := bw9_ (VB1.out); clear hb_)
    | ((with_reducible refine gate_callee (f := 65) rfl ?_); (try (refine gate_guard (by rfl) ?_; dsimp only)); refine goesL_ (some 153) rfl rfl Try.func65 (by kernel_rfl) rfl #[.slice A1 st.length c1, .int .i64 (rd_T27 x.f6 0).f3, .int .i64 (rd_T27 x.f6 0).f4, .int .i64 x.f0, .int .i64 (rd_T27 x.f6 1).f5.f1] rfl (by (try simp only [List.map_toArray, List.map_cons, List.map_nil]); first | done | rfl) ?_; refine (r29_against.calls k A1 c1 st _ _ _ _ r _ (Kd.C_below HS.out (below_step BB.out XV1.out)) HC.out.2 HK.out).mono ?_; rintro r' w4 ⟨rfl, hb_⟩; refine ⟨_, rfl, ?_⟩; simp only [Act.put, sa_, sz_, ss_]; have X4 := Lib.hid (below_step XV1.out hb_); clear hb_))
  go_ret
  exact ⟨rfl, below_step BB.out X4.out⟩
theorem r29_Share.test3 {x : S27} {st : List S103} {A0 A1 : Option Addr} {c0 c1 : Nat} {w : World} (hx : Kd.C k27 w A0 x.f6.length x.f6) (hc0 : x.f6.length ≤ c0) (hs : Kd.C k103 w A1 st.length st) (hc1 : st.length ≤ c1) {k : Nat} (ih : r29_Share.Ok k st) (hl : x.f6.length = 2) (h1 : 1 ≤ x.f0) (h6 : x.f0 ≤ 6) {r : Nat} (fa : (rd_T27 x.f6 0).f0 = 15) (fb : (rd_T27 x.f6 1).f0 = 15) (f1 : x.f0 = 1) (numb : r29_number.f (rd_T27 x.f6 1).f0 (rd_T27 x.f6 1).f1 (rd_T27 x.f6 1).f2 (rd_T27 x.f6 1).f3 (rd_T27 x.f6 1).f4 (rd_T27 x.f6 1).f5.f0 (rd_T27 x.f6 1).f5.f1 (rd_T27 x.f6 1).f5.f2 (rd_T27 x.f6 1).f6 = some false)(numa : r29_number.f (rd_T27 x.f6 0).f0 (rd_T27 x.f6 0).f1 (rd_T27 x.f6 0).f2 (rd_T27 x.f6 0).f3 (rd_T27 x.f6 0).f4 (rd_T27 x.f6 0).f5.f0 (rd_T27 x.f6 0).f5.f1 (rd_T27 x.f6 0).f5.f2 (rd_T27 x.f6 0).f6 = some false) (hk : r29_equal.f k st (rd_T27 x.f6 0).f3 (rd_T27 x.f6 0).f4 (rd_T27 x.f6 1).f3 (rd_T27 x.f6 1).f4 = some r) :
  Calls Try.prog 27 #[.agg #[.int .i64 x.f0, .string x.f1, .string x.f2, .int .i64 x.f3, .int .i64 x.f4, .int .i64 x.f5.f0, .int .i64 x.f5.f1, .string x.f5.f2, .slice A0 x.f6.length c0], .slice A1 st.length c1] w fun e w' => e = .returned (.float .f64 r) ∧ Below w.heap.size w w' := by
 have HX := Lib.hid hx; have HS := Lib.hid hs; have HC := Lib.hid (And.intro hc0 hc1); have IH := Lib.hid ih; have HK := Lib.hid hk
 have n2 : ((x.f6.length : Int) == 2) = true := beq_iff_eq.2 (by omega); have n2' : ((x.f6.length : Int) != 2) = false := bne_eq_false_iff_eq.2 (by omega); have n1 : ((x.f6.length : Int) == 1) = false := beq_eq_false_iff_ne.2 (by omega); have o10 : (x.f0 == 10) = false := beq_eq_false_iff_ne.2 (by omega); have o11 : (x.f0 == 11) = false := beq_eq_false_iff_ne.2 (by omega); have lo : (decide (x.f0 < 1)) = false := decide_eq_false (by omega); have hi : (decide (6 < x.f0)) = false := decide_eq_false (by omega)
 have hl2 : (x.f6.length : Int) = 2 := by omega
 have ca : ((rd_T27 x.f6 0).f0 == 15) = true := beq_iff_eq.2 (by omega); have cb : ((rd_T27 x.f6 1).f0 == 15) = true := beq_iff_eq.2 (by omega); have o1 : (x.f0 == 1) = true := beq_iff_eq.2 (by omega); have Nb : Hid (r29_number.f (rd_T27 x.f6 1).f0 (rd_T27 x.f6 1).f1 (rd_T27 x.f6 1).f2 (rd_T27 x.f6 1).f3 (rd_T27 x.f6 1).f4 (rd_T27 x.f6 1).f5.f0 (rd_T27 x.f6 1).f5.f1 (rd_T27 x.f6 1).f5.f2 (rd_T27 x.f6 1).f6 = some false) := Lib.hid numb; have Na : Hid (r29_number.f (rd_T27 x.f6 0).f0 (rd_T27 x.f6 0).f1 (rd_T27 x.f6 0).f2 (rd_T27 x.f6 0).f3 (rd_T27 x.f6 0).f4 (rd_T27 x.f6 0).f5.f0 (rd_T27 x.f6 0).f5.f1 (rd_T27 x.f6 0).f5.f2 (rd_T27 x.f6 0).f6 = some false) := Lib.hid numa; clear hx hs hc0 hc1 ih hk numb numa fa fb f1
 go_enter Try.func27, Try.ntmps27
 go_wp2_with (((with_reducible refine gate_dst (N := 2) rfl ?_); refine box_event ?hg (N := 2) ?hd (cs := #[.int .i64 x.f0, .string x.f1, .string x.f2, .int .i64 x.f3, .int .i64 x.f4, .int .i64 x.f5.f0, .int .i64 x.f5.f1, .string x.f5.f2, .slice A0 x.f6.length c0]) (t := 27) ?hr ?_; (case hd => rfl); (case hg => rfl); (case hr => first | (go_simp; done) | (go_simp; rfl)); intro g hg_ wb hb_ hl_; have BK := Lib.hid hb_; have BB := Lib.hid hl_; have HG := Lib.hid (Nat.le_of_eq hg_.symm); obtain ⟨p0, p1, p2, p3, p4, p5, p6, p7, p8, q0, q1, q2, q3, q4, q5, q6, q7, q8⟩ := bw9_  hb_; clear hb_ hl_ hg_; simp only [Act.put, sa_, sz_, ss_]))
 have m0 : (Int.toNat 0 * 9) = 0 := rfl; have m1 : (Int.toNat 1 * 9) = 9 := rfl; obtain ⟨ada, Ga, da, ea, xa0, xa1, xa2, xa3, xa4, xa5, xa6, xa7, xa8, la, ia⟩ := at_T27 (Kd.C_below HX.out BB.out) 0 (by decide) (by omega); subst ea; obtain ⟨adb, Gb, db, eb, xb0, xb1, xb2, xb3, xb4, xb5, xb6, xb7, xb8, lb, ib⟩ := at_T27 (Kd.C_below HX.out BB.out) 1 (by decide) (by omega)
 obtain rfl : ada = adb := by injection eb
 clear eb
 have LA := Lib.hid (And.intro la ia); have LB := Lib.hid (And.intro lb ib); clear la ia lb ib
 have z0 : ada.add 0 = ada := by cases ada; simp [Addr.add]
 have z9 : ada.add 9 = ⟨ada.block, ada.off + 9, none⟩ := by have h := add_field ada 0 9 (by decide); rw [z0] at h; exact h
 simp only [m0, m1, z0, z9] at xa0 xa1 xa2 xa3 xa4 xa5 xa6 xa7 xa8 xb0 xb1 xb2 xb3 xb4 xb5 xb6 xb7 xb8; clear z0 z9; refine start_ (n := 12) (S := fun w' => Below wb.heap.size wb w') (ds := []) #[false, false, false, false, false, false, false, false, false, false, false, false] (by kernel_rfl) rfl rfl (Below.drew (Below.refl _ _)) (fun hHeld => ?_)
 generalize wb.drew = wc at hHeld ⊢
 refine pure_ (i := 0) (N := some 128) (v := ?_) (a' := ?_) #[true, false, false, false, false, false, false, false, false, false, false, false] rfl rfl (by kernel_rfl) (fun _ _ _ h => h) (Or.inl ⟨by rfl, ?_⟩) ?_ ?_; rotate_left
 ·intro w'
  go_simp; (with_reducible rfl)
 rotate_left
 ·simp only [Act.put, sa_, sz_, ss_, i64_w, i32_w]
  rfl
 refine take_ (i := 1) (N := some 129) (v := ?_) (a' := ?_) #[true, true, false, false, false, false, false, false, false, false, false, false] rfl rfl (by kernel_rfl) (fun _ _ _ h => h) (Or.inl ⟨by rfl, ?_⟩) hHeld ?_ ?_; rotate_left
 ·intro w' hS; obtain ⟨p0, p1, p2, p3, p4, p5, p6, p7, p8, q0, q1, q2, q3, q4, q5, q6, q7, q8⟩ := bw9_ (blk_below BK.out hS); go_simp; (with_reducible rfl)
 rotate_left
 ·simp only [Act.put, sa_, sz_, ss_, i64_w, i32_w]
  rfl
 refine pure_ (i := 2) (N := some 130) (v := ?_) (a' := ?_) #[true, true, true, false, false, false, false, false, false, false, false, false] rfl rfl (by kernel_rfl) (fun _ _ _ h => h) (Or.inl ⟨by rfl, ?_⟩) ?_ ?_; rotate_left
 ·intro w'
  go_simp; (with_reducible rfl)
 rotate_left
 ·simp only [Act.put, sa_, sz_, ss_, i64_w, i32_w]
  rfl
 refine take_ (i := 3) (N := some 131) (v := ?_) (a' := ?_) #[true, true, true, true, false, false, false, false, false, false, false, false] rfl rfl (by kernel_rfl) (fun _ _ _ h => h) (Or.inl ⟨by rfl, ?_⟩) hHeld ?_ ?_; rotate_left
 ·intro w' hS; have ua0 := pw_cell_below hS xa0; have ua1 := pw_cell_below hS xa1; have ua2 := pw_cell_below hS xa2; have ua3 := pw_cell_below hS xa3; have ua4 := pw_cell_below hS xa4; have ua5 := pw_cell_below hS xa5; have ua6 := pw_cell_below hS xa6; have ua7 := pw_cell_below hS xa7; have ua8 := pw_cell_below hS xa8; go_simp; (with_reducible rfl)
 rotate_left
 ·simp only [Act.put, sa_, sz_, ss_, i64_w, i32_w]
  rfl
 refine pure_ (i := 4) (N := some 132) (v := ?_) (a' := ?_) #[true, true, true, true, true, false, false, false, false, false, false, false] rfl rfl (by kernel_rfl) (fun _ _ _ h => h) (Or.inl ⟨by rfl, ?_⟩) ?_ ?_; rotate_left
 ·intro w'
  go_simp; (with_reducible rfl)
 rotate_left
 ·simp only [Act.put, sa_, sz_, ss_, i64_w, i32_w]
  rfl
 refine take_ (i := 5) (N := some 133) (v := ?_) (a' := ?_) #[true, true, true, true, true, true, false, false, false, false, false, false] rfl rfl (by kernel_rfl) (fun _ _ _ h => h) (Or.inl ⟨by rfl, ?_⟩) hHeld ?_ ?_; rotate_left
 ·intro w' hS; obtain ⟨p0, p1, p2, p3, p4, p5, p6, p7, p8, q0, q1, q2, q3, q4, q5, q6, q7, q8⟩ := bw9_ (blk_below BK.out hS); go_simp; (with_reducible rfl)
 rotate_left
 ·simp only [Act.put, sa_, sz_, ss_, i64_w, i32_w]
  rfl
 refine pure_ (i := 6) (N := some 134) (v := ?_) (a' := ?_) #[true, true, true, true, true, true, true, false, false, false, false, false] rfl rfl (by kernel_rfl) (fun _ _ _ h => h) (Or.inl ⟨by rfl, ?_⟩) ?_ ?_; rotate_left
 ·intro w'
  go_simp; (with_reducible rfl)
 rotate_left
 ·simp only [Act.put, sa_, sz_, ss_, i64_w, i32_w]
  rfl
 refine take_ (i := 7) (N := some 135) (v := ?_) (a' := ?_) #[true, true, true, true, true, true, true, true, false, false, false, false] rfl rfl (by kernel_rfl) (fun _ _ _ h => h) (Or.inl ⟨by rfl, ?_⟩) hHeld ?_ ?_; rotate_left
 ·intro w' hS; have ub0 := pw_cell_below hS xb0; have ub1 := pw_cell_below hS xb1; have ub2 := pw_cell_below hS xb2; have ub3 := pw_cell_below hS xb3; have ub4 := pw_cell_below hS xb4; have ub5 := pw_cell_below hS xb5; have ub6 := pw_cell_below hS xb6; have ub7 := pw_cell_below hS xb7; have ub8 := pw_cell_below hS xb8; go_simp; (with_reducible rfl)
 rotate_left
 ·simp only [Act.put, sa_, sz_, ss_, i64_w, i32_w]
  rfl
 refine two_ (i := 8) (j := 9) (Ni := some 7) (Nj := some 8) #[true, true, true, true, true, true, true, true, true, false, false, false] #[true, true, true, true, true, true, true, true, false, true, false, false] rfl rfl rfl rfl (by kernel_rfl) (by decide) (by decide) (fun K hK => ?arm1) (fun K hK => ?arm2)
 case' arm1 =>
  refine r29_Share.boxV (by rfl) rfl (cs := #[.int .i64 0, .string (⟨#[]⟩ : ByteArray), .string (⟨#[]⟩ : ByteArray), .int .i64 0, .int .i64 0, .int .i64 0, .int .i64 0, .string (⟨#[]⟩ : ByteArray), .slice none 0 0]) (t := 27) ?hr ?_; (case hr => first | (go_simp; done) | (go_simp; rfl)); intro ga hg_ w1 hb_ hl_; have G_ga := Lib.hid hb_; have X1 := Lib.hid (below_step hHeld hl_); have H_ga := Lib.hid (show wb.heap.size ≤ ga from by rw [hg_]; exact (hHeld).size); clear hb_ hl_ hg_; refine hK.out _ _ (X1.out) (fun hHeld => ?_); clear hK K; refine norm_ (a' := ?_) ?_ ?_; rotate_left
  ·show Act.put _ (some 7) _ = _
   simp only [Act.put, sa_, sz_, ss_, i64_w, i32_w]; rfl
  refine one_ (i := 9) (N := some 8) #[true, true, true, true, true, true, true, true, true, true, false, false] rfl rfl (by kernel_rfl) (by decide) (fun K hK => ?_)
  refine r29_Share.boxV (by rfl) rfl (cs := #[.int .i64 0, .string (⟨#[]⟩ : ByteArray), .string (⟨#[]⟩ : ByteArray), .int .i64 0, .int .i64 0, .int .i64 0, .int .i64 0, .string (⟨#[]⟩ : ByteArray), .slice none 0 0]) (t := 27) ?hr ?_; (case hr => first | (go_simp; done) | (go_simp; rfl)); intro gb hg_ w2 hb_ hl_; have G_gb := Lib.hid hb_; have X2 := Lib.hid (below_step X1.out hl_); have H_gb := Lib.hid (show wb.heap.size ≤ gb from by rw [hg_]; exact (X1.out).size); have NE := Lib.hid (show ga ≠ gb from by have h := blk_lt G_ga.out; rw [hg_]; exact Nat.ne_of_lt h); have GA := Lib.hid (blk_below G_ga.out hl_); have GB := G_gb; clear hb_ hl_ hg_; refine hK.out _ _ (X2.out) (fun hHeld => ?_); clear hK K; refine norm_ (a' := ?_) ?_ ?_; rotate_left
  ·show Act.put _ (some 8) _ = _
   simp only [Act.put, sa_, sz_, ss_, i64_w, i32_w]; rfl
  obtain ⟨z0, z1, z2, z3, z4, z5, z6, z7, z8, y0, y1, y2, y3, y4, y5, y6, y7, y8⟩ := bw9_ (GA.out)
  refine one_ (i := 10) (N := none) #[true, true, true, true, true, true, true, true, true, true, true, false] rfl rfl (by kernel_rfl) (by decide) (fun K hK => ?_); refine skip_ (w1 := ?W10a) ?A10a ?B10a ?C10a ?D10a; (case A10a => rfl); (case B10a => rfl)
  case C10a =>
   go_simp; rfl
  (with_reducible refine hK.out _ _ ?S10a (fun hHeld2 => ?_))
  case S10a => exact X2.out.trans (r29_Share.st_below (v0 := .int .i64 (rd_T27 x.f6 0).f0) (v1 := .string (rd_T27 x.f6 0).f1) (v2 := .string (rd_T27 x.f6 0).f2) (v3 := .int .i64 (rd_T27 x.f6 0).f3) (v4 := .int .i64 (rd_T27 x.f6 0).f4) (v5 := .int .i64 (rd_T27 x.f6 0).f5.f0) (v6 := .int .i64 (rd_T27 x.f6 0).f5.f1) (v7 := .string (rd_T27 x.f6 0).f5.f2) (v8 := .slice Ga (rd_T27 x.f6 0).f6.length da) H_ga.out)
  clear hK K; obtain ⟨V, hV, h1_, h2_, hB_⟩ := r29_Share.one_in (n := wb.heap.size) (w := wb) (a := ga) (v0 := .int .i64 (rd_T27 x.f6 0).f0) (v1 := .string (rd_T27 x.f6 0).f1) (v2 := .string (rd_T27 x.f6 0).f2) (v3 := .int .i64 (rd_T27 x.f6 0).f3) (v4 := .int .i64 (rd_T27 x.f6 0).f4) (v5 := .int .i64 (rd_T27 x.f6 0).f5.f0) (v6 := .int .i64 (rd_T27 x.f6 0).f5.f1) (v7 := .string (rd_T27 x.f6 0).f5.f2) (v8 := .slice Ga (rd_T27 x.f6 0).f6.length da) X2.out H_ga.out GA.out
  unfold r29_Share.st9 at hV; rw [← hV]; clear hV; have X3 := Lib.hid hB_; clear hB_ hHeld2
  have GB' := Lib.hid ((h2_ gb (fun e => NE.out e.symm)).trans GB.out); have VG' := Lib.hid ((h2_ _ (by have h := H_ga.out; have h' := blk_lt BK.out; omega)).trans (blk_below BK.out X2.out)); have GA' := Lib.hid h1_; clear h1_ h2_ GA GB X2
  clear z0 z1 z2 z3 z4 z5 z6 z7 z8 y0 y1 y2 y3 y4 y5 y6 y7 y8; obtain ⟨z0, z1, z2, z3, z4, z5, z6, z7, z8, y0, y1, y2, y3, y4, y5, y6, y7, y8⟩ := bw9_ (GB'.out)
  refine one_ (i := 11) (N := none) #[true, true, true, true, true, true, true, true, true, true, true, true] rfl rfl (by kernel_rfl) (by decide) (fun K hK => ?_); refine skip_ (w1 := ?W11a) ?A11a ?B11a ?C11a ?D11a; (case A11a => rfl); (case B11a => rfl)
  case C11a =>
   go_simp; rfl
  (with_reducible refine hK.out _ _ ?S11a (fun hHeld2 => ?_))
  case S11a => exact X3.out.trans (r29_Share.st_below (v0 := .int .i64 (rd_T27 x.f6 1).f0) (v1 := .string (rd_T27 x.f6 1).f1) (v2 := .string (rd_T27 x.f6 1).f2) (v3 := .int .i64 (rd_T27 x.f6 1).f3) (v4 := .int .i64 (rd_T27 x.f6 1).f4) (v5 := .int .i64 (rd_T27 x.f6 1).f5.f0) (v6 := .int .i64 (rd_T27 x.f6 1).f5.f1) (v7 := .string (rd_T27 x.f6 1).f5.f2) (v8 := .slice Gb (rd_T27 x.f6 1).f6.length db) H_gb.out)
  clear hK K; obtain ⟨V, hV, h1_, h2_, hB_⟩ := r29_Share.one_in (n := wb.heap.size) (w := wb) (a := gb) (v0 := .int .i64 (rd_T27 x.f6 1).f0) (v1 := .string (rd_T27 x.f6 1).f1) (v2 := .string (rd_T27 x.f6 1).f2) (v3 := .int .i64 (rd_T27 x.f6 1).f3) (v4 := .int .i64 (rd_T27 x.f6 1).f4) (v5 := .int .i64 (rd_T27 x.f6 1).f5.f0) (v6 := .int .i64 (rd_T27 x.f6 1).f5.f1) (v7 := .string (rd_T27 x.f6 1).f5.f2) (v8 := .slice Gb (rd_T27 x.f6 1).f6.length db) X3.out H_gb.out GB'.out
  unfold r29_Share.st9 at hV; rw [← hV]; clear hV; have XV := Lib.hid hB_; clear hB_ hHeld2
  have VA := Lib.hid ((h2_ ga NE.out).trans GA'.out); have VG := Lib.hid ((h2_ _ (by have h := H_gb.out; have h' := blk_lt BK.out; omega)).trans VG'.out); have VB := Lib.hid h1_; clear h1_ h2_ GA' GB' VG' X3 X1 G_ga G_gb NE H_ga H_gb
  refine done_ (by kernel_rfl) ?_; clear z0 z1 z2 z3 z4 z5 z6 z7 z8 y0 y1 y2 y3 y4 y5 y6 y7 y8 p0 p1 p2 p3 p4 p5 p6 p7 p8 q0 q1 q2 q3 q4 q5 q6 q7 q8
  obtain ⟨p0, p1, p2, p3, p4, p5, p6, p7, p8, q0, q1, q2, q3, q4, q5, q6, q7, q8⟩ := bw9_ VG.out; obtain ⟨s0, s1, s2, s3, s4, s5, s6, s7, s8, r0, r1, r2, r3, r4, r5, r6, r7, r8⟩ := bw9_ (VA.out); obtain ⟨t0, t1, t2, t3, t4, t5, t6, t7, t8, i0, i1, i2, i3, i4, i5, i6, i7, i8⟩ := bw9_ (VB.out)
 case' arm2 =>
  refine r29_Share.boxV (by rfl) rfl (cs := #[.int .i64 0, .string (⟨#[]⟩ : ByteArray), .string (⟨#[]⟩ : ByteArray), .int .i64 0, .int .i64 0, .int .i64 0, .int .i64 0, .string (⟨#[]⟩ : ByteArray), .slice none 0 0]) (t := 27) ?hr ?_; (case hr => first | (go_simp; done) | (go_simp; rfl)); intro gb hg_ w1 hb_ hl_; have G_gb := Lib.hid hb_; have X1 := Lib.hid (below_step hHeld hl_); have H_gb := Lib.hid (show wb.heap.size ≤ gb from by rw [hg_]; exact (hHeld).size); clear hb_ hl_ hg_; refine hK.out _ _ (X1.out) (fun hHeld => ?_); clear hK K; refine norm_ (a' := ?_) ?_ ?_; rotate_left
  ·show Act.put _ (some 8) _ = _
   simp only [Act.put, sa_, sz_, ss_, i64_w, i32_w]; rfl
  refine one_ (i := 8) (N := some 7) #[true, true, true, true, true, true, true, true, true, true, false, false] rfl rfl (by kernel_rfl) (by decide) (fun K hK => ?_)
  refine r29_Share.boxV (by rfl) rfl (cs := #[.int .i64 0, .string (⟨#[]⟩ : ByteArray), .string (⟨#[]⟩ : ByteArray), .int .i64 0, .int .i64 0, .int .i64 0, .int .i64 0, .string (⟨#[]⟩ : ByteArray), .slice none 0 0]) (t := 27) ?hr ?_; (case hr => first | (go_simp; done) | (go_simp; rfl)); intro ga hg_ w2 hb_ hl_; have G_ga := Lib.hid hb_; have X2 := Lib.hid (below_step X1.out hl_); have H_ga := Lib.hid (show wb.heap.size ≤ ga from by rw [hg_]; exact (X1.out).size); have NE := Lib.hid (show ga ≠ gb from by have h := blk_lt G_gb.out; rw [hg_]; exact (Nat.ne_of_lt h).symm); have GB := Lib.hid (blk_below G_gb.out hl_); have GA := G_ga; clear hb_ hl_ hg_; refine hK.out _ _ (X2.out) (fun hHeld => ?_); clear hK K; refine norm_ (a' := ?_) ?_ ?_; rotate_left
  ·show Act.put _ (some 7) _ = _
   simp only [Act.put, sa_, sz_, ss_, i64_w, i32_w]; rfl
  obtain ⟨z0, z1, z2, z3, z4, z5, z6, z7, z8, y0, y1, y2, y3, y4, y5, y6, y7, y8⟩ := bw9_ (GA.out)
  refine one_ (i := 10) (N := none) #[true, true, true, true, true, true, true, true, true, true, true, false] rfl rfl (by kernel_rfl) (by decide) (fun K hK => ?_); refine skip_ (w1 := ?W10b) ?A10b ?B10b ?C10b ?D10b; (case A10b => rfl); (case B10b => rfl)
  case C10b =>
   go_simp; rfl
  (with_reducible refine hK.out _ _ ?S10b (fun hHeld2 => ?_))
  case S10b => exact X2.out.trans (r29_Share.st_below (v0 := .int .i64 (rd_T27 x.f6 0).f0) (v1 := .string (rd_T27 x.f6 0).f1) (v2 := .string (rd_T27 x.f6 0).f2) (v3 := .int .i64 (rd_T27 x.f6 0).f3) (v4 := .int .i64 (rd_T27 x.f6 0).f4) (v5 := .int .i64 (rd_T27 x.f6 0).f5.f0) (v6 := .int .i64 (rd_T27 x.f6 0).f5.f1) (v7 := .string (rd_T27 x.f6 0).f5.f2) (v8 := .slice Ga (rd_T27 x.f6 0).f6.length da) H_ga.out)
  clear hK K; obtain ⟨V, hV, h1_, h2_, hB_⟩ := r29_Share.one_in (n := wb.heap.size) (w := wb) (a := ga) (v0 := .int .i64 (rd_T27 x.f6 0).f0) (v1 := .string (rd_T27 x.f6 0).f1) (v2 := .string (rd_T27 x.f6 0).f2) (v3 := .int .i64 (rd_T27 x.f6 0).f3) (v4 := .int .i64 (rd_T27 x.f6 0).f4) (v5 := .int .i64 (rd_T27 x.f6 0).f5.f0) (v6 := .int .i64 (rd_T27 x.f6 0).f5.f1) (v7 := .string (rd_T27 x.f6 0).f5.f2) (v8 := .slice Ga (rd_T27 x.f6 0).f6.length da) X2.out H_ga.out GA.out
  unfold r29_Share.st9 at hV; rw [← hV]; clear hV; have X3 := Lib.hid hB_; clear hB_ hHeld2
  have GB' := Lib.hid ((h2_ gb (fun e => NE.out e.symm)).trans GB.out); have VG' := Lib.hid ((h2_ _ (by have h := H_ga.out; have h' := blk_lt BK.out; omega)).trans (blk_below BK.out X2.out)); have GA' := Lib.hid h1_; clear h1_ h2_ GA GB X2
  clear z0 z1 z2 z3 z4 z5 z6 z7 z8 y0 y1 y2 y3 y4 y5 y6 y7 y8; obtain ⟨z0, z1, z2, z3, z4, z5, z6, z7, z8, y0, y1, y2, y3, y4, y5, y6, y7, y8⟩ := bw9_ (GB'.out)
  refine one_ (i := 11) (N := none) #[true, true, true, true, true, true, true, true, true, true, true, true] rfl rfl (by kernel_rfl) (by decide) (fun K hK => ?_); refine skip_ (w1 := ?W11b) ?A11b ?B11b ?C11b ?D11b; (case A11b => rfl); (case B11b => rfl)
  case C11b =>
   go_simp; rfl
  (with_reducible refine hK.out _ _ ?S11b (fun hHeld2 => ?_))
  case S11b => exact X3.out.trans (r29_Share.st_below (v0 := .int .i64 (rd_T27 x.f6 1).f0) (v1 := .string (rd_T27 x.f6 1).f1) (v2 := .string (rd_T27 x.f6 1).f2) (v3 := .int .i64 (rd_T27 x.f6 1).f3) (v4 := .int .i64 (rd_T27 x.f6 1).f4) (v5 := .int .i64 (rd_T27 x.f6 1).f5.f0) (v6 := .int .i64 (rd_T27 x.f6 1).f5.f1) (v7 := .string (rd_T27 x.f6 1).f5.f2) (v8 := .slice Gb (rd_T27 x.f6 1).f6.length db) H_gb.out)
  clear hK K; obtain ⟨V, hV, h1_, h2_, hB_⟩ := r29_Share.one_in (n := wb.heap.size) (w := wb) (a := gb) (v0 := .int .i64 (rd_T27 x.f6 1).f0) (v1 := .string (rd_T27 x.f6 1).f1) (v2 := .string (rd_T27 x.f6 1).f2) (v3 := .int .i64 (rd_T27 x.f6 1).f3) (v4 := .int .i64 (rd_T27 x.f6 1).f4) (v5 := .int .i64 (rd_T27 x.f6 1).f5.f0) (v6 := .int .i64 (rd_T27 x.f6 1).f5.f1) (v7 := .string (rd_T27 x.f6 1).f5.f2) (v8 := .slice Gb (rd_T27 x.f6 1).f6.length db) X3.out H_gb.out GB'.out
  unfold r29_Share.st9 at hV; rw [← hV]; clear hV; have XV := Lib.hid hB_; clear hB_ hHeld2
  have VA := Lib.hid ((h2_ ga NE.out).trans GA'.out); have VG := Lib.hid ((h2_ _ (by have h := H_gb.out; have h' := blk_lt BK.out; omega)).trans VG'.out); have VB := Lib.hid h1_; clear h1_ h2_ GA' GB' VG' X3 X1 G_ga G_gb NE H_ga H_gb
  refine done_ (by kernel_rfl) ?_; clear z0 z1 z2 z3 z4 z5 z6 z7 z8 y0 y1 y2 y3 y4 y5 y6 y7 y8 p0 p1 p2 p3 p4 p5 p6 p7 p8 q0 q1 q2 q3 q4 q5 q6 q7 q8
  obtain ⟨p0, p1, p2, p3, p4, p5, p6, p7, p8, q0, q1, q2, q3, q4, q5, q6, q7, q8⟩ := bw9_ VG.out; obtain ⟨s0, s1, s2, s3, s4, s5, s6, s7, s8, r0, r1, r2, r3, r4, r5, r6, r7, r8⟩ := bw9_ (VA.out); obtain ⟨t0, t1, t2, t3, t4, t5, t6, t7, t8, i0, i1, i2, i3, i4, i5, i6, i7, i8⟩ := bw9_ (VB.out)
 all_goals
  go_wp2_with (first
    | ((with_reducible refine gate_callee (f := 64) rfl ?_); (try (refine gate_guard (by rfl) ?_; dsimp only)); refine goesL_ (some 141) rfl rfl Try.func64 (by kernel_rfl) rfl #[.agg #[.int .i64 (rd_T27 x.f6 1).f0, .string (rd_T27 x.f6 1).f1, .string (rd_T27 x.f6 1).f2, .int .i64 (rd_T27 x.f6 1).f3, .int .i64 (rd_T27 x.f6 1).f4, .int .i64 (rd_T27 x.f6 1).f5.f0, .int .i64 (rd_T27 x.f6 1).f5.f1, .string (rd_T27 x.f6 1).f5.f2, .slice Gb (rd_T27 x.f6 1).f6.length db]] rfl (by (try simp only [List.map_toArray, List.map_cons, List.map_nil]); first | done | rfl) ?_; refine (r29_number.calls _ _ _ _ _ _ _ _ Gb db _ false _ (Kd.C_below LB.out.2 XV.out) LB.out.1 Nb.out).mono ?_; rintro r' w3 ⟨rfl, hb_⟩; refine ⟨_, rfl, ?_⟩; simp only [Act.put, sa_, sz_, ss_]; have XV1 := Lib.hid (below_step XV.out hb_); have VG1 := Lib.hid (blk_below VG.out hb_); have VA1 := Lib.hid (blk_below VA.out hb_); have VB1 := Lib.hid (blk_below VB.out hb_); clear p0 p1 p2 p3 p4 p5 p6 p7 p8 q0 q1 q2 q3 q4 q5 q6 q7 q8 s0 s1 s2 s3 s4 s5 s6 s7 s8 r0 r1 r2 r3 r4 r5 r6 r7 r8 t0 t1 t2 t3 t4 t5 t6 t7 t8 i0 i1 i2 i3 i4 i5 i6 i7 i8; obtain ⟨p0, p1, p2, p3, p4, p5, p6, p7, p8, q0, q1, q2, q3, q4, q5, q6, q7, q8⟩ := bw9_ VG1.out; obtain ⟨s0, s1, s2, s3, s4, s5, s6, s7, s8, r0, r1, r2, r3, r4, r5, r6, r7, r8⟩ := bw9_ (VA1.out); obtain ⟨t0, t1, t2, t3, t4, t5, t6, t7, t8, i0, i1, i2, i3, i4, i5, i6, i7, i8⟩ := bw9_ (VB1.out); clear hb_)
    | ((with_reducible refine gate_callee (f := 64) rfl ?_); (try (refine gate_guard (by rfl) ?_; dsimp only)); refine goesL_ (some 159) rfl rfl Try.func64 (by kernel_rfl) rfl #[.agg #[.int .i64 (rd_T27 x.f6 0).f0, .string (rd_T27 x.f6 0).f1, .string (rd_T27 x.f6 0).f2, .int .i64 (rd_T27 x.f6 0).f3, .int .i64 (rd_T27 x.f6 0).f4, .int .i64 (rd_T27 x.f6 0).f5.f0, .int .i64 (rd_T27 x.f6 0).f5.f1, .string (rd_T27 x.f6 0).f5.f2, .slice Ga (rd_T27 x.f6 0).f6.length da]] rfl (by (try simp only [List.map_toArray, List.map_cons, List.map_nil]); first | done | rfl) ?_; refine (r29_number.calls _ _ _ _ _ _ _ _ Ga da _ false _ (Kd.C_below LA.out.2 XV1.out) LA.out.1 Na.out).mono ?_; rintro r' w4 ⟨rfl, hb_⟩; refine ⟨_, rfl, ?_⟩; simp only [Act.put, sa_, sz_, ss_]; have XV2 := Lib.hid (below_step XV1.out hb_); have VG2 := Lib.hid (blk_below VG1.out hb_); have VA2 := Lib.hid (blk_below VA1.out hb_); have VB2 := Lib.hid (blk_below VB1.out hb_); clear p0 p1 p2 p3 p4 p5 p6 p7 p8 q0 q1 q2 q3 q4 q5 q6 q7 q8 s0 s1 s2 s3 s4 s5 s6 s7 s8 r0 r1 r2 r3 r4 r5 r6 r7 r8 t0 t1 t2 t3 t4 t5 t6 t7 t8 i0 i1 i2 i3 i4 i5 i6 i7 i8; obtain ⟨p0, p1, p2, p3, p4, p5, p6, p7, p8, q0, q1, q2, q3, q4, q5, q6, q7, q8⟩ := bw9_ VG2.out; obtain ⟨s0, s1, s2, s3, s4, s5, s6, s7, s8, r0, r1, r2, r3, r4, r5, r6, r7, r8⟩ := bw9_ (VA2.out); obtain ⟨t0, t1, t2, t3, t4, t5, t6, t7, t8, i0, i1, i2, i3, i4, i5, i6, i7, i8⟩ := bw9_ (VB2.out); clear hb_)
    | ((with_reducible refine gate_callee (f := 66) rfl ?_); (try (refine gate_guard (by rfl) ?_; dsimp only)); refine goesL_ (some 198) rfl rfl Try.func66 (by kernel_rfl) rfl #[.slice A1 st.length c1, .int .i64 (rd_T27 x.f6 0).f3, .int .i64 (rd_T27 x.f6 0).f4, .int .i64 (rd_T27 x.f6 1).f3, .int .i64 (rd_T27 x.f6 1).f4] rfl (by (try simp only [List.map_toArray, List.map_cons, List.map_nil]); first | done | rfl) ?_; refine (r29_equal.calls k A1 c1 st _ _ _ _ r _ (Kd.C_below HS.out (below_step BB.out XV2.out)) HC.out.2 HK.out).mono ?_; rintro r' w5 ⟨rfl, hb_⟩; refine ⟨_, rfl, ?_⟩; simp only [Act.put, sa_, sz_, ss_]; have X5 := Lib.hid (below_step XV2.out hb_); clear hb_))
  go_ret
  exact ⟨rfl, below_step BB.out X5.out⟩
end Go.Proofs.Ytcfgjaggccnoaaa.PCostShares
