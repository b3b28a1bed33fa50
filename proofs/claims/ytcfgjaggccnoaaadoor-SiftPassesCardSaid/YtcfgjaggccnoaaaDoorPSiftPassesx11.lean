import Derived.Test.YtcfgjaggccnoaaaDoorPSiftPassesx0
import Derived.Test.YtcfgjaggccnoaaaDoorPSiftPassesx10
namespace Go.Proofs.YtcfgjaggccnoaaaDoor.PSiftPasses
open Go.RowKit Go.Proofs.YtcfgjaggccnoaaaDoorW.PrintWords Go.Proofs.YtcfgjaggccnoaaaDoorW.PrintLast Go.Proofs.YtcfgjaggccnoaaaDoorW.PrintMore
attribute [local go_sem] max2_int min2_int max_two min_two max_three min_three max_four min_four
set_option linter.unusedVariables false
set_option linter.unusedSimpArgs false
set_option maxRecDepth 100000

mutual
def trommelref19_Ends.l0 : Nat → List (S23) → Bool → Bool → Int → Int → Int → ByteArray → Int → Int → ByteArray → Option (Int × Int × ByteArray × Int × Int × ByteArray × Bool × Bool)
 | 0, _, _, _, _, _, _, _, _, _, _ => none
 | k + 1, x0, x8, x9, x10, x367000, x367001, x367002, x368000, x368001, x368002 => if x10 < (x0.length : Int) then (if 0 ≤ x10 then (if ((rd_T23 x0 x10).f0) = 0 then (trommelref19_Ends.l0 k x0 x8 true (wrap64 (x10 + 1)) x367000 x367001 x367002 x368000 x368001 x368002) else (if x8 = true then ((trommelref01_Order.f k ((rd_T23 x0 x10).f0) ((rd_T23 x0 x10).f1) ((rd_T23 x0 x10).f2) x367000 x367001 x367002).bind fun t370 => (trommelref19_Ends.j1 k x0 x8 x9 x10 (decide (t370 < 0)) x367000 x367001 x367002 x368000 x368001 x368002)) else (trommelref19_Ends.j1 k x0 x8 x9 x10 true x367000 x367001 x367002 x368000 x368001 x368002))) else (none)) else (some (x367000, x367001, x367002, x368000, x368001, x368002, x8, x9))
def trommelref19_Ends.j1 : Nat → List (S23) → Bool → Bool → Int → Bool → Int → Int → ByteArray → Int → Int → ByteArray → Option (Int × Int × ByteArray × Int × Int × ByteArray × Bool × Bool)
 | 0, _, _, _, _, _, _, _, _, _, _, _ => none
 | k + 1, x0, x8, x9, x10, x33, x367000, x367001, x367002, x368000, x368001, x368002 => if x33 = true then (if 0 ≤ x10 then (if x10 < (x0.length : Int) then (trommelref19_Ends.j2 k x0 x8 x9 x10 ((rd_T23 x0 x10).f0) ((rd_T23 x0 x10).f1) ((rd_T23 x0 x10).f2) x368000 x368001 x368002) else (none)) else (none)) else (trommelref19_Ends.j2 k x0 x8 x9 x10 x367000 x367001 x367002 x368000 x368001 x368002)
def trommelref19_Ends.j2 : Nat → List (S23) → Bool → Bool → Int → Int → Int → ByteArray → Int → Int → ByteArray → Option (Int × Int × ByteArray × Int × Int × ByteArray × Bool × Bool)
 | 0, _, _, _, _, _, _, _, _, _, _ => none
 | k + 1, x0, x8, x9, x10, x367000, x367001, x367002, x368000, x368001, x368002 => if x8 = true then (if 0 ≤ x10 then (if x10 < (x0.length : Int) then ((trommelref01_Order.f k ((rd_T23 x0 x10).f0) ((rd_T23 x0 x10).f1) ((rd_T23 x0 x10).f2) x368000 x368001 x368002).bind fun t373 => (if t373 > 0 then (trommelref19_Ends.l0 k x0 true x9 (wrap64 (x10 + 1)) x367000 x367001 x367002 ((rd_T23 x0 x10).f0) ((rd_T23 x0 x10).f1) ((rd_T23 x0 x10).f2)) else (trommelref19_Ends.l0 k x0 true x9 (wrap64 (x10 + 1)) x367000 x367001 x367002 x368000 x368001 x368002))) else (none)) else (none)) else (if 0 ≤ x10 then (if x10 < (x0.length : Int) then (trommelref19_Ends.l0 k x0 true x9 (wrap64 (x10 + 1)) x367000 x367001 x367002 ((rd_T23 x0 x10).f0) ((rd_T23 x0 x10).f1) ((rd_T23 x0 x10).f2)) else (none)) else (none))
end
def trommelref19_Ends.f (k : Nat) (l0 : List (S23)) : Option (Int × Int × ByteArray × Int × Int × ByteArray × Bool × Bool) := trommelref19_Ends.l0 k l0 false false 0 0 0 (⟨#[]⟩ : ByteArray) 0 0 (⟨#[]⟩ : ByteArray)
theorem trommelref19_Ends.mono_l : ∀ k, (∀ y0 y1 y2 y3 y4 y5 y6 y7 y8 y9, LeO (trommelref19_Ends.l0 k y0 y1 y2 y3 y4 y5 y6 y7 y8 y9) (trommelref19_Ends.l0 (k + 1) y0 y1 y2 y3 y4 y5 y6 y7 y8 y9)) ∧ (∀ y0 y1 y2 y3 y4 y5 y6 y7 y8 y9 y10, LeO (trommelref19_Ends.j1 k y0 y1 y2 y3 y4 y5 y6 y7 y8 y9 y10) (trommelref19_Ends.j1 (k + 1) y0 y1 y2 y3 y4 y5 y6 y7 y8 y9 y10)) ∧ (∀ y0 y1 y2 y3 y4 y5 y6 y7 y8 y9, LeO (trommelref19_Ends.j2 k y0 y1 y2 y3 y4 y5 y6 y7 y8 y9) (trommelref19_Ends.j2 (k + 1) y0 y1 y2 y3 y4 y5 y6 y7 y8 y9))
 | 0 => ⟨fun _ _ _ _ _ _ _ _ _ _ r h => by simp [trommelref19_Ends.l0] at h, fun _ _ _ _ _ _ _ _ _ _ _ r h => by simp [trommelref19_Ends.j1] at h, fun _ _ _ _ _ _ _ _ _ _ r h => by simp [trommelref19_Ends.j2] at h⟩
 | k + 1 => by
  obtain ⟨ih0, ih1, ih2⟩ := trommelref19_Ends.mono_l k
  refine ⟨?_, ?_, ?_⟩
  ·intro y0 y1 y2 y3 y4 y5 y6 y7 y8 y9
   unfold trommelref19_Ends.l0
   repeat' first
   | (with_reducible exact ih0 _ _ _ _ _ _ _ _ _ _)
   | (with_reducible exact ih1 _ _ _ _ _ _ _ _ _ _ _)
   | (with_reducible exact ih2 _ _ _ _ _ _ _ _ _ _)
   | (with_reducible exact trommelref01_Order.mono _ _ _ _ _ _ _)
   | (with_reducible exact LeO.refl _)
   | (with_reducible exact LeO.none _)
   | (with_reducible refine LeO.ite ?_ ?_)
   | (with_reducible refine LeO.bind ?_ (fun _ => ?_))
   | exact ih0 _ _ _ _ _ _ _ _ _ _
   | exact ih1 _ _ _ _ _ _ _ _ _ _ _
   | exact ih2 _ _ _ _ _ _ _ _ _ _
   | exact trommelref01_Order.mono _ _ _ _ _ _ _
   | exact LeO.none _
   | refine LeO.ite ?_ ?_
   | refine LeO.bind ?_ (fun _ => ?_)
  ·intro y0 y1 y2 y3 y4 y5 y6 y7 y8 y9 y10
   unfold trommelref19_Ends.j1
   repeat' first
   | (with_reducible exact ih0 _ _ _ _ _ _ _ _ _ _)
   | (with_reducible exact ih1 _ _ _ _ _ _ _ _ _ _ _)
   | (with_reducible exact ih2 _ _ _ _ _ _ _ _ _ _)
   | (with_reducible exact trommelref01_Order.mono _ _ _ _ _ _ _)
   | (with_reducible exact LeO.refl _)
   | (with_reducible exact LeO.none _)
   | (with_reducible refine LeO.ite ?_ ?_)
   | (with_reducible refine LeO.bind ?_ (fun _ => ?_))
   | exact ih0 _ _ _ _ _ _ _ _ _ _
   | exact ih1 _ _ _ _ _ _ _ _ _ _ _
   | exact ih2 _ _ _ _ _ _ _ _ _ _
   | exact trommelref01_Order.mono _ _ _ _ _ _ _
   | exact LeO.none _
   | refine LeO.ite ?_ ?_
   | refine LeO.bind ?_ (fun _ => ?_)
  ·intro y0 y1 y2 y3 y4 y5 y6 y7 y8 y9
   unfold trommelref19_Ends.j2
   repeat' first
   | (with_reducible exact ih0 _ _ _ _ _ _ _ _ _ _)
   | (with_reducible exact ih1 _ _ _ _ _ _ _ _ _ _ _)
   | (with_reducible exact ih2 _ _ _ _ _ _ _ _ _ _)
   | (with_reducible exact trommelref01_Order.mono _ _ _ _ _ _ _)
   | (with_reducible exact LeO.refl _)
   | (with_reducible exact LeO.none _)
   | (with_reducible refine LeO.ite ?_ ?_)
   | (with_reducible refine LeO.bind ?_ (fun _ => ?_))
   | exact ih0 _ _ _ _ _ _ _ _ _ _
   | exact ih1 _ _ _ _ _ _ _ _ _ _ _
   | exact ih2 _ _ _ _ _ _ _ _ _ _
   | exact trommelref01_Order.mono _ _ _ _ _ _ _
   | exact LeO.none _
   | refine LeO.ite ?_ ?_
   | refine LeO.bind ?_ (fun _ => ?_)
theorem trommelref19_Ends.mono : ∀ a0 k, LeO (trommelref19_Ends.f k a0) (trommelref19_Ends.f (k + 1) a0) := by
 intro a0 k
 obtain ⟨ih0, ih1, ih2⟩ := trommelref19_Ends.mono_l k
 unfold trommelref19_Ends.f
 repeat' first
   | (with_reducible exact ih0 _ _ _ _ _ _ _ _ _ _)
   | (with_reducible exact ih1 _ _ _ _ _ _ _ _ _ _ _)
   | (with_reducible exact ih2 _ _ _ _ _ _ _ _ _ _)
   | (with_reducible exact trommelref01_Order.mono _ _ _ _ _ _ _)
   | (with_reducible exact LeO.refl _)
   | (with_reducible exact LeO.none _)
   | (with_reducible refine LeO.ite ?_ ?_)
   | (with_reducible refine LeO.bind ?_ (fun _ => ?_))
   | exact ih0 _ _ _ _ _ _ _ _ _ _
   | exact ih1 _ _ _ _ _ _ _ _ _ _ _
   | exact ih2 _ _ _ _ _ _ _ _ _ _
   | exact trommelref01_Order.mono _ _ _ _ _ _ _
   | exact LeO.none _
   | refine LeO.ite ?_ ?_
   | refine LeO.bind ?_ (fun _ => ?_)
def trommelref19_Ends.T8 : Bool × List (List Nat × List Nat) := (true, [([], []), ([0], [0]), ([1], [1]), ([2], [2]), ([2], [2]), ([3, 4, 2], [2, 3, 4]), ([5, 2], [2, 5]), ([2], [2]), ([6, 7, 2, 2], [2, 6, 7]), ([8, 2], [2, 8]), ([2, 9], [2, 9])])
def trommelref19_Ends.B8 : List Nat := [0, 1, 3, 7, 7, 31, 63, 7, 255, 511, 1023]
theorem trommelref19_Ends.tab8 : rtab .any (opsOf Tryd.f122 8) = trommelref19_Ends.T8 := by kernel_rfl
theorem trommelref19_Ends.bits8 : waitsOk trommelref19_Ends.T8.2 trommelref19_Ends.B8 = true := by kernel_rfl
def trommelref19_Ends.T10 : Bool × List (List Nat × List Nat) := (true, [([], []), ([0], [0]), ([1], [1]), ([2], [2]), ([2], [2]), ([3, 4, 2], [2, 3, 4]), ([5, 2], [2, 5]), ([2], [2]), ([6, 7, 2, 2], [2, 6, 7]), ([8, 2], [2, 8]), ([2, 9], [2, 9])])
def trommelref19_Ends.B10 : List Nat := [0, 1, 3, 7, 7, 31, 63, 7, 255, 511, 1023]
theorem trommelref19_Ends.tab10 : rtab .any (opsOf Tryd.f122 10) = trommelref19_Ends.T10 := by kernel_rfl
theorem trommelref19_Ends.bits10 : waitsOk trommelref19_Ends.T10.2 trommelref19_Ends.B10 = true := by kernel_rfl
def trommelref19_Ends.T13 : Bool × List (List Nat × List Nat) := (true, [([], []), ([], []), ([], []), ([], []), ([0, 0], [0]), ([1, 4, 0, 1, 4], [1]), ([2, 5, 0, 1, 2, 4, 5], [2]), ([3, 6, 0, 1, 2, 3, 4, 5, 6], [3])])
def trommelref19_Ends.B13 : List Nat := [0, 0, 0, 0, 1, 19, 55, 127]
theorem trommelref19_Ends.tab13 : rtab .any (opsOf Tryd.f122 13) = trommelref19_Ends.T13 := by kernel_rfl
theorem trommelref19_Ends.bits13 : waitsOk trommelref19_Ends.T13.2 trommelref19_Ends.B13 = true := by kernel_rfl
set_option maxHeartbeats 8000000 in
set_option maxRecDepth 100000 in
theorem trommelref19_Ends.calls (k : Nat) (A0 : Option Addr) (c0 : Nat) (l0 : List (S23)) (r1 : Int) (r2 : Int) (r3 : ByteArray) (r4 : Int) (r5 : Int) (r6 : ByteArray) (r7 : Bool) (r8 : Bool) (w : World) (hr0 : Kd.C k23 w A0 l0.length l0) (hc0 : l0.length ≤ c0) (h : trommelref19_Ends.f k l0 = some (r1, r2, r3, r4, r5, r6, r7, r8)) :
  Calls Tryd.prog 122 #[.slice A0 l0.length c0] w fun e w' => e = .returned (.tuple #[.agg #[.int .i64 r1, .int .i64 r2, .string r3], .agg #[.int .i64 r4, .int .i64 r5, .string r6], .bool r7, .bool r8]) ∧ Below w.heap.size w w' := by
 have hu23 := Tryd.underlying23
 have HR0 := am_ hr0
 have HC0 := am_ hc0
 clear hr0 hc0
 have HB := am_ (Below.refl w.heap.size w)
 have H : (trommelref19_Ends.l0 k l0 false false 0 0 0 (⟨#[]⟩ : ByteArray) 0 0 (⟨#[]⟩ : ByteArray)) = some (r1, r2, r3, r4, r5, r6, r7, r8) := h
 clear h
 have H' := am_ H
 clear H
 go_enter Tryd.func122, Tryd.ntmps122
 go_wp2_with (first | ((with_reducible refine gate_dst (N := 2) rfl ?_); refine box_event ?hg (N := 2) ?hd (cs := #[.int .i64 0, .int .i64 0, .string (⟨#[]⟩ : ByteArray)]) (t := 23) ?hr ?_; (case hd => rfl); (case hg => rfl); (case hr => first | (go_simp; done) | (go_simp; rfl)); intro gb364 hg w2 hbox hb; have BK364 := am_ (hbox); have GW364 := am_ ((by rw [hg]; exact (below_size (bl_)) : w.heap.size ≤ gb364)); have GE364 := am_ ((by rw [hg]; exact (below_size (bl_)) : w.heap.size ≤ gb364)); replace HB := am_ (below_step (bl_) hb); clear hb hbox hg) | ((with_reducible refine gate_dst (N := 3) rfl ?_); refine box_event ?hg (N := 3) ?hd (cs := #[.int .i64 0, .int .i64 0, .string (⟨#[]⟩ : ByteArray)]) (t := 23) ?hr ?_; (case hd => rfl); (case hg => rfl); (case hr => first | (go_simp; done) | (go_simp; rfl)); intro gb365 hg w3 hbox hb; have n0_ := am_ (blk_below (g := gb364) (o := .cells #[.int .i64 0, .int .i64 0, .string (⟨#[]⟩ : ByteArray)] 23 (0, 0)) (bk_ BK364.out) hb); have n1_ := am_ (below_step (bl_) hb); have n2_ := am_ (hbox); have n3_ := am_ ((by rw [hg]; exact (below_size (bl_)) : w.heap.size ≤ gb365)); have n4_ := am_ ((by rw [hg]; exact (below_size (bl_)) : w.heap.size ≤ gb365)); have n5_ := am_ ((by rw [hg]; exact Nat.ne_of_lt (blk_lt (g := gb364) (o := .cells #[.int .i64 0, .int .i64 0, .string (⟨#[]⟩ : ByteArray)] 23 (0, 0)) (bk_ BK364.out)) : gb364 ≠ gb365)); have n6_ := am_ ((by rw [hg]; exact Nat.ne_of_gt (blk_lt (g := gb364) (o := .cells #[.int .i64 0, .int .i64 0, .string (⟨#[]⟩ : ByteArray)] 23 (0, 0)) (bk_ BK364.out)) : gb365 ≠ gb364)); clear BK364; clear HB; have BK364 := n0_; have HB := n1_; have BK365 := n2_; have GW365 := n3_; have GE365 := n4_; have NB364_365 := n5_; have NB365_364 := n6_; clear n0_ n1_ n2_ n3_ n4_ n5_ n6_; clear hb hbox hg) | ((with_reducible refine gate_dst (N := 6) rfl ?_); refine box_event ?hg (N := 6) ?hd (cs := #[.int .i64 0, .int .i64 0, .string (⟨#[]⟩ : ByteArray)]) (t := 23) ?hr ?_; (case hd => rfl); (case hg => rfl); (case hr => first | (go_simp; done) | (go_simp; rfl)); intro gb366 hg w4 hbox hb; have n0_ := am_ (blk_below (g := gb364) (o := .cells #[.int .i64 0, .int .i64 0, .string (⟨#[]⟩ : ByteArray)] 23 (0, 0)) (bk_ BK364.out) hb); have n1_ := am_ (blk_below (g := gb365) (o := .cells #[.int .i64 0, .int .i64 0, .string (⟨#[]⟩ : ByteArray)] 23 (0, 0)) (bk_ BK365.out) hb); have n2_ := am_ (below_step (bl_) hb); have n3_ := am_ (hbox); have n4_ := am_ ((by rw [hg]; exact (below_size (bl_)) : w.heap.size ≤ gb366)); have n5_ := am_ ((by rw [hg]; exact (below_size (bl_)) : w.heap.size ≤ gb366)); have n6_ := am_ ((by rw [hg]; exact Nat.ne_of_lt (blk_lt (g := gb364) (o := .cells #[.int .i64 0, .int .i64 0, .string (⟨#[]⟩ : ByteArray)] 23 (0, 0)) (bk_ BK364.out)) : gb364 ≠ gb366)); have n7_ := am_ ((by rw [hg]; exact Nat.ne_of_gt (blk_lt (g := gb364) (o := .cells #[.int .i64 0, .int .i64 0, .string (⟨#[]⟩ : ByteArray)] 23 (0, 0)) (bk_ BK364.out)) : gb366 ≠ gb364)); have n8_ := am_ ((by rw [hg]; exact Nat.ne_of_lt (blk_lt (g := gb365) (o := .cells #[.int .i64 0, .int .i64 0, .string (⟨#[]⟩ : ByteArray)] 23 (0, 0)) (bk_ BK365.out)) : gb365 ≠ gb366)); have n9_ := am_ ((by rw [hg]; exact Nat.ne_of_gt (blk_lt (g := gb365) (o := .cells #[.int .i64 0, .int .i64 0, .string (⟨#[]⟩ : ByteArray)] 23 (0, 0)) (bk_ BK365.out)) : gb366 ≠ gb365)); clear BK364; clear BK365; clear HB; have BK364 := n0_; have BK365 := n1_; have HB := n2_; have BK366 := n3_; have GW366 := n4_; have GE366 := n5_; have NB364_366 := n6_; have NB366_364 := n7_; have NB365_366 := n8_; have NB366_365 := n9_; clear n0_ n1_ n2_ n3_ n4_ n5_ n6_ n7_ n8_ n9_; clear hb hbox hg) | ((with_reducible refine gate_dst (N := 7) rfl ?_); refine box_event ?hg (N := 7) ?hd (cs := #[.int .i64 0, .int .i64 0, .string (⟨#[]⟩ : ByteArray)]) (t := 23) ?hr ?_; (case hd => rfl); (case hg => rfl); (case hr => first | (go_simp; done) | (go_simp; rfl)); intro gb367 hg w5 hbox hb; have n0_ := am_ (blk_below (g := gb364) (o := .cells #[.int .i64 0, .int .i64 0, .string (⟨#[]⟩ : ByteArray)] 23 (0, 0)) (bk_ BK364.out) hb); have n1_ := am_ (blk_below (g := gb365) (o := .cells #[.int .i64 0, .int .i64 0, .string (⟨#[]⟩ : ByteArray)] 23 (0, 0)) (bk_ BK365.out) hb); have n2_ := am_ (blk_below (g := gb366) (o := .cells #[.int .i64 0, .int .i64 0, .string (⟨#[]⟩ : ByteArray)] 23 (0, 0)) (bk_ BK366.out) hb); have n3_ := am_ (below_step (bl_) hb); have n4_ := am_ (hbox); have n5_ := am_ ((by rw [hg]; exact (below_size (bl_)) : w.heap.size ≤ gb367)); have n6_ := am_ ((by rw [hg]; exact (below_size (bl_)) : w.heap.size ≤ gb367)); have n7_ := am_ ((by rw [hg]; exact Nat.ne_of_lt (blk_lt (g := gb364) (o := .cells #[.int .i64 0, .int .i64 0, .string (⟨#[]⟩ : ByteArray)] 23 (0, 0)) (bk_ BK364.out)) : gb364 ≠ gb367)); have n8_ := am_ ((by rw [hg]; exact Nat.ne_of_gt (blk_lt (g := gb364) (o := .cells #[.int .i64 0, .int .i64 0, .string (⟨#[]⟩ : ByteArray)] 23 (0, 0)) (bk_ BK364.out)) : gb367 ≠ gb364)); have n9_ := am_ ((by rw [hg]; exact Nat.ne_of_lt (blk_lt (g := gb365) (o := .cells #[.int .i64 0, .int .i64 0, .string (⟨#[]⟩ : ByteArray)] 23 (0, 0)) (bk_ BK365.out)) : gb365 ≠ gb367)); have n10_ := am_ ((by rw [hg]; exact Nat.ne_of_gt (blk_lt (g := gb365) (o := .cells #[.int .i64 0, .int .i64 0, .string (⟨#[]⟩ : ByteArray)] 23 (0, 0)) (bk_ BK365.out)) : gb367 ≠ gb365)); have n11_ := am_ ((by rw [hg]; exact Nat.ne_of_lt (blk_lt (g := gb366) (o := .cells #[.int .i64 0, .int .i64 0, .string (⟨#[]⟩ : ByteArray)] 23 (0, 0)) (bk_ BK366.out)) : gb366 ≠ gb367)); have n12_ := am_ ((by rw [hg]; exact Nat.ne_of_gt (blk_lt (g := gb366) (o := .cells #[.int .i64 0, .int .i64 0, .string (⟨#[]⟩ : ByteArray)] 23 (0, 0)) (bk_ BK366.out)) : gb367 ≠ gb366)); clear BK364; clear BK365; clear BK366; clear HB; have BK364 := n0_; have BK365 := n1_; have BK366 := n2_; have HB := n3_; have BK367 := n4_; have GW367 := n5_; have GE367 := n6_; have NB364_367 := n7_; have NB367_364 := n8_; have NB365_367 := n9_; have NB367_365 := n10_; have NB366_367 := n11_; have NB367_366 := n12_; clear n0_ n1_ n2_ n3_ n4_ n5_ n6_ n7_ n8_ n9_ n10_ n11_ n12_; clear hb hbox hg))
 go_loopg [8, 9, 10] k (fun kq v8 v9 v10 w' => ∃ (x8_1 : Bool) (x9_1 : Bool) (x10_1 : Int) (x367000_1 : Int) (x367001_1 : Int) (x367002_1 : ByteArray) (x368000_1 : Int) (x368001_1 : Int) (x368002_1 : ByteArray), v8 = .bool x8_1 ∧ v9 = .bool x9_1 ∧ v10 = .int .i64 x10_1 ∧ Aside0 (trommelref19_Ends.l0 kq l0 x8_1 x9_1 x10_1 x367000_1 x367001_1 x367002_1 x368000_1 x368001_1 x368002_1 = some (r1, r2, r3, r4, r5, r6, r7, r8)) ∧ Aside0 (kq ≤ k) ∧ Aside0 (w'.heap[gb364]? = some (.cells #[.int .i64 0, .int .i64 0, .string (⟨#[]⟩ : ByteArray)] 23 (0, 0))) ∧ Aside0 (w'.heap[gb365]? = some (.cells #[.int .i64 0, .int .i64 0, .string (⟨#[]⟩ : ByteArray)] 23 (0, 0))) ∧ Aside0 (w'.heap[gb366]? = some (.cells #[.int .i64 x367000_1, .int .i64 x367001_1, .string x367002_1] 23 (0, 0))) ∧ Aside0 (w'.heap[gb367]? = some (.cells #[.int .i64 x368000_1, .int .i64 x368001_1, .string x368002_1] 23 (0, 0))) ∧ Aside0 (Below w.heap.size w w'))
 case atStart => exact ⟨(false), (false), (0), (0), (0), ((⟨#[]⟩ : ByteArray)), (0), (0), ((⟨#[]⟩ : ByteArray)), (rs_), (rs_), (rs_), H', ⟨Nat.le_refl _⟩, ⟨bk_ BK364.out⟩, ⟨bk_ BK365.out⟩, ⟨bk_ BK366.out⟩, ⟨bk_ BK367.out⟩, ⟨bl_⟩⟩
 case round =>
  clear H'
  try clear c1
  try clear p2
  obtain ⟨x8_1, x9_1, x10_1, x367000_1, x367001_1, x367002_1, x368000_1, x368001_1, x368002_1, rfl, rfl, rfl, HA, HK1, BK364, BK365, BK366, BK367, HB⟩ := hrel
  cases gk with
  | zero => exact absurd HA.out (by simp [trommelref19_Ends.l0])
  | succ k1 =>
   have H := HA.out
   clear HA
   simp only [trommelref19_Ends.l0] at H
   by_cases c6 : x10_1 < (l0.length : Int)
   ·rw [if_pos c6] at H
    have c6b0 : decide (x10_1 < (l0.length : Int)) = true := decide_eq_true c6
    clear c6
    by_cases c7 : 0 ≤ x10_1
    ·rw [if_pos c7] at H
     have c7b0 : decide (0 ≤ x10_1) = true := decide_eq_true c7
     clear c7
     by_cases c8 : ((rd_T23 l0 x10_1).f0) = 0
     ·rw [if_pos c8] at H
      have c8b0 : (((rd_T23 l0 x10_1).f0) == 0) = true := beq_iff_eq.mpr c8
      have c8b1 : (((rd_T23 l0 x10_1).f0) != 0) = false := bne_eq_false_iff_eq.mpr c8
      clear c8
      have H' := am_ H
      clear H
      have p368 : 0 ≤ (x10_1 : Int) := of_decide_eq_true (as_)
      have q368 : x10_1 < (l0.length : Int) := of_decide_eq_true (as_)
      obtain ⟨ad368, e368, hx368_0, hx368_1, hx368_2⟩ := at_T23 HR0.out x10_1 p368 q368
      cases e368
      replace hx368_0 := (HB.out.cell (World.block_lt_of_cell? w _ hx368_0)).trans hx368_0
      replace hx368_1 := (HB.out.cell (World.block_lt_of_cell? w _ hx368_1)).trans hx368_1
      replace hx368_2 := (HB.out.cell (World.block_lt_of_cell? w _ hx368_2)).trans hx368_2
      replace p368 := eq_true p368
      replace q368 := eq_true q368
      go_wp2
      go_roundg k1
      case measure => have := HK1.out; omega
      case rel => exact ⟨(x8_1), (true), (wrap64 (x10_1 + 1)), (x367000_1), (x367001_1), (x367002_1), (x368000_1), (x368001_1), (x368002_1), (rs_), (rs_), (rs_), H', ⟨by have := HK1.out; omega⟩, ⟨bk_ BK364.out⟩, ⟨bk_ BK365.out⟩, ⟨bk_ BK366.out⟩, ⟨bk_ BK367.out⟩, ⟨bl_⟩⟩
     ·rw [if_neg c8] at H
      have c8b0 : (((rd_T23 l0 x10_1).f0) == 0) = false := beq_eq_false_iff_ne.mpr c8
      have c8b1 : (((rd_T23 l0 x10_1).f0) != 0) = true := bne_iff_ne.mpr c8
      have HC9 := am_ H
      clear H
      have p368 : 0 ≤ (x10_1 : Int) := of_decide_eq_true (as_)
      have q368 : x10_1 < (l0.length : Int) := of_decide_eq_true (as_)
      obtain ⟨ad368, e368, hx368_0, hx368_1, hx368_2⟩ := at_T23 HR0.out x10_1 p368 q368
      cases e368
      replace hx368_0 := (HB.out.cell (World.block_lt_of_cell? w _ hx368_0)).trans hx368_0
      replace hx368_1 := (HB.out.cell (World.block_lt_of_cell? w _ hx368_1)).trans hx368_1
      replace hx368_2 := (HB.out.cell (World.block_lt_of_cell? w _ hx368_2)).trans hx368_2
      replace p368 := eq_true p368
      replace q368 := eq_true q368
      go_upto_region 8 with (fail)
      go_cut [33] (fun v33 wc => ∃ (kq : Nat) (x33_8 : Bool), v33 = .bool x33_8 ∧ Aside0 (trommelref19_Ends.j1 kq l0 x8_1 x9_1 x10_1 x33_8 x367000_1 x367001_1 x367002_1 x368000_1 x368001_1 x368002_1 = some (r1, r2, r3, r4, r5, r6, r7, r8)) ∧ Aside0 (kq ≤ k1) ∧ Aside0 (wc.heap[gb364]? = some (.cells #[.int .i64 0, .int .i64 0, .string (⟨#[]⟩ : ByteArray)] 23 (0, 0))) ∧ Aside0 (wc.heap[gb365]? = some (.cells #[.int .i64 0, .int .i64 0, .string (⟨#[]⟩ : ByteArray)] 23 (0, 0))) ∧ Aside0 (wc.heap[gb366]? = some (.cells #[.int .i64 x367000_1, .int .i64 x367001_1, .string x367002_1] 23 (0, 0))) ∧ Aside0 (wc.heap[gb367]? = some (.cells #[.int .i64 x368000_1, .int .i64 x368001_1, .string x368002_1] 23 (0, 0))) ∧ Aside0 (Below w.heap.size w wc))
      case first =>
       have H := HC9.out
       clear HC9
       by_cases c10 : x8_1 = true
       ·subst c10
        have H1 : ((trommelref01_Order.f k1 ((rd_T23 l0 x10_1).f0) ((rd_T23 l0 x10_1).f1) ((rd_T23 l0 x10_1).f2) x367000_1 x367001_1 x367002_1).bind fun t370 => (trommelref19_Ends.j1 k1 l0 true x9_1 x10_1 (decide (t370 < 0)) x367000_1 x367001_1 x367002_1 x368000_1 x368001_1 x368002_1)) = some (r1, r2, r3, r4, r5, r6, r7, r8) := by rw [if_pos rfl] at H; exact H
        clear H
        have H := H1
        clear H1
        replace H := Option.bind_eq_some_iff.mp H
        obtain ⟨t370, A110, H⟩ := H
        replace H : (trommelref19_Ends.j1 k1 l0 true x9_1 x10_1 (decide (t370 < 0)) x367000_1 x367001_1 x367002_1 x368000_1 x368001_1 x368002_1) = some (r1, r2, r3, r4, r5, r6, r7, r8) := H
        have A11 := am_ A110
        clear A110
        have H' := am_ H
        clear H
        try go_wp2
        have n0_ := am_ (blk_drew BK364.out)
        have n1_ := am_ (blk_drew BK365.out)
        have n2_ := am_ (blk_drew BK366.out)
        have n3_ := am_ (blk_drew BK367.out)
        have n4_ := am_ (below_drew1 HB.out)
        clear BK364
        clear BK365
        clear BK366
        clear BK367
        clear HB
        have BK364 := n0_
        have BK365 := n1_
        have BK366 := n2_
        have BK367 := n3_
        have HB := n4_
        clear n0_ n1_ n2_ n3_ n4_
        have p369 : 0 ≤ (x10_1 : Int) := of_decide_eq_true (as_)
        have q369 : x10_1 < (l0.length : Int) := of_decide_eq_true (as_)
        obtain ⟨ad369, e369, hx369_0, hx369_1, hx369_2⟩ := at_T23 HR0.out x10_1 p369 q369
        have hw369_2 := hx369_2
        have hw369_1 := hx369_1
        have hw369_0 := hx369_0
        obtain rfl : ad368 = ad369 := (by injection e369)
        replace hx369_0 := (HB.out.cell (World.block_lt_of_cell? w _ hx369_0)).trans hx369_0
        replace hx369_1 := (HB.out.cell (World.block_lt_of_cell? w _ hx369_1)).trans hx369_1
        replace hx369_2 := (HB.out.cell (World.block_lt_of_cell? w _ hx369_2)).trans hx369_2
        replace p369 := eq_true p369
        replace q369 := eq_true q369
        refine start_ (n := 11) (S := fun w' => w'.cell? ⟨gb366, 0, none⟩ = some (.int .i64 x367000_1) ∧ w'.cell? ⟨gb366, 1, none⟩ = some (.int .i64 x367001_1) ∧ w'.cell? ⟨gb366, 2, none⟩ = some (.string x367002_1) ∧ w'.cell? (ad368.add ((x10_1).toNat * 3)) = some (.int .i64 ((rd_T23 l0 x10_1).f0)) ∧ w'.cell? ⟨(ad368.add ((x10_1).toNat * 3)).block, (ad368.add ((x10_1).toNat * 3)).off + 1, none⟩ = some (.int .i64 ((rd_T23 l0 x10_1).f1)) ∧ w'.cell? ⟨(ad368.add ((x10_1).toNat * 3)).block, (ad368.add ((x10_1).toNat * 3)).off + 2, none⟩ = some (.string ((rd_T23 l0 x10_1).f2))) (ds := []) #[false, false, false, false, false, false, false, false, false, false, false] (by kernel_rfl) rfl rfl ⟨(blk_cell BK366.out 0).trans rfl, (blk_cell BK366.out 1).trans rfl, (blk_cell BK366.out 2).trans rfl, ((HB.out.cell (World.block_lt_of_cell? w _ hw369_0)).trans hw369_0), ((HB.out.cell (World.block_lt_of_cell? w _ hw369_1)).trans hw369_1), ((HB.out.cell (World.block_lt_of_cell? w _ hw369_2)).trans hw369_2)⟩ (fun hHeld => ?_); refine with_tabW trommelref19_Ends.tab8 trommelref19_Ends.bits8 (fun HT_ HW_ => ?_)
        generalize wr.drew = w12 at BK364 BK365 BK366 BK367 HB hx369_0 hx369_1 hx369_2 hHeld ⊢
        refine pure_ (i := 0) (N := some 23) (v := ?_) (a' := ?_) #[true, false, false, false, false, false, false, false, false, false, false] rfl rfl (any_of HT_.out (by kernel_rfl)) (fun _ _ _ h => h) (Or.inl ⟨by rfl, ?_⟩) ?_ ?_
        rotate_left
        ·intro w'
         go_simp
         with_reducible rfl
        rotate_left
        ·simp only [Act.put, List.setIfInBounds_toArray, List.set_cons_zero, List.set_cons_succ, i64_w, i32_w]
         rfl
        refine pure_ (i := 1) (N := some 24) (v := ?_) (a' := ?_) #[true, true, false, false, false, false, false, false, false, false, false] rfl rfl (any_of HT_.out (by kernel_rfl)) (fun _ _ _ h => h) (Or.inl ⟨by rfl, ?_⟩) ?_ ?_
        rotate_left
        ·intro w'
         go_simp
         with_reducible rfl
        rotate_left
        ·simp only [Act.put, List.setIfInBounds_toArray, List.set_cons_zero, List.set_cons_succ, i64_w, i32_w]
         rfl
        refine pure_ (i := 2) (N := some 25) (v := ?_) (a' := ?_) #[true, true, true, false, false, false, false, false, false, false, false] rfl rfl (any_of HT_.out (by kernel_rfl)) (fun _ _ _ h => h) (Or.inl ⟨by rfl, ?_⟩) ?_ ?_
        rotate_left
        ·intro w'
         go_simp
         with_reducible rfl
        rotate_left
        ·simp only [Act.put, List.setIfInBounds_toArray, List.set_cons_zero, List.set_cons_succ, i64_w, i32_w]
         rfl
        refine pure_ (i := 3) (N := some 26) (v := ?_) (a' := ?_) #[true, true, true, true, false, false, false, false, false, false, false] rfl rfl (any_of HT_.out (by kernel_rfl)) (fun _ _ _ h => h) (Or.inl ⟨by rfl, ?_⟩) ?_ ?_
        rotate_left
        ·intro w'
         go_simp
         with_reducible rfl
        rotate_left
        ·simp only [Act.put, List.setIfInBounds_toArray, List.set_cons_zero, List.set_cons_succ, i64_w, i32_w]
         rfl
        refine pure_ (i := 4) (N := some 27) (v := ?_) (a' := ?_) #[true, true, true, true, true, false, false, false, false, false, false] rfl rfl (any_of HT_.out (by kernel_rfl)) (fun _ _ _ h => h) (Or.inl ⟨by rfl, ?_⟩) ?_ ?_
        rotate_left
        ·intro w'
         go_simp
         with_reducible rfl
        rotate_left
        ·simp only [Act.put, List.setIfInBounds_toArray, List.set_cons_zero, List.set_cons_succ, i64_w, i32_w]
         rfl
        refine pure_ (i := 5) (N := some 28) (v := ?_) (a' := ?_) #[true, true, true, true, true, true, false, false, false, false, false] rfl rfl (any_of HT_.out (by kernel_rfl)) (fun _ _ _ h => h) (Or.inl ⟨by rfl, ?_⟩) ?_ ?_
        rotate_left
        ·intro w'
         go_simp
         with_reducible rfl
        rotate_left
        ·simp only [Act.put, List.setIfInBounds_toArray, List.set_cons_zero, List.set_cons_succ, i64_w, i32_w]
         rfl
        refine take_ (i := 6) (N := some 29) (v := ?_) (a' := ?_) #[true, true, true, true, true, true, true, false, false, false, false] rfl rfl (take_ofW HT_.out HW_.out (by kernel_rfl)) (fun _ _ _ h => h) (Or.inl ⟨by rfl, ?_⟩) hHeld ?_ ?_
        rotate_left
        ·rintro w' ⟨s0, s1, s2, s3, s4, s5⟩
         go_simp
         with_reducible rfl
        rotate_left
        ·simp only [Act.put, List.setIfInBounds_toArray, List.set_cons_zero, List.set_cons_succ, i64_w, i32_w]
         rfl
        refine take_ (i := 7) (N := some 30) (v := ?_) (a' := ?_) #[true, true, true, true, true, true, true, true, false, false, false] rfl rfl (take_ofW HT_.out HW_.out (by kernel_rfl)) (fun _ _ _ h => h) (Or.inl ⟨by rfl, ?_⟩) hHeld ?_ ?_
        rotate_left
        ·rintro w' ⟨s0, s1, s2, s3, s4, s5⟩
         go_simp
         with_reducible rfl
        rotate_left
        ·simp only [Act.put, List.setIfInBounds_toArray, List.set_cons_zero, List.set_cons_succ, i64_w, i32_w]
         rfl
        refine one_ (i := 8) (N := some 31) #[true, true, true, true, true, true, true, true, true, false, false] rfl rfl (one_of HT_.out (by kernel_rfl)) (by decide) (fun K hK => ?_)
        refine goes_ Tryd.func123 (by kernel_rfl) rfl #[.agg #[.int .i64 ((rd_T23 l0 x10_1).f0), .int .i64 ((rd_T23 l0 x10_1).f1), .string ((rd_T23 l0 x10_1).f2)], .agg #[.int .i64 x367000_1, .int .i64 x367001_1, .string x367002_1]] (by rfl) rfl rfl (by (try simp only [List.map_toArray, List.map_cons, List.map_nil]); first | done | rfl | (simp only [List.length_drop, List.length_take]; rfl)) ?_
        with_reducible refine (trommelref01_Order.calls k1 ((rd_T23 l0 x10_1).f0) ((rd_T23 l0 x10_1).f1) ((rd_T23 l0 x10_1).f2) x367000_1 x367001_1 x367002_1 t370 _ A11.out).mono ?_
        rintro e w13 ⟨rfl, hb⟩
        refine ⟨_, rfl, ?_⟩
        have n0_ := am_ (blk_below (g := gb364) (o := .cells #[.int .i64 0, .int .i64 0, .string (⟨#[]⟩ : ByteArray)] 23 (0, 0)) (bk_ BK364.out) hb)
        have n1_ := am_ (blk_below (g := gb365) (o := .cells #[.int .i64 0, .int .i64 0, .string (⟨#[]⟩ : ByteArray)] 23 (0, 0)) (bk_ BK365.out) hb)
        have n2_ := am_ (blk_below (g := gb366) (o := .cells #[.int .i64 x367000_1, .int .i64 x367001_1, .string x367002_1] 23 (0, 0)) (bk_ BK366.out) hb)
        have n3_ := am_ (blk_below (g := gb367) (o := .cells #[.int .i64 x368000_1, .int .i64 x368001_1, .string x368002_1] 23 (0, 0)) (bk_ BK367.out) hb)
        have n4_ := am_ (below_step (bl_) hb)
        clear BK364
        clear BK365
        clear BK366
        clear BK367
        clear HB
        have BK364 := n0_
        have BK365 := n1_
        have BK366 := n2_
        have BK367 := n3_
        have HB := n4_
        clear n0_ n1_ n2_ n3_ n4_
        (try clear hb)
        (try clear hb2)
        (try clear hk)
        (try clear hi)
        refine hK.out _ _ ⟨(blk_cell BK366.out 0).trans rfl, (blk_cell BK366.out 1).trans rfl, (blk_cell BK366.out 2).trans rfl, ((HB.out.cell (World.block_lt_of_cell? w _ hw369_0)).trans hw369_0), ((HB.out.cell (World.block_lt_of_cell? w _ hw369_1)).trans hw369_1), ((HB.out.cell (World.block_lt_of_cell? w _ hw369_2)).trans hw369_2)⟩ (fun hHeld => ?_)
        clear hK K
        refine norm_ (a' := ?_) ?_ ?_
        rotate_left
        ·show Act.put _ (some 31) _ = _
         simp only [Act.put, List.setIfInBounds_toArray, List.set_cons_zero, List.set_cons_succ, i64_w, i32_w]
         rfl
        refine pure_ (i := 9) (N := some 32) (v := ?_) (a' := ?_) #[true, true, true, true, true, true, true, true, true, true, false] rfl rfl (any_of HT_.out (by kernel_rfl)) (fun _ _ _ h => h) (Or.inl ⟨by rfl, ?_⟩) ?_ ?_
        rotate_left
        ·intro w'
         go_simp
         with_reducible rfl
        rotate_left
        ·simp only [Act.put, List.setIfInBounds_toArray, List.set_cons_zero, List.set_cons_succ, i64_w, i32_w]
         rfl
        refine pure_ (i := 10) (N := some 33) (v := ?_) (a' := ?_) #[true, true, true, true, true, true, true, true, true, true, true] rfl rfl (any_of HT_.out (by kernel_rfl)) (fun _ _ _ h => h) (Or.inl ⟨by rfl, ?_⟩) ?_ ?_
        rotate_left
        ·intro w'
         go_simp
         with_reducible rfl
        rotate_left
        ·simp only [Act.put, List.setIfInBounds_toArray, List.set_cons_zero, List.set_cons_succ, i64_w, i32_w]
         rfl
        refine done_ (done_of HT_.out (by kernel_rfl)) ?_
        try go_wp2
        go_meet
        case rel => exact ⟨_, (decide (t370 < 0)), (rs_), H', ⟨by have := HK1.out; first | omega | exact Nat.le_refl _⟩, ⟨bk_ BK364.out⟩, ⟨bk_ BK365.out⟩, ⟨bk_ BK366.out⟩, ⟨bk_ BK367.out⟩, ⟨bl_⟩⟩
       ·replace c10 := Bool.eq_false_iff.mpr c10
        subst c10
        have H1 : (trommelref19_Ends.j1 k1 l0 false x9_1 x10_1 true x367000_1 x367001_1 x367002_1 x368000_1 x368001_1 x368002_1) = some (r1, r2, r3, r4, r5, r6, r7, r8) := by rw [if_neg (show ¬ (false = true) by decide)] at H; exact H
        clear H
        have H := H1
        clear H1
        have H' := am_ H
        clear H
        try go_wp2
        have n0_ := am_ (blk_drew BK364.out)
        have n1_ := am_ (blk_drew BK365.out)
        have n2_ := am_ (blk_drew BK366.out)
        have n3_ := am_ (blk_drew BK367.out)
        have n4_ := am_ (below_drew1 HB.out)
        clear BK364
        clear BK365
        clear BK366
        clear BK367
        clear HB
        have BK364 := n0_
        have BK365 := n1_
        have BK366 := n2_
        have BK367 := n3_
        have HB := n4_
        clear n0_ n1_ n2_ n3_ n4_
        refine start_ (n := 11) (S := fun w' => True) (ds := []) #[false, false, false, false, false, false, false, false, false, false, false] (by kernel_rfl) rfl rfl trivial (fun hHeld => ?_); refine with_tabW trommelref19_Ends.tab8 trommelref19_Ends.bits8 (fun HT_ HW_ => ?_)
        generalize wr.drew = w14 at BK364 BK365 BK366 BK367 HB hHeld ⊢
        refine pure_ (i := 0) (N := some 23) (v := ?_) (a' := ?_) #[true, false, false, false, false, false, false, false, false, false, false] rfl rfl (any_of HT_.out (by kernel_rfl)) (fun _ _ _ h => h) (Or.inl ⟨by rfl, ?_⟩) ?_ ?_
        rotate_left
        ·intro w'
         go_simp
         with_reducible rfl
        rotate_left
        ·simp only [Act.put, List.setIfInBounds_toArray, List.set_cons_zero, List.set_cons_succ, i64_w, i32_w]
         rfl
        refine pure_ (i := 1) (N := some 24) (v := ?_) (a' := ?_) #[true, true, false, false, false, false, false, false, false, false, false] rfl rfl (any_of HT_.out (by kernel_rfl)) (fun _ _ _ h => h) (Or.inl ⟨by rfl, ?_⟩) ?_ ?_
        rotate_left
        ·intro w'
         go_simp
         with_reducible rfl
        rotate_left
        ·simp only [Act.put, List.setIfInBounds_toArray, List.set_cons_zero, List.set_cons_succ, i64_w, i32_w]
         rfl
        refine pure_ (i := 2) (N := some 25) (v := ?_) (a' := ?_) #[true, true, true, false, false, false, false, false, false, false, false] rfl rfl (any_of HT_.out (by kernel_rfl)) (fun _ _ _ h => h) (Or.inl ⟨by rfl, ?_⟩) ?_ ?_
        rotate_left
        ·intro w'
         go_simp
         with_reducible rfl
        rotate_left
        ·simp only [Act.put, List.setIfInBounds_toArray, List.set_cons_zero, List.set_cons_succ, i64_w, i32_w]
         rfl
        refine pure_ (i := 3) (N := some 26) (v := undef) (a' := ?_) #[true, true, true, true, false, false, false, false, false, false, false] rfl rfl (any_of HT_.out (by kernel_rfl)) (fun _ _ _ h => h) (Or.inr ⟨by rfl, rfl⟩) ?_ ?_
        rotate_left
        ·simp only [Act.put, List.setIfInBounds_toArray, List.set_cons_zero, List.set_cons_succ, i64_w, i32_w]
         rfl
        refine pure_ (i := 4) (N := some 27) (v := undef) (a' := ?_) #[true, true, true, true, true, false, false, false, false, false, false] rfl rfl (any_of HT_.out (by kernel_rfl)) (fun _ _ _ h => h) (Or.inr ⟨by rfl, rfl⟩) ?_ ?_
        rotate_left
        ·simp only [Act.put, List.setIfInBounds_toArray, List.set_cons_zero, List.set_cons_succ, i64_w, i32_w]
         rfl
        refine pure_ (i := 5) (N := some 28) (v := undef) (a' := ?_) #[true, true, true, true, true, true, false, false, false, false, false] rfl rfl (any_of HT_.out (by kernel_rfl)) (fun _ _ _ h => h) (Or.inr ⟨by rfl, rfl⟩) ?_ ?_
        rotate_left
        ·simp only [Act.put, List.setIfInBounds_toArray, List.set_cons_zero, List.set_cons_succ, i64_w, i32_w]
         rfl
        refine pure_ (i := 6) (N := some 29) (v := undef) (a' := ?_) #[true, true, true, true, true, true, true, false, false, false, false] rfl rfl (any_of HT_.out (by kernel_rfl)) (fun _ _ _ h => h) (Or.inr ⟨by rfl, rfl⟩) ?_ ?_
        rotate_left
        ·simp only [Act.put, List.setIfInBounds_toArray, List.set_cons_zero, List.set_cons_succ, i64_w, i32_w]
         rfl
        refine pure_ (i := 7) (N := some 30) (v := undef) (a' := ?_) #[true, true, true, true, true, true, true, true, false, false, false] rfl rfl (any_of HT_.out (by kernel_rfl)) (fun _ _ _ h => h) (Or.inr ⟨by rfl, rfl⟩) ?_ ?_
        rotate_left
        ·simp only [Act.put, List.setIfInBounds_toArray, List.set_cons_zero, List.set_cons_succ, i64_w, i32_w]
         rfl
        refine pure_ (i := 8) (N := some 31) (v := undef) (a' := ?_) #[true, true, true, true, true, true, true, true, true, false, false] rfl rfl (any_of HT_.out (by kernel_rfl)) (fun _ _ _ h => h) (Or.inr ⟨by rfl, rfl⟩) ?_ ?_
        rotate_left
        ·simp only [Act.put, List.setIfInBounds_toArray, List.set_cons_zero, List.set_cons_succ, i64_w, i32_w]
         rfl
        refine pure_ (i := 9) (N := some 32) (v := undef) (a' := ?_) #[true, true, true, true, true, true, true, true, true, true, false] rfl rfl (any_of HT_.out (by kernel_rfl)) (fun _ _ _ h => h) (Or.inr ⟨by rfl, rfl⟩) ?_ ?_
        rotate_left
        ·simp only [Act.put, List.setIfInBounds_toArray, List.set_cons_zero, List.set_cons_succ, i64_w, i32_w]
         rfl
        refine pure_ (i := 10) (N := some 33) (v := ?_) (a' := ?_) #[true, true, true, true, true, true, true, true, true, true, true] rfl rfl (any_of HT_.out (by kernel_rfl)) (fun _ _ _ h => h) (Or.inl ⟨by rfl, ?_⟩) ?_ ?_
        rotate_left
        ·intro w'
         go_simp
         with_reducible rfl
        rotate_left
        ·simp only [Act.put, List.setIfInBounds_toArray, List.set_cons_zero, List.set_cons_succ, i64_w, i32_w]
         rfl
        refine done_ (done_of HT_.out (by kernel_rfl)) ?_
        try go_wp2
        go_meet
        case rel => exact ⟨_, (true), (rs_), H', ⟨by have := HK1.out; first | omega | exact Nat.le_refl _⟩, ⟨bk_ BK364.out⟩, ⟨bk_ BK365.out⟩, ⟨bk_ BK366.out⟩, ⟨bk_ BK367.out⟩, ⟨bl_⟩⟩
      case rest =>
       clear HC9
       try clear c1
       try clear p2
       try clear p3
       try clear q3
       try clear hx3
       try clear c6
       try clear c6b0
       try clear p6
       try clear c7
       try clear c7b0
       try clear c8
       try clear c8b0
       try clear c8b1
       try clear c10
       try clear c12
       try clear hx368_0
       try clear hx368_1
       try clear hx368_2
       try clear hx369_0
       try clear hx369_1
       try clear hx369_2
       try clear p2
       try clear p368
       try clear p369
       try clear q368
       try clear q369
       obtain ⟨kq, x33_8, rfl, HA, HJ8, BK364, BK365, BK366, BK367, HB⟩ := hcut
       cases kq with
       | zero => exact absurd HA.out (by simp [trommelref19_Ends.j1])
       | succ kj8 =>
        have H := HA.out
        clear HA
        simp only [trommelref19_Ends.j1] at H
        have HC15 := am_ H
        clear H
        go_upto_if 33 with (fail)
        go_cut [] (fun wc => ∃ (kq : Nat) (x367000_14 : Int) (x367001_14 : Int) (x367002_14 : ByteArray), Aside0 (trommelref19_Ends.j2 kq l0 x8_1 x9_1 x10_1 x367000_14 x367001_14 x367002_14 x368000_1 x368001_1 x368002_1 = some (r1, r2, r3, r4, r5, r6, r7, r8)) ∧ Aside0 (kq ≤ kj8) ∧ Aside0 (wc.heap[gb364]? = some (.cells #[.int .i64 0, .int .i64 0, .string (⟨#[]⟩ : ByteArray)] 23 (0, 0))) ∧ Aside0 (wc.heap[gb365]? = some (.cells #[.int .i64 0, .int .i64 0, .string (⟨#[]⟩ : ByteArray)] 23 (0, 0))) ∧ Aside0 (wc.heap[gb366]? = some (.cells #[.int .i64 x367000_14, .int .i64 x367001_14, .string x367002_14] 23 (0, 0))) ∧ Aside0 (wc.heap[gb367]? = some (.cells #[.int .i64 x368000_1, .int .i64 x368001_1, .string x368002_1] 23 (0, 0))) ∧ Aside0 (Below w.heap.size w wc))
        case first =>
         have H := HC15.out
         clear HC15
         by_cases c16 : x33_8 = true
         ·subst c16
          have H1 : (if 0 ≤ x10_1 then (if x10_1 < (l0.length : Int) then (trommelref19_Ends.j2 kj8 l0 x8_1 x9_1 x10_1 ((rd_T23 l0 x10_1).f0) ((rd_T23 l0 x10_1).f1) ((rd_T23 l0 x10_1).f2) x368000_1 x368001_1 x368002_1) else (none)) else (none)) = some (r1, r2, r3, r4, r5, r6, r7, r8) := by rw [if_pos rfl] at H; exact H
          clear H
          have H := H1
          clear H1
          by_cases c17 : 0 ≤ x10_1
          ·rw [if_pos c17] at H
           have c17b0 : decide (0 ≤ x10_1) = true := decide_eq_true c17
           clear c17
           (first | rw [c17b0] | (simp only [i64_w, i32_w]; rw [c17b0]) | skip)
           by_cases c18 : x10_1 < (l0.length : Int)
           ·rw [if_pos c18] at H
            have c18b0 : decide (x10_1 < (l0.length : Int)) = true := decide_eq_true c18
            clear c18
            have H' := am_ H
            clear H
            have p371 : 0 ≤ (x10_1 : Int) := of_decide_eq_true (as_)
            have q371 : x10_1 < (l0.length : Int) := of_decide_eq_true (as_)
            obtain ⟨ad371, e371, hx371_0, hx371_1, hx371_2⟩ := at_T23 HR0.out x10_1 p371 q371
            obtain rfl : ad368 = ad371 := (by injection e371)
            replace hx371_0 := (HB.out.cell (World.block_lt_of_cell? w _ hx371_0)).trans hx371_0
            replace hx371_1 := (HB.out.cell (World.block_lt_of_cell? w _ hx371_1)).trans hx371_1
            replace hx371_2 := (HB.out.cell (World.block_lt_of_cell? w _ hx371_2)).trans hx371_2
            replace p371 := eq_true p371
            replace q371 := eq_true q371
            have hnb19 := NB366_364.out
            have hnc19 := NB364_366.out
            have hnb20 := NB366_365.out
            have hnc20 := NB365_366.out
            have hnb21 := NB366_367.out
            have hnc21 := NB367_366.out
            have hcz22_0 : wc.cell? ⟨gb366, 0, none⟩ = some (.int .i64 x367000_1) := (blk_cell BK366.out 0).trans rfl
            have hcz22_1 : wc.cell? ⟨gb366, 1, none⟩ = some (.int .i64 x367001_1) := (blk_cell BK366.out 1).trans rfl
            have hcz22_2 : wc.cell? ⟨gb366, 2, none⟩ = some (.string x367002_1) := (blk_cell BK366.out 2).trans rfl
            have hfz22_0 := blk_frozen BK366.out 0
            have hfz22_1 := blk_frozen BK366.out 1
            have hfz22_2 := blk_frozen BK366.out 2
            go_wp2
            go_meet
            case rel => exact ⟨_, ((rd_T23 l0 x10_1).f0), ((rd_T23 l0 x10_1).f1), ((rd_T23 l0 x10_1).f2), H', ⟨by have := HK1.out; have := HJ8.out; first | omega | exact Nat.le_refl _⟩, ⟨by refine bp_ ?_; refine blk_far ?_ NB364_366.out _; refine bp_ ?_; refine blk_far ?_ NB364_366.out _; refine bp_ ?_; refine blk_far ?_ NB364_366.out _; refine bp_ ?_; exact BK364.out⟩, ⟨by refine bp_ ?_; refine blk_far ?_ NB365_366.out _; refine bp_ ?_; refine blk_far ?_ NB365_366.out _; refine bp_ ?_; refine blk_far ?_ NB365_366.out _; refine bp_ ?_; exact BK365.out⟩, ⟨by refine bp_ ?_; refine blk_put (cs := #[.int .i64 ((rd_T23 l0 x10_1).f0), .int .i64 ((rd_T23 l0 x10_1).f1), .string x367002_1]) ?_ 2 _ rfl; refine bp_ ?_; refine blk_put (cs := #[.int .i64 ((rd_T23 l0 x10_1).f0), .int .i64 x367001_1, .string x367002_1]) ?_ 1 _ rfl; refine bp_ ?_; refine blk_put (cs := #[.int .i64 x367000_1, .int .i64 x367001_1, .string x367002_1]) ?_ 0 _ rfl; refine bp_ ?_; exact BK366.out⟩, ⟨by refine bp_ ?_; refine blk_far ?_ NB367_366.out _; refine bp_ ?_; refine blk_far ?_ NB367_366.out _; refine bp_ ?_; refine blk_far ?_ NB367_366.out _; refine bp_ ?_; exact BK367.out⟩, ⟨bl_⟩⟩
           ·rw [if_neg c18] at H
            exact absurd H (by simp)
          ·rw [if_neg c17] at H
           exact absurd H (by simp)
         ·replace c16 := Bool.eq_false_iff.mpr c16
          subst c16
          have H1 : (trommelref19_Ends.j2 kj8 l0 x8_1 x9_1 x10_1 x367000_1 x367001_1 x367002_1 x368000_1 x368001_1 x368002_1) = some (r1, r2, r3, r4, r5, r6, r7, r8) := by rw [if_neg (show ¬ (false = true) by decide)] at H; exact H
          clear H
          have H := H1
          clear H1
          have H' := am_ H
          clear H
          go_wp2
          go_meet
          case rel => exact ⟨_, (x367000_1), (x367001_1), (x367002_1), H', ⟨by have := HK1.out; have := HJ8.out; first | omega | exact Nat.le_refl _⟩, ⟨bk_ BK364.out⟩, ⟨bk_ BK365.out⟩, ⟨bk_ BK366.out⟩, ⟨bk_ BK367.out⟩, ⟨bl_⟩⟩
        case rest =>
         clear HC15
         try clear c1
         try clear c2
         try clear p2
         try clear p3
         try clear q3
         try clear hx3
         try clear c6
         try clear c6b0
         try clear p6
         try clear c7
         try clear c7b0
         try clear c8
         try clear c8b0
         try clear c8b1
         try clear c10
         try clear c12
         try clear c16
         try clear c17
         try clear c17b0
         try clear c18
         try clear c18b0
         try clear c19
         try clear c20
         try clear c21
         try clear hcz22_0
         try clear hcz22_1
         try clear hcz22_2
         try clear hfz22_0
         try clear hfz22_1
         try clear hfz22_2
         try clear hx368_0
         try clear hx368_1
         try clear hx368_2
         try clear hx369_0
         try clear hx369_1
         try clear hx369_2
         try clear hx371_0
         try clear hx371_1
         try clear hx371_2
         try clear p2
         try clear p3
         try clear p368
         try clear p369
         try clear p371
         try clear p6
         try clear q3
         try clear q368
         try clear q369
         try clear q371
         obtain ⟨kq, x367000_14, x367001_14, x367002_14, HA, HJ14, BK364, BK365, BK366, BK367, HB⟩ := hcut
         cases kq with
         | zero => exact absurd HA.out (by simp [trommelref19_Ends.j2])
         | succ kj14 =>
          have H := HA.out
          clear HA
          simp only [trommelref19_Ends.j2] at H
          by_cases c23 : x8_1 = true
          ·subst c23
           have H1 : (if 0 ≤ x10_1 then (if x10_1 < (l0.length : Int) then ((trommelref01_Order.f kj14 ((rd_T23 l0 x10_1).f0) ((rd_T23 l0 x10_1).f1) ((rd_T23 l0 x10_1).f2) x368000_1 x368001_1 x368002_1).bind fun t373 => (if t373 > 0 then (trommelref19_Ends.l0 kj14 l0 true x9_1 (wrap64 (x10_1 + 1)) x367000_14 x367001_14 x367002_14 ((rd_T23 l0 x10_1).f0) ((rd_T23 l0 x10_1).f1) ((rd_T23 l0 x10_1).f2)) else (trommelref19_Ends.l0 kj14 l0 true x9_1 (wrap64 (x10_1 + 1)) x367000_14 x367001_14 x367002_14 x368000_1 x368001_1 x368002_1))) else (none)) else (none)) = some (r1, r2, r3, r4, r5, r6, r7, r8) := by rw [if_pos rfl] at H; exact H
           clear H
           have H := H1
           clear H1
           by_cases c24 : 0 ≤ x10_1
           ·rw [if_pos c24] at H
            have c24b0 : decide (0 ≤ x10_1) = true := decide_eq_true c24
            clear c24
            by_cases c25 : x10_1 < (l0.length : Int)
            ·rw [if_pos c25] at H
             have c25b0 : decide (x10_1 < (l0.length : Int)) = true := decide_eq_true c25
             clear c25
             replace H := Option.bind_eq_some_iff.mp H
             obtain ⟨t373, A260, H⟩ := H
             replace H : (if t373 > 0 then (trommelref19_Ends.l0 kj14 l0 true x9_1 (wrap64 (x10_1 + 1)) x367000_14 x367001_14 x367002_14 ((rd_T23 l0 x10_1).f0) ((rd_T23 l0 x10_1).f1) ((rd_T23 l0 x10_1).f2)) else (trommelref19_Ends.l0 kj14 l0 true x9_1 (wrap64 (x10_1 + 1)) x367000_14 x367001_14 x367002_14 x368000_1 x368001_1 x368002_1)) = some (r1, r2, r3, r4, r5, r6, r7, r8) := H
             have A26 := am_ A260
             clear A260
             by_cases c27 : t373 > 0
             ·rw [if_pos c27] at H
              have c27b0 : decide (0 < t373) = true := decide_eq_true c27
              clear c27
              have H' := am_ H
              clear H
              try go_wp2
              have n0_ := am_ (blk_drew BK364.out)
              have n1_ := am_ (blk_drew BK365.out)
              have n2_ := am_ (blk_drew BK366.out)
              have n3_ := am_ (blk_drew BK367.out)
              have n4_ := am_ (below_drew1 HB.out)
              clear BK364
              clear BK365
              clear BK366
              clear BK367
              clear HB
              have BK364 := n0_
              have BK365 := n1_
              have BK366 := n2_
              have BK367 := n3_
              have HB := n4_
              clear n0_ n1_ n2_ n3_ n4_
              have p372 : 0 ≤ (x10_1 : Int) := of_decide_eq_true (as_)
              have q372 : x10_1 < (l0.length : Int) := of_decide_eq_true (as_)
              obtain ⟨ad372, e372, hx372_0, hx372_1, hx372_2⟩ := at_T23 HR0.out x10_1 p372 q372
              have hw372_2 := hx372_2
              have hw372_1 := hx372_1
              have hw372_0 := hx372_0
              obtain rfl : ad368 = ad372 := (by injection e372)
              replace hx372_0 := (HB.out.cell (World.block_lt_of_cell? w _ hx372_0)).trans hx372_0
              replace hx372_1 := (HB.out.cell (World.block_lt_of_cell? w _ hx372_1)).trans hx372_1
              replace hx372_2 := (HB.out.cell (World.block_lt_of_cell? w _ hx372_2)).trans hx372_2
              replace p372 := eq_true p372
              replace q372 := eq_true q372
              refine start_ (n := 11) (S := fun w' => w'.cell? ⟨gb367, 0, none⟩ = some (.int .i64 x368000_1) ∧ w'.cell? ⟨gb367, 1, none⟩ = some (.int .i64 x368001_1) ∧ w'.cell? ⟨gb367, 2, none⟩ = some (.string x368002_1) ∧ w'.cell? (ad368.add ((x10_1).toNat * 3)) = some (.int .i64 ((rd_T23 l0 x10_1).f0)) ∧ w'.cell? ⟨(ad368.add ((x10_1).toNat * 3)).block, (ad368.add ((x10_1).toNat * 3)).off + 1, none⟩ = some (.int .i64 ((rd_T23 l0 x10_1).f1)) ∧ w'.cell? ⟨(ad368.add ((x10_1).toNat * 3)).block, (ad368.add ((x10_1).toNat * 3)).off + 2, none⟩ = some (.string ((rd_T23 l0 x10_1).f2))) (ds := []) #[false, false, false, false, false, false, false, false, false, false, false] (by kernel_rfl) rfl rfl ⟨(blk_cell BK367.out 0).trans rfl, (blk_cell BK367.out 1).trans rfl, (blk_cell BK367.out 2).trans rfl, ((HB.out.cell (World.block_lt_of_cell? w _ hw372_0)).trans hw372_0), ((HB.out.cell (World.block_lt_of_cell? w _ hw372_1)).trans hw372_1), ((HB.out.cell (World.block_lt_of_cell? w _ hw372_2)).trans hw372_2)⟩ (fun hHeld => ?_); refine with_tabW trommelref19_Ends.tab10 trommelref19_Ends.bits10 (fun HT_ HW_ => ?_)
              generalize wc.drew = w28 at BK364 BK365 BK366 BK367 HB hx372_0 hx372_1 hx372_2 hHeld ⊢
              refine pure_ (i := 0) (N := some 38) (v := ?_) (a' := ?_) #[true, false, false, false, false, false, false, false, false, false, false] rfl rfl (any_of HT_.out (by kernel_rfl)) (fun _ _ _ h => h) (Or.inl ⟨by rfl, ?_⟩) ?_ ?_
              rotate_left
              ·intro w'
               go_simp
               with_reducible rfl
              rotate_left
              ·simp only [Act.put, List.setIfInBounds_toArray, List.set_cons_zero, List.set_cons_succ, i64_w, i32_w]
               rfl
              refine pure_ (i := 1) (N := some 39) (v := ?_) (a' := ?_) #[true, true, false, false, false, false, false, false, false, false, false] rfl rfl (any_of HT_.out (by kernel_rfl)) (fun _ _ _ h => h) (Or.inl ⟨by rfl, ?_⟩) ?_ ?_
              rotate_left
              ·intro w'
               go_simp
               with_reducible rfl
              rotate_left
              ·simp only [Act.put, List.setIfInBounds_toArray, List.set_cons_zero, List.set_cons_succ, i64_w, i32_w]
               rfl
              refine pure_ (i := 2) (N := some 40) (v := ?_) (a' := ?_) #[true, true, true, false, false, false, false, false, false, false, false] rfl rfl (any_of HT_.out (by kernel_rfl)) (fun _ _ _ h => h) (Or.inl ⟨by rfl, ?_⟩) ?_ ?_
              rotate_left
              ·intro w'
               go_simp
               with_reducible rfl
              rotate_left
              ·simp only [Act.put, List.setIfInBounds_toArray, List.set_cons_zero, List.set_cons_succ, i64_w, i32_w]
               rfl
              refine pure_ (i := 3) (N := some 41) (v := ?_) (a' := ?_) #[true, true, true, true, false, false, false, false, false, false, false] rfl rfl (any_of HT_.out (by kernel_rfl)) (fun _ _ _ h => h) (Or.inl ⟨by rfl, ?_⟩) ?_ ?_
              rotate_left
              ·intro w'
               go_simp
               with_reducible rfl
              rotate_left
              ·simp only [Act.put, List.setIfInBounds_toArray, List.set_cons_zero, List.set_cons_succ, i64_w, i32_w]
               rfl
              refine pure_ (i := 4) (N := some 42) (v := ?_) (a' := ?_) #[true, true, true, true, true, false, false, false, false, false, false] rfl rfl (any_of HT_.out (by kernel_rfl)) (fun _ _ _ h => h) (Or.inl ⟨by rfl, ?_⟩) ?_ ?_
              rotate_left
              ·intro w'
               go_simp
               with_reducible rfl
              rotate_left
              ·simp only [Act.put, List.setIfInBounds_toArray, List.set_cons_zero, List.set_cons_succ, i64_w, i32_w]
               rfl
              refine pure_ (i := 5) (N := some 43) (v := ?_) (a' := ?_) #[true, true, true, true, true, true, false, false, false, false, false] rfl rfl (any_of HT_.out (by kernel_rfl)) (fun _ _ _ h => h) (Or.inl ⟨by rfl, ?_⟩) ?_ ?_
              rotate_left
              ·intro w'
               go_simp
               with_reducible rfl
              rotate_left
              ·simp only [Act.put, List.setIfInBounds_toArray, List.set_cons_zero, List.set_cons_succ, i64_w, i32_w]
               rfl
              refine take_ (i := 6) (N := some 44) (v := ?_) (a' := ?_) #[true, true, true, true, true, true, true, false, false, false, false] rfl rfl (take_ofW HT_.out HW_.out (by kernel_rfl)) (fun _ _ _ h => h) (Or.inl ⟨by rfl, ?_⟩) hHeld ?_ ?_
              rotate_left
              ·rintro w' ⟨s0, s1, s2, s3, s4, s5⟩
               go_simp
               with_reducible rfl
              rotate_left
              ·simp only [Act.put, List.setIfInBounds_toArray, List.set_cons_zero, List.set_cons_succ, i64_w, i32_w]
               rfl
              refine take_ (i := 7) (N := some 45) (v := ?_) (a' := ?_) #[true, true, true, true, true, true, true, true, false, false, false] rfl rfl (take_ofW HT_.out HW_.out (by kernel_rfl)) (fun _ _ _ h => h) (Or.inl ⟨by rfl, ?_⟩) hHeld ?_ ?_
              rotate_left
              ·rintro w' ⟨s0, s1, s2, s3, s4, s5⟩
               go_simp
               with_reducible rfl
              rotate_left
              ·simp only [Act.put, List.setIfInBounds_toArray, List.set_cons_zero, List.set_cons_succ, i64_w, i32_w]
               rfl
              refine one_ (i := 8) (N := some 46) #[true, true, true, true, true, true, true, true, true, false, false] rfl rfl (one_of HT_.out (by kernel_rfl)) (by decide) (fun K hK => ?_)
              refine goes_ Tryd.func123 (by kernel_rfl) rfl #[.agg #[.int .i64 ((rd_T23 l0 x10_1).f0), .int .i64 ((rd_T23 l0 x10_1).f1), .string ((rd_T23 l0 x10_1).f2)], .agg #[.int .i64 x368000_1, .int .i64 x368001_1, .string x368002_1]] (by rfl) rfl rfl (by (try simp only [List.map_toArray, List.map_cons, List.map_nil]); first | done | rfl | (simp only [List.length_drop, List.length_take]; rfl)) ?_
              with_reducible refine (trommelref01_Order.calls kj14 ((rd_T23 l0 x10_1).f0) ((rd_T23 l0 x10_1).f1) ((rd_T23 l0 x10_1).f2) x368000_1 x368001_1 x368002_1 t373 _ A26.out).mono ?_
              rintro e w29 ⟨rfl, hb⟩
              refine ⟨_, rfl, ?_⟩
              have n0_ := am_ (blk_below (g := gb364) (o := .cells #[.int .i64 0, .int .i64 0, .string (⟨#[]⟩ : ByteArray)] 23 (0, 0)) (bk_ BK364.out) hb)
              have n1_ := am_ (blk_below (g := gb365) (o := .cells #[.int .i64 0, .int .i64 0, .string (⟨#[]⟩ : ByteArray)] 23 (0, 0)) (bk_ BK365.out) hb)
              have n2_ := am_ (blk_below (g := gb366) (o := .cells #[.int .i64 x367000_14, .int .i64 x367001_14, .string x367002_14] 23 (0, 0)) (bk_ BK366.out) hb)
              have n3_ := am_ (blk_below (g := gb367) (o := .cells #[.int .i64 x368000_1, .int .i64 x368001_1, .string x368002_1] 23 (0, 0)) (bk_ BK367.out) hb)
              have n4_ := am_ (below_step (bl_) hb)
              clear BK364
              clear BK365
              clear BK366
              clear BK367
              clear HB
              have BK364 := n0_
              have BK365 := n1_
              have BK366 := n2_
              have BK367 := n3_
              have HB := n4_
              clear n0_ n1_ n2_ n3_ n4_
              (try clear hb)
              (try clear hb2)
              (try clear hk)
              (try clear hi)
              refine hK.out _ _ ⟨(blk_cell BK367.out 0).trans rfl, (blk_cell BK367.out 1).trans rfl, (blk_cell BK367.out 2).trans rfl, ((HB.out.cell (World.block_lt_of_cell? w _ hw372_0)).trans hw372_0), ((HB.out.cell (World.block_lt_of_cell? w _ hw372_1)).trans hw372_1), ((HB.out.cell (World.block_lt_of_cell? w _ hw372_2)).trans hw372_2)⟩ (fun hHeld => ?_)
              clear hK K
              refine norm_ (a' := ?_) ?_ ?_
              rotate_left
              ·show Act.put _ (some 46) _ = _
               simp only [Act.put, List.setIfInBounds_toArray, List.set_cons_zero, List.set_cons_succ, i64_w, i32_w]
               rfl
              refine pure_ (i := 9) (N := some 47) (v := ?_) (a' := ?_) #[true, true, true, true, true, true, true, true, true, true, false] rfl rfl (any_of HT_.out (by kernel_rfl)) (fun _ _ _ h => h) (Or.inl ⟨by rfl, ?_⟩) ?_ ?_
              rotate_left
              ·intro w'
               go_simp
               with_reducible rfl
              rotate_left
              ·simp only [Act.put, List.setIfInBounds_toArray, List.set_cons_zero, List.set_cons_succ, i64_w, i32_w]
               rfl
              refine pure_ (i := 10) (N := some 48) (v := ?_) (a' := ?_) #[true, true, true, true, true, true, true, true, true, true, true] rfl rfl (any_of HT_.out (by kernel_rfl)) (fun _ _ _ h => h) (Or.inl ⟨by rfl, ?_⟩) ?_ ?_
              rotate_left
              ·intro w'
               go_simp
               with_reducible rfl
              rotate_left
              ·simp only [Act.put, List.setIfInBounds_toArray, List.set_cons_zero, List.set_cons_succ, i64_w, i32_w]
               rfl
              refine done_ (done_of HT_.out (by kernel_rfl)) ?_
              have p374 : 0 ≤ (x10_1 : Int) := of_decide_eq_true (as_)
              have q374 : x10_1 < (l0.length : Int) := of_decide_eq_true (as_)
              obtain ⟨ad374, e374, hx374_0, hx374_1, hx374_2⟩ := at_T23 HR0.out x10_1 p374 q374
              obtain rfl : ad368 = ad374 := (by injection e374)
              replace hx374_0 := (HB.out.cell (World.block_lt_of_cell? w _ hx374_0)).trans hx374_0
              replace hx374_1 := (HB.out.cell (World.block_lt_of_cell? w _ hx374_1)).trans hx374_1
              replace hx374_2 := (HB.out.cell (World.block_lt_of_cell? w _ hx374_2)).trans hx374_2
              replace p374 := eq_true p374
              replace q374 := eq_true q374
              have hnb30 := NB367_364.out
              have hnc30 := NB364_367.out
              have hnb31 := NB367_365.out
              have hnc31 := NB365_367.out
              have hnb32 := NB367_366.out
              have hnc32 := NB366_367.out
              have hcz33_0 : w29.cell? ⟨gb367, 0, none⟩ = some (.int .i64 x368000_1) := (blk_cell BK367.out 0).trans rfl
              have hcz33_1 : w29.cell? ⟨gb367, 1, none⟩ = some (.int .i64 x368001_1) := (blk_cell BK367.out 1).trans rfl
              have hcz33_2 : w29.cell? ⟨gb367, 2, none⟩ = some (.string x368002_1) := (blk_cell BK367.out 2).trans rfl
              have hfz33_0 := blk_frozen BK367.out 0
              have hfz33_1 := blk_frozen BK367.out 1
              have hfz33_2 := blk_frozen BK367.out 2
              try go_wp2
              go_roundg kj14
              case measure => have := HK1.out; have := HJ8.out; have := HJ14.out; omega
              case rel => exact ⟨(true), (x9_1), (wrap64 (x10_1 + 1)), (x367000_14), (x367001_14), (x367002_14), ((rd_T23 l0 x10_1).f0), ((rd_T23 l0 x10_1).f1), ((rd_T23 l0 x10_1).f2), (rs_), (rs_), (rs_), H', ⟨by have := HK1.out; have := HJ8.out; have := HJ14.out; omega⟩, ⟨by refine bp_ ?_; refine blk_far ?_ NB364_367.out _; refine bp_ ?_; refine blk_far ?_ NB364_367.out _; refine bp_ ?_; refine blk_far ?_ NB364_367.out _; refine bp_ ?_; exact BK364.out⟩, ⟨by refine bp_ ?_; refine blk_far ?_ NB365_367.out _; refine bp_ ?_; refine blk_far ?_ NB365_367.out _; refine bp_ ?_; refine blk_far ?_ NB365_367.out _; refine bp_ ?_; exact BK365.out⟩, ⟨by refine bp_ ?_; refine blk_far ?_ NB366_367.out _; refine bp_ ?_; refine blk_far ?_ NB366_367.out _; refine bp_ ?_; refine blk_far ?_ NB366_367.out _; refine bp_ ?_; exact BK366.out⟩, ⟨by refine bp_ ?_; refine blk_put (cs := #[.int .i64 ((rd_T23 l0 x10_1).f0), .int .i64 ((rd_T23 l0 x10_1).f1), .string x368002_1]) ?_ 2 _ rfl; refine bp_ ?_; refine blk_put (cs := #[.int .i64 ((rd_T23 l0 x10_1).f0), .int .i64 x368001_1, .string x368002_1]) ?_ 1 _ rfl; refine bp_ ?_; refine blk_put (cs := #[.int .i64 x368000_1, .int .i64 x368001_1, .string x368002_1]) ?_ 0 _ rfl; refine bp_ ?_; exact BK367.out⟩, ⟨bl_⟩⟩
             ·rw [if_neg c27] at H
              have c27b0 : decide (0 < t373) = false := decide_eq_false c27
              clear c27
              have H' := am_ H
              clear H
              try go_wp2
              have n0_ := am_ (blk_drew BK364.out)
              have n1_ := am_ (blk_drew BK365.out)
              have n2_ := am_ (blk_drew BK366.out)
              have n3_ := am_ (blk_drew BK367.out)
              have n4_ := am_ (below_drew1 HB.out)
              clear BK364
              clear BK365
              clear BK366
              clear BK367
              clear HB
              have BK364 := n0_
              have BK365 := n1_
              have BK366 := n2_
              have BK367 := n3_
              have HB := n4_
              clear n0_ n1_ n2_ n3_ n4_
              have p372 : 0 ≤ (x10_1 : Int) := of_decide_eq_true (as_)
              have q372 : x10_1 < (l0.length : Int) := of_decide_eq_true (as_)
              obtain ⟨ad372, e372, hx372_0, hx372_1, hx372_2⟩ := at_T23 HR0.out x10_1 p372 q372
              have hw372_2 := hx372_2
              have hw372_1 := hx372_1
              have hw372_0 := hx372_0
              obtain rfl : ad368 = ad372 := (by injection e372)
              replace hx372_0 := (HB.out.cell (World.block_lt_of_cell? w _ hx372_0)).trans hx372_0
              replace hx372_1 := (HB.out.cell (World.block_lt_of_cell? w _ hx372_1)).trans hx372_1
              replace hx372_2 := (HB.out.cell (World.block_lt_of_cell? w _ hx372_2)).trans hx372_2
              replace p372 := eq_true p372
              replace q372 := eq_true q372
              refine start_ (n := 11) (S := fun w' => w'.cell? ⟨gb367, 0, none⟩ = some (.int .i64 x368000_1) ∧ w'.cell? ⟨gb367, 1, none⟩ = some (.int .i64 x368001_1) ∧ w'.cell? ⟨gb367, 2, none⟩ = some (.string x368002_1) ∧ w'.cell? (ad368.add ((x10_1).toNat * 3)) = some (.int .i64 ((rd_T23 l0 x10_1).f0)) ∧ w'.cell? ⟨(ad368.add ((x10_1).toNat * 3)).block, (ad368.add ((x10_1).toNat * 3)).off + 1, none⟩ = some (.int .i64 ((rd_T23 l0 x10_1).f1)) ∧ w'.cell? ⟨(ad368.add ((x10_1).toNat * 3)).block, (ad368.add ((x10_1).toNat * 3)).off + 2, none⟩ = some (.string ((rd_T23 l0 x10_1).f2))) (ds := []) #[false, false, false, false, false, false, false, false, false, false, false] (by kernel_rfl) rfl rfl ⟨(blk_cell BK367.out 0).trans rfl, (blk_cell BK367.out 1).trans rfl, (blk_cell BK367.out 2).trans rfl, ((HB.out.cell (World.block_lt_of_cell? w _ hw372_0)).trans hw372_0), ((HB.out.cell (World.block_lt_of_cell? w _ hw372_1)).trans hw372_1), ((HB.out.cell (World.block_lt_of_cell? w _ hw372_2)).trans hw372_2)⟩ (fun hHeld => ?_); refine with_tabW trommelref19_Ends.tab10 trommelref19_Ends.bits10 (fun HT_ HW_ => ?_)
              generalize wc.drew = w34 at BK364 BK365 BK366 BK367 HB hx372_0 hx372_1 hx372_2 hHeld ⊢
              refine pure_ (i := 0) (N := some 38) (v := ?_) (a' := ?_) #[true, false, false, false, false, false, false, false, false, false, false] rfl rfl (any_of HT_.out (by kernel_rfl)) (fun _ _ _ h => h) (Or.inl ⟨by rfl, ?_⟩) ?_ ?_
              rotate_left
              ·intro w'
               go_simp
               with_reducible rfl
              rotate_left
              ·simp only [Act.put, List.setIfInBounds_toArray, List.set_cons_zero, List.set_cons_succ, i64_w, i32_w]
               rfl
              refine pure_ (i := 1) (N := some 39) (v := ?_) (a' := ?_) #[true, true, false, false, false, false, false, false, false, false, false] rfl rfl (any_of HT_.out (by kernel_rfl)) (fun _ _ _ h => h) (Or.inl ⟨by rfl, ?_⟩) ?_ ?_
              rotate_left
              ·intro w'
               go_simp
               with_reducible rfl
              rotate_left
              ·simp only [Act.put, List.setIfInBounds_toArray, List.set_cons_zero, List.set_cons_succ, i64_w, i32_w]
               rfl
              refine pure_ (i := 2) (N := some 40) (v := ?_) (a' := ?_) #[true, true, true, false, false, false, false, false, false, false, false] rfl rfl (any_of HT_.out (by kernel_rfl)) (fun _ _ _ h => h) (Or.inl ⟨by rfl, ?_⟩) ?_ ?_
              rotate_left
              ·intro w'
               go_simp
               with_reducible rfl
              rotate_left
              ·simp only [Act.put, List.setIfInBounds_toArray, List.set_cons_zero, List.set_cons_succ, i64_w, i32_w]
               rfl
              refine pure_ (i := 3) (N := some 41) (v := ?_) (a' := ?_) #[true, true, true, true, false, false, false, false, false, false, false] rfl rfl (any_of HT_.out (by kernel_rfl)) (fun _ _ _ h => h) (Or.inl ⟨by rfl, ?_⟩) ?_ ?_
              rotate_left
              ·intro w'
               go_simp
               with_reducible rfl
              rotate_left
              ·simp only [Act.put, List.setIfInBounds_toArray, List.set_cons_zero, List.set_cons_succ, i64_w, i32_w]
               rfl
              refine pure_ (i := 4) (N := some 42) (v := ?_) (a' := ?_) #[true, true, true, true, true, false, false, false, false, false, false] rfl rfl (any_of HT_.out (by kernel_rfl)) (fun _ _ _ h => h) (Or.inl ⟨by rfl, ?_⟩) ?_ ?_
              rotate_left
              ·intro w'
               go_simp
               with_reducible rfl
              rotate_left
              ·simp only [Act.put, List.setIfInBounds_toArray, List.set_cons_zero, List.set_cons_succ, i64_w, i32_w]
               rfl
              refine pure_ (i := 5) (N := some 43) (v := ?_) (a' := ?_) #[true, true, true, true, true, true, false, false, false, false, false] rfl rfl (any_of HT_.out (by kernel_rfl)) (fun _ _ _ h => h) (Or.inl ⟨by rfl, ?_⟩) ?_ ?_
              rotate_left
              ·intro w'
               go_simp
               with_reducible rfl
              rotate_left
              ·simp only [Act.put, List.setIfInBounds_toArray, List.set_cons_zero, List.set_cons_succ, i64_w, i32_w]
               rfl
              refine take_ (i := 6) (N := some 44) (v := ?_) (a' := ?_) #[true, true, true, true, true, true, true, false, false, false, false] rfl rfl (take_ofW HT_.out HW_.out (by kernel_rfl)) (fun _ _ _ h => h) (Or.inl ⟨by rfl, ?_⟩) hHeld ?_ ?_
              rotate_left
              ·rintro w' ⟨s0, s1, s2, s3, s4, s5⟩
               go_simp
               with_reducible rfl
              rotate_left
              ·simp only [Act.put, List.setIfInBounds_toArray, List.set_cons_zero, List.set_cons_succ, i64_w, i32_w]
               rfl
              refine take_ (i := 7) (N := some 45) (v := ?_) (a' := ?_) #[true, true, true, true, true, true, true, true, false, false, false] rfl rfl (take_ofW HT_.out HW_.out (by kernel_rfl)) (fun _ _ _ h => h) (Or.inl ⟨by rfl, ?_⟩) hHeld ?_ ?_
              rotate_left
              ·rintro w' ⟨s0, s1, s2, s3, s4, s5⟩
               go_simp
               with_reducible rfl
              rotate_left
              ·simp only [Act.put, List.setIfInBounds_toArray, List.set_cons_zero, List.set_cons_succ, i64_w, i32_w]
               rfl
              refine one_ (i := 8) (N := some 46) #[true, true, true, true, true, true, true, true, true, false, false] rfl rfl (one_of HT_.out (by kernel_rfl)) (by decide) (fun K hK => ?_)
              refine goes_ Tryd.func123 (by kernel_rfl) rfl #[.agg #[.int .i64 ((rd_T23 l0 x10_1).f0), .int .i64 ((rd_T23 l0 x10_1).f1), .string ((rd_T23 l0 x10_1).f2)], .agg #[.int .i64 x368000_1, .int .i64 x368001_1, .string x368002_1]] (by rfl) rfl rfl (by (try simp only [List.map_toArray, List.map_cons, List.map_nil]); first | done | rfl | (simp only [List.length_drop, List.length_take]; rfl)) ?_
              with_reducible refine (trommelref01_Order.calls kj14 ((rd_T23 l0 x10_1).f0) ((rd_T23 l0 x10_1).f1) ((rd_T23 l0 x10_1).f2) x368000_1 x368001_1 x368002_1 t373 _ A26.out).mono ?_
              rintro e w35 ⟨rfl, hb⟩
              refine ⟨_, rfl, ?_⟩
              have n0_ := am_ (blk_below (g := gb364) (o := .cells #[.int .i64 0, .int .i64 0, .string (⟨#[]⟩ : ByteArray)] 23 (0, 0)) (bk_ BK364.out) hb)
              have n1_ := am_ (blk_below (g := gb365) (o := .cells #[.int .i64 0, .int .i64 0, .string (⟨#[]⟩ : ByteArray)] 23 (0, 0)) (bk_ BK365.out) hb)
              have n2_ := am_ (blk_below (g := gb366) (o := .cells #[.int .i64 x367000_14, .int .i64 x367001_14, .string x367002_14] 23 (0, 0)) (bk_ BK366.out) hb)
              have n3_ := am_ (blk_below (g := gb367) (o := .cells #[.int .i64 x368000_1, .int .i64 x368001_1, .string x368002_1] 23 (0, 0)) (bk_ BK367.out) hb)
              have n4_ := am_ (below_step (bl_) hb)
              clear BK364
              clear BK365
              clear BK366
              clear BK367
              clear HB
              have BK364 := n0_
              have BK365 := n1_
              have BK366 := n2_
              have BK367 := n3_
              have HB := n4_
              clear n0_ n1_ n2_ n3_ n4_
              (try clear hb)
              (try clear hb2)
              (try clear hk)
              (try clear hi)
              refine hK.out _ _ ⟨(blk_cell BK367.out 0).trans rfl, (blk_cell BK367.out 1).trans rfl, (blk_cell BK367.out 2).trans rfl, ((HB.out.cell (World.block_lt_of_cell? w _ hw372_0)).trans hw372_0), ((HB.out.cell (World.block_lt_of_cell? w _ hw372_1)).trans hw372_1), ((HB.out.cell (World.block_lt_of_cell? w _ hw372_2)).trans hw372_2)⟩ (fun hHeld => ?_)
              clear hK K
              refine norm_ (a' := ?_) ?_ ?_
              rotate_left
              ·show Act.put _ (some 46) _ = _
               simp only [Act.put, List.setIfInBounds_toArray, List.set_cons_zero, List.set_cons_succ, i64_w, i32_w]
               rfl
              refine pure_ (i := 9) (N := some 47) (v := ?_) (a' := ?_) #[true, true, true, true, true, true, true, true, true, true, false] rfl rfl (any_of HT_.out (by kernel_rfl)) (fun _ _ _ h => h) (Or.inl ⟨by rfl, ?_⟩) ?_ ?_
              rotate_left
              ·intro w'
               go_simp
               with_reducible rfl
              rotate_left
              ·simp only [Act.put, List.setIfInBounds_toArray, List.set_cons_zero, List.set_cons_succ, i64_w, i32_w]
               rfl
              refine pure_ (i := 10) (N := some 48) (v := ?_) (a' := ?_) #[true, true, true, true, true, true, true, true, true, true, true] rfl rfl (any_of HT_.out (by kernel_rfl)) (fun _ _ _ h => h) (Or.inl ⟨by rfl, ?_⟩) ?_ ?_
              rotate_left
              ·intro w'
               go_simp
               with_reducible rfl
              rotate_left
              ·simp only [Act.put, List.setIfInBounds_toArray, List.set_cons_zero, List.set_cons_succ, i64_w, i32_w]
               rfl
              refine done_ (done_of HT_.out (by kernel_rfl)) ?_
              try go_wp2
              go_roundg kj14
              case measure => have := HK1.out; have := HJ8.out; have := HJ14.out; omega
              case rel => exact ⟨(true), (x9_1), (wrap64 (x10_1 + 1)), (x367000_14), (x367001_14), (x367002_14), (x368000_1), (x368001_1), (x368002_1), (rs_), (rs_), (rs_), H', ⟨by have := HK1.out; have := HJ8.out; have := HJ14.out; omega⟩, ⟨bk_ BK364.out⟩, ⟨bk_ BK365.out⟩, ⟨bk_ BK366.out⟩, ⟨bk_ BK367.out⟩, ⟨bl_⟩⟩
            ·rw [if_neg c25] at H
             exact absurd H (by simp)
           ·rw [if_neg c24] at H
            exact absurd H (by simp)
          ·replace c23 := Bool.eq_false_iff.mpr c23
           subst c23
           have H1 : (if 0 ≤ x10_1 then (if x10_1 < (l0.length : Int) then (trommelref19_Ends.l0 kj14 l0 true x9_1 (wrap64 (x10_1 + 1)) x367000_14 x367001_14 x367002_14 ((rd_T23 l0 x10_1).f0) ((rd_T23 l0 x10_1).f1) ((rd_T23 l0 x10_1).f2)) else (none)) else (none)) = some (r1, r2, r3, r4, r5, r6, r7, r8) := by rw [if_neg (show ¬ (false = true) by decide)] at H; exact H
           clear H
           have H := H1
           clear H1
           by_cases c36 : 0 ≤ x10_1
           ·rw [if_pos c36] at H
            have c36b0 : decide (0 ≤ x10_1) = true := decide_eq_true c36
            clear c36
            by_cases c37 : x10_1 < (l0.length : Int)
            ·rw [if_pos c37] at H
             have c37b0 : decide (x10_1 < (l0.length : Int)) = true := decide_eq_true c37
             clear c37
             have H' := am_ H
             clear H
             try go_wp2
             have n0_ := am_ (blk_drew BK364.out)
             have n1_ := am_ (blk_drew BK365.out)
             have n2_ := am_ (blk_drew BK366.out)
             have n3_ := am_ (blk_drew BK367.out)
             have n4_ := am_ (below_drew1 HB.out)
             clear BK364
             clear BK365
             clear BK366
             clear BK367
             clear HB
             have BK364 := n0_
             have BK365 := n1_
             have BK366 := n2_
             have BK367 := n3_
             have HB := n4_
             clear n0_ n1_ n2_ n3_ n4_
             refine start_ (n := 11) (S := fun w' => True) (ds := []) #[false, false, false, false, false, false, false, false, false, false, false] (by kernel_rfl) rfl rfl trivial (fun hHeld => ?_); refine with_tabW trommelref19_Ends.tab10 trommelref19_Ends.bits10 (fun HT_ HW_ => ?_)
             generalize wc.drew = w38 at BK364 BK365 BK366 BK367 HB hHeld ⊢
             refine pure_ (i := 0) (N := some 38) (v := ?_) (a' := ?_) #[true, false, false, false, false, false, false, false, false, false, false] rfl rfl (any_of HT_.out (by kernel_rfl)) (fun _ _ _ h => h) (Or.inl ⟨by rfl, ?_⟩) ?_ ?_
             rotate_left
             ·intro w'
              go_simp
              with_reducible rfl
             rotate_left
             ·simp only [Act.put, List.setIfInBounds_toArray, List.set_cons_zero, List.set_cons_succ, i64_w, i32_w]
              rfl
             refine pure_ (i := 1) (N := some 39) (v := ?_) (a' := ?_) #[true, true, false, false, false, false, false, false, false, false, false] rfl rfl (any_of HT_.out (by kernel_rfl)) (fun _ _ _ h => h) (Or.inl ⟨by rfl, ?_⟩) ?_ ?_
             rotate_left
             ·intro w'
              go_simp
              with_reducible rfl
             rotate_left
             ·simp only [Act.put, List.setIfInBounds_toArray, List.set_cons_zero, List.set_cons_succ, i64_w, i32_w]
              rfl
             refine pure_ (i := 2) (N := some 40) (v := ?_) (a' := ?_) #[true, true, true, false, false, false, false, false, false, false, false] rfl rfl (any_of HT_.out (by kernel_rfl)) (fun _ _ _ h => h) (Or.inl ⟨by rfl, ?_⟩) ?_ ?_
             rotate_left
             ·intro w'
              go_simp
              with_reducible rfl
             rotate_left
             ·simp only [Act.put, List.setIfInBounds_toArray, List.set_cons_zero, List.set_cons_succ, i64_w, i32_w]
              rfl
             refine pure_ (i := 3) (N := some 41) (v := undef) (a' := ?_) #[true, true, true, true, false, false, false, false, false, false, false] rfl rfl (any_of HT_.out (by kernel_rfl)) (fun _ _ _ h => h) (Or.inr ⟨by rfl, rfl⟩) ?_ ?_
             rotate_left
             ·simp only [Act.put, List.setIfInBounds_toArray, List.set_cons_zero, List.set_cons_succ, i64_w, i32_w]
              rfl
             refine pure_ (i := 4) (N := some 42) (v := undef) (a' := ?_) #[true, true, true, true, true, false, false, false, false, false, false] rfl rfl (any_of HT_.out (by kernel_rfl)) (fun _ _ _ h => h) (Or.inr ⟨by rfl, rfl⟩) ?_ ?_
             rotate_left
             ·simp only [Act.put, List.setIfInBounds_toArray, List.set_cons_zero, List.set_cons_succ, i64_w, i32_w]
              rfl
             refine pure_ (i := 5) (N := some 43) (v := undef) (a' := ?_) #[true, true, true, true, true, true, false, false, false, false, false] rfl rfl (any_of HT_.out (by kernel_rfl)) (fun _ _ _ h => h) (Or.inr ⟨by rfl, rfl⟩) ?_ ?_
             rotate_left
             ·simp only [Act.put, List.setIfInBounds_toArray, List.set_cons_zero, List.set_cons_succ, i64_w, i32_w]
              rfl
             refine pure_ (i := 6) (N := some 44) (v := undef) (a' := ?_) #[true, true, true, true, true, true, true, false, false, false, false] rfl rfl (any_of HT_.out (by kernel_rfl)) (fun _ _ _ h => h) (Or.inr ⟨by rfl, rfl⟩) ?_ ?_
             rotate_left
             ·simp only [Act.put, List.setIfInBounds_toArray, List.set_cons_zero, List.set_cons_succ, i64_w, i32_w]
              rfl
             refine pure_ (i := 7) (N := some 45) (v := undef) (a' := ?_) #[true, true, true, true, true, true, true, true, false, false, false] rfl rfl (any_of HT_.out (by kernel_rfl)) (fun _ _ _ h => h) (Or.inr ⟨by rfl, rfl⟩) ?_ ?_
             rotate_left
             ·simp only [Act.put, List.setIfInBounds_toArray, List.set_cons_zero, List.set_cons_succ, i64_w, i32_w]
              rfl
             refine pure_ (i := 8) (N := some 46) (v := undef) (a' := ?_) #[true, true, true, true, true, true, true, true, true, false, false] rfl rfl (any_of HT_.out (by kernel_rfl)) (fun _ _ _ h => h) (Or.inr ⟨by rfl, rfl⟩) ?_ ?_
             rotate_left
             ·simp only [Act.put, List.setIfInBounds_toArray, List.set_cons_zero, List.set_cons_succ, i64_w, i32_w]
              rfl
             refine pure_ (i := 9) (N := some 47) (v := undef) (a' := ?_) #[true, true, true, true, true, true, true, true, true, true, false] rfl rfl (any_of HT_.out (by kernel_rfl)) (fun _ _ _ h => h) (Or.inr ⟨by rfl, rfl⟩) ?_ ?_
             rotate_left
             ·simp only [Act.put, List.setIfInBounds_toArray, List.set_cons_zero, List.set_cons_succ, i64_w, i32_w]
              rfl
             refine pure_ (i := 10) (N := some 48) (v := ?_) (a' := ?_) #[true, true, true, true, true, true, true, true, true, true, true] rfl rfl (any_of HT_.out (by kernel_rfl)) (fun _ _ _ h => h) (Or.inl ⟨by rfl, ?_⟩) ?_ ?_
             rotate_left
             ·intro w'
              go_simp
              with_reducible rfl
             rotate_left
             ·simp only [Act.put, List.setIfInBounds_toArray, List.set_cons_zero, List.set_cons_succ, i64_w, i32_w]
              rfl
             refine done_ (done_of HT_.out (by kernel_rfl)) ?_
             have p375 : 0 ≤ (x10_1 : Int) := of_decide_eq_true (as_)
             have q375 : x10_1 < (l0.length : Int) := of_decide_eq_true (as_)
             obtain ⟨ad375, e375, hx375_0, hx375_1, hx375_2⟩ := at_T23 HR0.out x10_1 p375 q375
             obtain rfl : ad368 = ad375 := (by injection e375)
             replace hx375_0 := (HB.out.cell (World.block_lt_of_cell? w _ hx375_0)).trans hx375_0
             replace hx375_1 := (HB.out.cell (World.block_lt_of_cell? w _ hx375_1)).trans hx375_1
             replace hx375_2 := (HB.out.cell (World.block_lt_of_cell? w _ hx375_2)).trans hx375_2
             replace p375 := eq_true p375
             replace q375 := eq_true q375
             have hnb39 := NB367_364.out
             have hnc39 := NB364_367.out
             have hnb40 := NB367_365.out
             have hnc40 := NB365_367.out
             have hnb41 := NB367_366.out
             have hnc41 := NB366_367.out
             have hcz42_0 : w38.cell? ⟨gb367, 0, none⟩ = some (.int .i64 x368000_1) := (blk_cell BK367.out 0).trans rfl
             have hcz42_1 : w38.cell? ⟨gb367, 1, none⟩ = some (.int .i64 x368001_1) := (blk_cell BK367.out 1).trans rfl
             have hcz42_2 : w38.cell? ⟨gb367, 2, none⟩ = some (.string x368002_1) := (blk_cell BK367.out 2).trans rfl
             have hfz42_0 := blk_frozen BK367.out 0
             have hfz42_1 := blk_frozen BK367.out 1
             have hfz42_2 := blk_frozen BK367.out 2
             try go_wp2
             go_roundg kj14
             case measure => have := HK1.out; have := HJ8.out; have := HJ14.out; omega
             case rel => exact ⟨(true), (x9_1), (wrap64 (x10_1 + 1)), (x367000_14), (x367001_14), (x367002_14), ((rd_T23 l0 x10_1).f0), ((rd_T23 l0 x10_1).f1), ((rd_T23 l0 x10_1).f2), (rs_), (rs_), (rs_), H', ⟨by have := HK1.out; have := HJ8.out; have := HJ14.out; omega⟩, ⟨by refine bp_ ?_; refine blk_far ?_ NB364_367.out _; refine bp_ ?_; refine blk_far ?_ NB364_367.out _; refine bp_ ?_; refine blk_far ?_ NB364_367.out _; refine bp_ ?_; exact BK364.out⟩, ⟨by refine bp_ ?_; refine blk_far ?_ NB365_367.out _; refine bp_ ?_; refine blk_far ?_ NB365_367.out _; refine bp_ ?_; refine blk_far ?_ NB365_367.out _; refine bp_ ?_; exact BK365.out⟩, ⟨by refine bp_ ?_; refine blk_far ?_ NB366_367.out _; refine bp_ ?_; refine blk_far ?_ NB366_367.out _; refine bp_ ?_; refine blk_far ?_ NB366_367.out _; refine bp_ ?_; exact BK366.out⟩, ⟨by refine bp_ ?_; refine blk_put (cs := #[.int .i64 ((rd_T23 l0 x10_1).f0), .int .i64 ((rd_T23 l0 x10_1).f1), .string x368002_1]) ?_ 2 _ rfl; refine bp_ ?_; refine blk_put (cs := #[.int .i64 ((rd_T23 l0 x10_1).f0), .int .i64 x368001_1, .string x368002_1]) ?_ 1 _ rfl; refine bp_ ?_; refine blk_put (cs := #[.int .i64 x368000_1, .int .i64 x368001_1, .string x368002_1]) ?_ 0 _ rfl; refine bp_ ?_; exact BK367.out⟩, ⟨bl_⟩⟩
            ·rw [if_neg c37] at H
             exact absurd H (by simp)
           ·rw [if_neg c36] at H
            exact absurd H (by simp)
    ·rw [if_neg c7] at H
     exact absurd H (by simp)
   ·rw [if_neg c6] at H
    have c6b0 : decide (x10_1 < (l0.length : Int)) = false := decide_eq_false c6
    clear c6
    simp only [Option.some.injEq, Prod.mk.injEq] at H
    obtain ⟨rfl, rfl, rfl, rfl, rfl, rfl, rfl, rfl⟩ := H
    try go_wp2
    have n0_ := am_ (blk_drew BK364.out)
    have n1_ := am_ (blk_drew BK365.out)
    have n2_ := am_ (blk_drew BK366.out)
    have n3_ := am_ (blk_drew BK367.out)
    have n4_ := am_ (below_drew1 HB.out)
    clear BK364
    clear BK365
    clear BK366
    clear BK367
    clear HB
    have BK364 := n0_
    have BK365 := n1_
    have BK366 := n2_
    have BK367 := n3_
    have HB := n4_
    clear n0_ n1_ n2_ n3_ n4_
    refine start_ (n := 8) (S := fun w' => w'.cell? ⟨gb366, 0, none⟩ = some (.int .i64 x367000_1) ∧ w'.cell? ⟨gb366, 1, none⟩ = some (.int .i64 x367001_1) ∧ w'.cell? ⟨gb366, 2, none⟩ = some (.string x367002_1) ∧ w'.cell? ⟨gb367, 0, none⟩ = some (.int .i64 x368000_1) ∧ w'.cell? ⟨gb367, 1, none⟩ = some (.int .i64 x368001_1) ∧ w'.cell? ⟨gb367, 2, none⟩ = some (.string x368002_1)) (ds := []) #[false, false, false, false, false, false, false, false] (by kernel_rfl) rfl rfl ⟨(blk_cell BK366.out 0).trans rfl, (blk_cell BK366.out 1).trans rfl, (blk_cell BK366.out 2).trans rfl, (blk_cell BK367.out 0).trans rfl, (blk_cell BK367.out 1).trans rfl, (blk_cell BK367.out 2).trans rfl⟩ (fun hHeld => ?_); refine with_tabW trommelref19_Ends.tab13 trommelref19_Ends.bits13 (fun HT_ HW_ => ?_)
    generalize wr.drew = w43 at BK364 BK365 BK366 BK367 HB hHeld ⊢
    refine pure_ (i := 2) (N := some 55) (v := ?_) (a' := ?_) #[false, false, true, false, false, false, false, false] rfl rfl (any_of HT_.out (by kernel_rfl)) (fun _ _ _ h => h) (Or.inl ⟨by rfl, ?_⟩) ?_ ?_
    rotate_left
    ·intro w'
     go_simp
     with_reducible rfl
    rotate_left
    ·simp only [Act.put, List.setIfInBounds_toArray, List.set_cons_zero, List.set_cons_succ, i64_w, i32_w]
     rfl
    refine pure_ (i := 3) (N := some 56) (v := ?_) (a' := ?_) #[false, false, true, true, false, false, false, false] rfl rfl (any_of HT_.out (by kernel_rfl)) (fun _ _ _ h => h) (Or.inl ⟨by rfl, ?_⟩) ?_ ?_
    rotate_left
    ·intro w'
     go_simp
     with_reducible rfl
    rotate_left
    ·simp only [Act.put, List.setIfInBounds_toArray, List.set_cons_zero, List.set_cons_succ, i64_w, i32_w]
     rfl
    refine take_ (i := 0) (N := some 53) (v := ?_) (a' := ?_) #[true, false, true, true, false, false, false, false] rfl rfl (take_ofW HT_.out HW_.out (by kernel_rfl)) (fun _ _ _ h => h) (Or.inl ⟨by rfl, ?_⟩) hHeld ?_ ?_
    rotate_left
    ·rintro w' ⟨s0, s1, s2, s3, s4, s5⟩
     go_simp
     with_reducible rfl
    rotate_left
    ·simp only [Act.put, List.setIfInBounds_toArray, List.set_cons_zero, List.set_cons_succ, i64_w, i32_w]
     rfl
    refine take_ (i := 1) (N := some 54) (v := ?_) (a' := ?_) #[true, true, true, true, false, false, false, false] rfl rfl (take_ofW HT_.out HW_.out (by kernel_rfl)) (fun _ _ _ h => h) (Or.inl ⟨by rfl, ?_⟩) hHeld ?_ ?_
    rotate_left
    ·rintro w' ⟨s0, s1, s2, s3, s4, s5⟩
     go_simp
     with_reducible rfl
    rotate_left
    ·simp only [Act.put, List.setIfInBounds_toArray, List.set_cons_zero, List.set_cons_succ, i64_w, i32_w]
     rfl
    refine one_ (i := 4) (N := none) #[true, true, true, true, true, false, false, false] rfl rfl (one_of HT_.out (by kernel_rfl)) (by decide) (fun K hK => ?_)
    have hs44 : w43.cell? ⟨gb364, 0, none⟩ = some (.int .i64 0) := (blk_cell BK364.out 0).trans rfl
    have hfs44 := blk_frozen BK364.out 0
    have hns44_1 := NB365_364.out
    have hns44_2 := NB366_364.out
    have hns44_3 := NB367_364.out
    have hms44_1 := NB364_365.out
    have hms44_2 := NB364_366.out
    have hms44_3 := NB364_367.out
    have hs45 : w43.cell? ⟨gb364, 1, none⟩ = some (.int .i64 0) := (blk_cell BK364.out 1).trans rfl
    have hfs45 := blk_frozen BK364.out 1
    have hns45_1 := NB365_364.out
    have hns45_2 := NB366_364.out
    have hns45_3 := NB367_364.out
    have hms45_1 := NB364_365.out
    have hms45_2 := NB364_366.out
    have hms45_3 := NB364_367.out
    have hs46 : w43.cell? ⟨gb364, 2, none⟩ = some (.string (⟨#[]⟩ : ByteArray)) := (blk_cell BK364.out 2).trans rfl
    have hfs46 := blk_frozen BK364.out 2
    have hns46_1 := NB365_364.out
    have hns46_2 := NB366_364.out
    have hns46_3 := NB367_364.out
    have hms46_1 := NB364_365.out
    have hms46_2 := NB364_366.out
    have hms46_3 := NB364_367.out
    refine skip_ (w1 := ?_) (by rfl) rfl ?_ ?_
    rotate_left
    ·go_simp
     rfl
    refine hK.out _ _ ⟨((cell_far (p := ⟨gb364, _, none⟩) NB366_364.out _).trans (((cell_far (p := ⟨gb364, _, none⟩) NB366_364.out _).trans (((cell_far (p := ⟨gb364, _, none⟩) NB366_364.out _).trans (hHeld.1)))))), ((cell_far (p := ⟨gb364, _, none⟩) NB366_364.out _).trans (((cell_far (p := ⟨gb364, _, none⟩) NB366_364.out _).trans (((cell_far (p := ⟨gb364, _, none⟩) NB366_364.out _).trans (hHeld.2.1)))))), ((cell_far (p := ⟨gb364, _, none⟩) NB366_364.out _).trans (((cell_far (p := ⟨gb364, _, none⟩) NB366_364.out _).trans (((cell_far (p := ⟨gb364, _, none⟩) NB366_364.out _).trans (hHeld.2.2.1)))))), ((cell_far (p := ⟨gb364, _, none⟩) NB367_364.out _).trans (((cell_far (p := ⟨gb364, _, none⟩) NB367_364.out _).trans (((cell_far (p := ⟨gb364, _, none⟩) NB367_364.out _).trans (hHeld.2.2.2.1)))))), ((cell_far (p := ⟨gb364, _, none⟩) NB367_364.out _).trans (((cell_far (p := ⟨gb364, _, none⟩) NB367_364.out _).trans (((cell_far (p := ⟨gb364, _, none⟩) NB367_364.out _).trans (hHeld.2.2.2.2.1)))))), ((cell_far (p := ⟨gb364, _, none⟩) NB367_364.out _).trans (((cell_far (p := ⟨gb364, _, none⟩) NB367_364.out _).trans (((cell_far (p := ⟨gb364, _, none⟩) NB367_364.out _).trans (hHeld.2.2.2.2.2))))))⟩ (fun hHeld => ?_)
    clear hK K
    refine one_ (i := 5) (N := none) #[true, true, true, true, true, true, false, false] rfl rfl (one_of HT_.out (by kernel_rfl)) (by decide) (fun K hK => ?_)
    have hs47 : w43.cell? ⟨gb365, 0, none⟩ = some (.int .i64 0) := (blk_cell BK365.out 0).trans rfl
    have hfs47 := blk_frozen BK365.out 0
    have hns47_0 := NB364_365.out
    have hns47_2 := NB366_365.out
    have hns47_3 := NB367_365.out
    have hms47_0 := NB365_364.out
    have hms47_2 := NB365_366.out
    have hms47_3 := NB365_367.out
    have hs48 : w43.cell? ⟨gb365, 1, none⟩ = some (.int .i64 0) := (blk_cell BK365.out 1).trans rfl
    have hfs48 := blk_frozen BK365.out 1
    have hns48_0 := NB364_365.out
    have hns48_2 := NB366_365.out
    have hns48_3 := NB367_365.out
    have hms48_0 := NB365_364.out
    have hms48_2 := NB365_366.out
    have hms48_3 := NB365_367.out
    have hs49 : w43.cell? ⟨gb365, 2, none⟩ = some (.string (⟨#[]⟩ : ByteArray)) := (blk_cell BK365.out 2).trans rfl
    have hfs49 := blk_frozen BK365.out 2
    have hns49_0 := NB364_365.out
    have hns49_2 := NB366_365.out
    have hns49_3 := NB367_365.out
    have hms49_0 := NB365_364.out
    have hms49_2 := NB365_366.out
    have hms49_3 := NB365_367.out
    refine skip_ (w1 := ?_) (by rfl) rfl ?_ ?_
    rotate_left
    ·go_simp
     rfl
    refine hK.out _ _ ⟨((cell_far (p := ⟨gb365, _, none⟩) NB366_365.out _).trans (((cell_far (p := ⟨gb365, _, none⟩) NB366_365.out _).trans (((cell_far (p := ⟨gb365, _, none⟩) NB366_365.out _).trans (hHeld.1)))))), ((cell_far (p := ⟨gb365, _, none⟩) NB366_365.out _).trans (((cell_far (p := ⟨gb365, _, none⟩) NB366_365.out _).trans (((cell_far (p := ⟨gb365, _, none⟩) NB366_365.out _).trans (hHeld.2.1)))))), ((cell_far (p := ⟨gb365, _, none⟩) NB366_365.out _).trans (((cell_far (p := ⟨gb365, _, none⟩) NB366_365.out _).trans (((cell_far (p := ⟨gb365, _, none⟩) NB366_365.out _).trans (hHeld.2.2.1)))))), ((cell_far (p := ⟨gb365, _, none⟩) NB367_365.out _).trans (((cell_far (p := ⟨gb365, _, none⟩) NB367_365.out _).trans (((cell_far (p := ⟨gb365, _, none⟩) NB367_365.out _).trans (hHeld.2.2.2.1)))))), ((cell_far (p := ⟨gb365, _, none⟩) NB367_365.out _).trans (((cell_far (p := ⟨gb365, _, none⟩) NB367_365.out _).trans (((cell_far (p := ⟨gb365, _, none⟩) NB367_365.out _).trans (hHeld.2.2.2.2.1)))))), ((cell_far (p := ⟨gb365, _, none⟩) NB367_365.out _).trans (((cell_far (p := ⟨gb365, _, none⟩) NB367_365.out _).trans (((cell_far (p := ⟨gb365, _, none⟩) NB367_365.out _).trans (hHeld.2.2.2.2.2))))))⟩ (fun hHeld => ?_)
    clear hK K
    refine pure_ (i := 6) (N := some 4) (v := ?_) (a' := ?_) #[true, true, true, true, true, true, true, false] rfl rfl (any_of HT_.out (by kernel_rfl)) (fun _ _ _ h => h) (Or.inl ⟨by rfl, ?_⟩) ?_ ?_
    rotate_left
    ·intro w'
     go_simp
     with_reducible rfl
    rotate_left
    ·simp only [Act.put, List.setIfInBounds_toArray, List.set_cons_zero, List.set_cons_succ, i64_w, i32_w]
     rfl
    refine pure_ (i := 7) (N := some 5) (v := ?_) (a' := ?_) #[true, true, true, true, true, true, true, true] rfl rfl (any_of HT_.out (by kernel_rfl)) (fun _ _ _ h => h) (Or.inl ⟨by rfl, ?_⟩) ?_ ?_
    rotate_left
    ·intro w'
     go_simp
     with_reducible rfl
    rotate_left
    ·simp only [Act.put, List.setIfInBounds_toArray, List.set_cons_zero, List.set_cons_succ, i64_w, i32_w]
     rfl
    refine done_ (done_of HT_.out (by kernel_rfl)) ?_
    try go_wp2
    refine bodyPost_ret (results_list (rs := [.cell 2 23, .cell 3 23, .tmp 4, .tmp 5]) rfl (by simp) (.cell gb364 23 #[.int .i64 x367000_1, .int .i64 x367001_1, .string x367002_1] (0, 0) _ rfl (by refine bp_ ?_; refine blk_far ?_ NB364_365.out _; refine bp_ ?_; refine blk_far ?_ NB364_365.out _; refine bp_ ?_; refine blk_far ?_ NB364_365.out _; refine bp_ ?_; refine blk_put (cs := #[.int .i64 x367000_1, .int .i64 x367001_1, .string (⟨#[]⟩ : ByteArray)]) ?_ 2 _ rfl; refine bp_ ?_; refine blk_put (cs := #[.int .i64 x367000_1, .int .i64 0, .string (⟨#[]⟩ : ByteArray)]) ?_ 1 _ rfl; refine bp_ ?_; refine blk_put (cs := #[.int .i64 0, .int .i64 0, .string (⟨#[]⟩ : ByteArray)]) ?_ 0 _ rfl; refine bp_ ?_; exact BK364.out) Tryd.underlying23 rfl (by kernel_rfl) (.cell gb365 23 #[.int .i64 x368000_1, .int .i64 x368001_1, .string x368002_1] (0, 0) _ rfl (by refine bp_ ?_; refine blk_put (cs := #[.int .i64 x368000_1, .int .i64 x368001_1, .string (⟨#[]⟩ : ByteArray)]) ?_ 2 _ rfl; refine bp_ ?_; refine blk_put (cs := #[.int .i64 x368000_1, .int .i64 0, .string (⟨#[]⟩ : ByteArray)]) ?_ 1 _ rfl; refine bp_ ?_; refine blk_put (cs := #[.int .i64 0, .int .i64 0, .string (⟨#[]⟩ : ByteArray)]) ?_ 0 _ rfl; refine bp_ ?_; refine blk_far ?_ NB365_364.out _; refine bp_ ?_; refine blk_far ?_ NB365_364.out _; refine bp_ ?_; refine blk_far ?_ NB365_364.out _; refine bp_ ?_; exact BK365.out) Tryd.underlying23 rfl (by kernel_rfl) (.tmp (.tmp .nil))))) rfl ?_
    exact ⟨ew_, bl_⟩

end Go.Proofs.YtcfgjaggccnoaaaDoor.PSiftPasses
