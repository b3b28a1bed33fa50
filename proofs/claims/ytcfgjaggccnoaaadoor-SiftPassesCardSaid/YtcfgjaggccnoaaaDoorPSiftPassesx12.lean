import Derived.Test.YtcfgjaggccnoaaaDoorPSiftPassesx0
import Derived.Test.YtcfgjaggccnoaaaDoorPSiftPassesx9
import Derived.Test.YtcfgjaggccnoaaaDoorPSiftPassesx10
import Derived.Test.YtcfgjaggccnoaaaDoorPSiftPassesx11
namespace Go.Proofs.YtcfgjaggccnoaaaDoor.PSiftPasses
open Go.RowKit Go.Proofs.YtcfgjaggccnoaaaDoorW.PrintWords Go.Proofs.YtcfgjaggccnoaaaDoorW.PrintLast Go.Proofs.YtcfgjaggccnoaaaDoorW.PrintMore
attribute [local go_sem] max2_int min2_int max_two min_two max_three min_three max_four min_four
set_option linter.unusedVariables false
set_option linter.unusedSimpArgs false
set_option maxRecDepth 100000

def trommelref19_Has.j0 : Nat → Bool → Option (Bool)
 | 0, _ => none
 | k + 1, x4 => some x4
def trommelref19_Has.f (k : Nat) (l0 : List (S23)) (a1_0 : Int) (a1_1 : Int) (a1_2 : ByteArray) : Option (Bool) := (trommelref19_Ends.f k l0).bind fun bt377 => (if a1_0 = 0 then (some bt377.2.2.2.2.2.2.2) else (if bt377.2.2.2.2.2.2.1 = true then ((trommelref01_Order.f k bt377.1 bt377.2.1 bt377.2.2.1 a1_0 a1_1 a1_2).bind fun t387 => (if t387 ≤ 0 then ((trommelref01_Order.f k a1_0 a1_1 a1_2 bt377.2.2.2.1 bt377.2.2.2.2.1 bt377.2.2.2.2.2.1).bind fun t388 => (trommelref19_Has.j0 k (decide (t388 ≤ 0)))) else (trommelref19_Has.j0 k false))) else (trommelref19_Has.j0 k false)))
theorem trommelref19_Has.mono_l : ∀ k, (∀ y0, LeO (trommelref19_Has.j0 k y0) (trommelref19_Has.j0 (k + 1) y0))
 | 0 => fun _ r h => by simp [trommelref19_Has.j0] at h
 | k + 1 => by
  have ih0 := trommelref19_Has.mono_l k
  ·intro y0
   unfold trommelref19_Has.j0
   repeat' first
   | (with_reducible exact ih0 _)
   | (with_reducible exact trommelref01_Order.mono _ _ _ _ _ _ _)
   | (with_reducible exact trommelref19_Ends.mono _ _)
   | (with_reducible exact LeO.refl _)
   | (with_reducible exact LeO.none _)
   | (with_reducible refine LeO.ite ?_ ?_)
   | (with_reducible refine LeO.bind ?_ (fun _ => ?_))
   | exact ih0 _
   | exact trommelref01_Order.mono _ _ _ _ _ _ _
   | exact trommelref19_Ends.mono _ _
   | exact LeO.none _
   | refine LeO.ite ?_ ?_
   | refine LeO.bind ?_ (fun _ => ?_)
theorem trommelref19_Has.mono : ∀ a0 a1 a2 a3 k, LeO (trommelref19_Has.f k a0 a1 a2 a3) (trommelref19_Has.f (k + 1) a0 a1 a2 a3) := by
 intro a0 a1 a2 a3 k
 have ih0 := trommelref19_Has.mono_l k
 unfold trommelref19_Has.f
 repeat' first
   | (with_reducible exact ih0 _)
   | (with_reducible exact trommelref01_Order.mono _ _ _ _ _ _ _)
   | (with_reducible exact trommelref19_Ends.mono _ _)
   | (with_reducible exact LeO.refl _)
   | (with_reducible exact LeO.none _)
   | (with_reducible refine LeO.ite ?_ ?_)
   | (with_reducible refine LeO.bind ?_ (fun _ => ?_))
   | exact ih0 _
   | exact trommelref01_Order.mono _ _ _ _ _ _ _
   | exact trommelref19_Ends.mono _ _
   | exact LeO.none _
   | refine LeO.ite ?_ ?_
   | refine LeO.bind ?_ (fun _ => ?_)
set_option maxHeartbeats 8000000 in
set_option maxRecDepth 100000 in
theorem trommelref19_Has.calls (k : Nat) (A0 : Option Addr) (c0 : Nat) (l0 : List (S23)) (a1_0 : Int) (a1_1 : Int) (a1_2 : ByteArray) (r : Bool) (w : World) (hr0 : Kd.C k23 w A0 l0.length l0) (hc0 : l0.length ≤ c0) (h : trommelref19_Has.f k l0 a1_0 a1_1 a1_2 = some r) :
  Calls Tryd.prog 88 #[.slice A0 l0.length c0, .agg #[.int .i64 a1_0, .int .i64 a1_1, .string a1_2]] w fun e w' => e = .returned (.bool r) ∧ Below w.heap.size w w' := by
 have hu23 := Tryd.underlying23
 have HR0 := am_ hr0
 have HC0 := am_ hc0
 clear hr0 hc0
 have HB := am_ (Below.refl w.heap.size w)
 have H : ((trommelref19_Ends.f k l0).bind fun bt377 => (if a1_0 = 0 then (some bt377.2.2.2.2.2.2.2) else (if bt377.2.2.2.2.2.2.1 = true then ((trommelref01_Order.f k bt377.1 bt377.2.1 bt377.2.2.1 a1_0 a1_1 a1_2).bind fun t387 => (if t387 ≤ 0 then ((trommelref01_Order.f k a1_0 a1_1 a1_2 bt377.2.2.2.1 bt377.2.2.2.2.1 bt377.2.2.2.2.2.1).bind fun t388 => (trommelref19_Has.j0 k (decide (t388 ≤ 0)))) else (trommelref19_Has.j0 k false))) else (trommelref19_Has.j0 k false)))) = some r := h
 clear h
 replace H := Option.bind_eq_some_iff.mp H
 obtain ⟨⟨t377, t378, t379, t380, t381, t382, t383, t384⟩, A30, H⟩ := H
 replace H : (if a1_0 = 0 then (some t384) else (if t383 = true then ((trommelref01_Order.f k t377 t378 t379 a1_0 a1_1 a1_2).bind fun t387 => (if t387 ≤ 0 then ((trommelref01_Order.f k a1_0 a1_1 a1_2 t380 t381 t382).bind fun t388 => (trommelref19_Has.j0 k (decide (t388 ≤ 0)))) else (trommelref19_Has.j0 k false))) else (trommelref19_Has.j0 k false))) = some r := H
 have A3 := am_ A30
 clear A30
 by_cases c4 : a1_0 = 0
 ·rw [if_pos c4] at H
  have c4b0 : (a1_0 == 0) = true := beq_iff_eq.mpr c4
  have c4b1 : (a1_0 != 0) = false := bne_eq_false_iff_eq.mpr c4
  clear c4
  obtain rfl := Option.some.inj H
  go_enter Tryd.func88, Tryd.ntmps88
  go_wp2_with (first | ((with_reducible refine gate_dst (N := 3) rfl ?_); refine box_event ?hg (N := 3) ?hd (cs := #[.int .i64 a1_0, .int .i64 a1_1, .string a1_2]) (t := 23) ?hr ?_; (case hd => rfl); (case hg => rfl); (case hr => first | (go_simp; done) | (go_simp; rfl)); intro gb376 hg w5 hbox hb; have BK376 := am_ (hbox); have GW376 := am_ ((by rw [hg]; exact (below_size (bl_)) : w.heap.size ≤ gb376)); have GE376 := am_ ((by rw [hg]; exact (below_size (bl_)) : w.heap.size ≤ gb376)); replace HB := am_ (below_step (bl_) hb); clear hb hbox hg) | ((with_reducible refine gate_callee (f := 122) rfl ?_); refine goesL_ (some 11) rfl rfl Tryd.func122 (by kernel_rfl) rfl #[.slice A0 l0.length c0] rfl (by (try simp only [List.map_toArray, List.map_cons, List.map_nil]); first | done | rfl | (simp only [List.length_drop, List.length_take]; rfl)) ?_; (with_reducible refine (trommelref19_Ends.calls k _ _ l0 t377 t378 t379 t380 t381 t382 t383 t384 _ ?side1 ?side2 A3.out).mono ?_); (case side1 => repeat (first | exact (Kd.C_below HR0.out HB.out) | (with_reducible refine Kd.C_alloc ?_ _) | (with_reducible refine Kd.C_drewN ?_ _) | (with_reducible refine Kd.C_drew ?_))); (case side2 => exact HC0.out); rintro e w6 ⟨rfl, hb⟩; refine ⟨_, rfl, ?_⟩; replace BK376 := am_ (blk_below (g := gb376) (o := .cells #[.int .i64 a1_0, .int .i64 a1_1, .string a1_2] 23 (0, 0)) (bk_ BK376.out) hb); replace HB := am_ (below_step (bl_) hb); (try clear hb); (try clear hb2); (try clear hk); (try clear hi)) | ((with_reducible refine gate_dst (N := 5) rfl ?_); refine box_event ?hg (N := 5) ?hd (cs := #[.int .i64 0, .int .i64 0, .string (⟨#[]⟩ : ByteArray)]) (t := 23) ?hr ?_; (case hd => rfl); (case hg => rfl); (case hr => first | (go_simp; done) | (go_simp; rfl)); intro gb385 hg w7 hbox hb; have n0_ := am_ (blk_below (g := gb376) (o := .cells #[.int .i64 a1_0, .int .i64 a1_1, .string a1_2] 23 (0, 0)) (bk_ BK376.out) hb); have n1_ := am_ (below_step (bl_) hb); have n2_ := am_ (hbox); have n3_ := am_ ((by rw [hg]; exact (below_size (bl_)) : w.heap.size ≤ gb385)); have n4_ := am_ ((by rw [hg]; exact (below_size (bl_)) : w.heap.size ≤ gb385)); have n5_ := am_ ((by rw [hg]; exact Nat.ne_of_lt (blk_lt (g := gb376) (o := .cells #[.int .i64 a1_0, .int .i64 a1_1, .string a1_2] 23 (0, 0)) (bk_ BK376.out)) : gb376 ≠ gb385)); have n6_ := am_ ((by rw [hg]; exact Nat.ne_of_gt (blk_lt (g := gb376) (o := .cells #[.int .i64 a1_0, .int .i64 a1_1, .string a1_2] 23 (0, 0)) (bk_ BK376.out)) : gb385 ≠ gb376)); clear BK376; clear HB; have BK376 := n0_; have HB := n1_; have BK385 := n2_; have GW385 := n3_; have GE385 := n4_; have NB376_385 := n5_; have NB385_376 := n6_; clear n0_ n1_ n2_ n3_ n4_ n5_ n6_; clear hb hbox hg) | ((with_reducible refine gate_dst (N := 6) rfl ?_); refine box_event ?hg (N := 6) ?hd (cs := #[.int .i64 0, .int .i64 0, .string (⟨#[]⟩ : ByteArray)]) (t := 23) ?hr ?_; (case hd => rfl); (case hg => rfl); (case hr => first | (go_simp; done) | (go_simp; rfl)); intro gb386 hg w8 hbox hb; have n0_ := am_ (blk_below (g := gb376) (o := .cells #[.int .i64 a1_0, .int .i64 a1_1, .string a1_2] 23 (0, 0)) (bk_ BK376.out) hb); have n1_ := am_ (blk_below (g := gb385) (o := .cells #[.int .i64 0, .int .i64 0, .string (⟨#[]⟩ : ByteArray)] 23 (0, 0)) (bk_ BK385.out) hb); have n2_ := am_ (below_step (bl_) hb); have n3_ := am_ (hbox); have n4_ := am_ ((by rw [hg]; exact (below_size (bl_)) : w.heap.size ≤ gb386)); have n5_ := am_ ((by rw [hg]; exact (below_size (bl_)) : w.heap.size ≤ gb386)); have n6_ := am_ ((by rw [hg]; exact Nat.ne_of_lt (blk_lt (g := gb376) (o := .cells #[.int .i64 a1_0, .int .i64 a1_1, .string a1_2] 23 (0, 0)) (bk_ BK376.out)) : gb376 ≠ gb386)); have n7_ := am_ ((by rw [hg]; exact Nat.ne_of_gt (blk_lt (g := gb376) (o := .cells #[.int .i64 a1_0, .int .i64 a1_1, .string a1_2] 23 (0, 0)) (bk_ BK376.out)) : gb386 ≠ gb376)); have n8_ := am_ ((by rw [hg]; exact Nat.ne_of_lt (blk_lt (g := gb385) (o := .cells #[.int .i64 0, .int .i64 0, .string (⟨#[]⟩ : ByteArray)] 23 (0, 0)) (bk_ BK385.out)) : gb385 ≠ gb386)); have n9_ := am_ ((by rw [hg]; exact Nat.ne_of_gt (blk_lt (g := gb385) (o := .cells #[.int .i64 0, .int .i64 0, .string (⟨#[]⟩ : ByteArray)] 23 (0, 0)) (bk_ BK385.out)) : gb386 ≠ gb385)); clear BK376; clear BK385; clear HB; have BK376 := n0_; have BK385 := n1_; have HB := n2_; have BK386 := n3_; have GW386 := n4_; have GE386 := n5_; have NB376_386 := n6_; have NB386_376 := n7_; have NB385_386 := n8_; have NB386_385 := n9_; clear n0_ n1_ n2_ n3_ n4_ n5_ n6_ n7_ n8_ n9_; clear hb hbox hg; have hnb9 := NB385_376.out; have hnc9 := NB376_385.out; have hnb10 := NB385_386.out; have hnc10 := NB386_385.out; have hcz11_0 : w8.cell? ⟨gb385, 0, none⟩ = some (.int .i64 0) := (blk_cell BK385.out 0).trans rfl; have hcz11_1 : w8.cell? ⟨gb385, 1, none⟩ = some (.int .i64 0) := (blk_cell BK385.out 1).trans rfl; have hcz11_2 : w8.cell? ⟨gb385, 2, none⟩ = some (.string (⟨#[]⟩ : ByteArray)) := (blk_cell BK385.out 2).trans rfl; have hfz11_0 := blk_frozen BK385.out 0; have hfz11_1 := blk_frozen BK385.out 1; have hfz11_2 := blk_frozen BK385.out 2; have hnb12 := NB386_376.out; have hnc12 := NB376_386.out; have hcz13_0 : w8.cell? ⟨gb386, 0, none⟩ = some (.int .i64 0) := (blk_cell BK386.out 0).trans rfl; have hcz13_1 : w8.cell? ⟨gb386, 1, none⟩ = some (.int .i64 0) := (blk_cell BK386.out 1).trans rfl; have hcz13_2 : w8.cell? ⟨gb386, 2, none⟩ = some (.string (⟨#[]⟩ : ByteArray)) := (blk_cell BK386.out 2).trans rfl; have hfz13_0 := blk_frozen BK386.out 0; have hfz13_1 := blk_frozen BK386.out 1; have hfz13_2 := blk_frozen BK386.out 2; have hcz14_0 : w8.cell? ⟨gb376, 0, none⟩ = some (.int .i64 a1_0) := (blk_cell BK376.out 0).trans rfl; have hcz14_1 : w8.cell? ⟨gb376, 1, none⟩ = some (.int .i64 a1_1) := (blk_cell BK376.out 1).trans rfl; have hcz14_2 : w8.cell? ⟨gb376, 2, none⟩ = some (.string a1_2) := (blk_cell BK376.out 2).trans rfl; have hfz14_0 := blk_frozen BK376.out 0; have hfz14_1 := blk_frozen BK376.out 1; have hfz14_2 := blk_frozen BK376.out 2))
  go_ret
  exact ⟨ew_, bl_⟩
 ·rw [if_neg c4] at H
  have c4b0 : (a1_0 == 0) = false := beq_eq_false_iff_ne.mpr c4
  have c4b1 : (a1_0 != 0) = true := bne_iff_ne.mpr c4
  have HC15 := am_ H
  clear H
  go_enter Tryd.func88, Tryd.ntmps88
  go_upto_region 4 with (first | ((with_reducible refine gate_dst (N := 3) rfl ?_); refine box_event ?hg (N := 3) ?hd (cs := #[.int .i64 a1_0, .int .i64 a1_1, .string a1_2]) (t := 23) ?hr ?_; (case hd => rfl); (case hg => rfl); (case hr => first | (go_simp; done) | (go_simp; rfl)); intro gb376 hg w16 hbox hb; have BK376 := am_ (hbox); have GW376 := am_ ((by rw [hg]; exact (below_size (bl_)) : w.heap.size ≤ gb376)); have GE376 := am_ ((by rw [hg]; exact (below_size (bl_)) : w.heap.size ≤ gb376)); replace HB := am_ (below_step (bl_) hb); clear hb hbox hg) | ((with_reducible refine gate_callee (f := 122) rfl ?_); refine goesL_ (some 11) rfl rfl Tryd.func122 (by kernel_rfl) rfl #[.slice A0 l0.length c0] rfl (by (try simp only [List.map_toArray, List.map_cons, List.map_nil]); first | done | rfl | (simp only [List.length_drop, List.length_take]; rfl)) ?_; (with_reducible refine (trommelref19_Ends.calls k _ _ l0 t377 t378 t379 t380 t381 t382 t383 t384 _ ?side1 ?side2 A3.out).mono ?_); (case side1 => repeat (first | exact (Kd.C_below HR0.out HB.out) | (with_reducible refine Kd.C_alloc ?_ _) | (with_reducible refine Kd.C_drewN ?_ _) | (with_reducible refine Kd.C_drew ?_))); (case side2 => exact HC0.out); rintro e w17 ⟨rfl, hb⟩; refine ⟨_, rfl, ?_⟩; replace BK376 := am_ (blk_below (g := gb376) (o := .cells #[.int .i64 a1_0, .int .i64 a1_1, .string a1_2] 23 (0, 0)) (bk_ BK376.out) hb); replace HB := am_ (below_step (bl_) hb); (try clear hb); (try clear hb2); (try clear hk); (try clear hi)) | ((with_reducible refine gate_dst (N := 5) rfl ?_); refine box_event ?hg (N := 5) ?hd (cs := #[.int .i64 0, .int .i64 0, .string (⟨#[]⟩ : ByteArray)]) (t := 23) ?hr ?_; (case hd => rfl); (case hg => rfl); (case hr => first | (go_simp; done) | (go_simp; rfl)); intro gb385 hg w18 hbox hb; have n0_ := am_ (blk_below (g := gb376) (o := .cells #[.int .i64 a1_0, .int .i64 a1_1, .string a1_2] 23 (0, 0)) (bk_ BK376.out) hb); have n1_ := am_ (below_step (bl_) hb); have n2_ := am_ (hbox); have n3_ := am_ ((by rw [hg]; exact (below_size (bl_)) : w.heap.size ≤ gb385)); have n4_ := am_ ((by rw [hg]; exact (below_size (bl_)) : w.heap.size ≤ gb385)); have n5_ := am_ ((by rw [hg]; exact Nat.ne_of_lt (blk_lt (g := gb376) (o := .cells #[.int .i64 a1_0, .int .i64 a1_1, .string a1_2] 23 (0, 0)) (bk_ BK376.out)) : gb376 ≠ gb385)); have n6_ := am_ ((by rw [hg]; exact Nat.ne_of_gt (blk_lt (g := gb376) (o := .cells #[.int .i64 a1_0, .int .i64 a1_1, .string a1_2] 23 (0, 0)) (bk_ BK376.out)) : gb385 ≠ gb376)); clear BK376; clear HB; have BK376 := n0_; have HB := n1_; have BK385 := n2_; have GW385 := n3_; have GE385 := n4_; have NB376_385 := n5_; have NB385_376 := n6_; clear n0_ n1_ n2_ n3_ n4_ n5_ n6_; clear hb hbox hg) | ((with_reducible refine gate_dst (N := 6) rfl ?_); refine box_event ?hg (N := 6) ?hd (cs := #[.int .i64 0, .int .i64 0, .string (⟨#[]⟩ : ByteArray)]) (t := 23) ?hr ?_; (case hd => rfl); (case hg => rfl); (case hr => first | (go_simp; done) | (go_simp; rfl)); intro gb386 hg w19 hbox hb; have n0_ := am_ (blk_below (g := gb376) (o := .cells #[.int .i64 a1_0, .int .i64 a1_1, .string a1_2] 23 (0, 0)) (bk_ BK376.out) hb); have n1_ := am_ (blk_below (g := gb385) (o := .cells #[.int .i64 0, .int .i64 0, .string (⟨#[]⟩ : ByteArray)] 23 (0, 0)) (bk_ BK385.out) hb); have n2_ := am_ (below_step (bl_) hb); have n3_ := am_ (hbox); have n4_ := am_ ((by rw [hg]; exact (below_size (bl_)) : w.heap.size ≤ gb386)); have n5_ := am_ ((by rw [hg]; exact (below_size (bl_)) : w.heap.size ≤ gb386)); have n6_ := am_ ((by rw [hg]; exact Nat.ne_of_lt (blk_lt (g := gb376) (o := .cells #[.int .i64 a1_0, .int .i64 a1_1, .string a1_2] 23 (0, 0)) (bk_ BK376.out)) : gb376 ≠ gb386)); have n7_ := am_ ((by rw [hg]; exact Nat.ne_of_gt (blk_lt (g := gb376) (o := .cells #[.int .i64 a1_0, .int .i64 a1_1, .string a1_2] 23 (0, 0)) (bk_ BK376.out)) : gb386 ≠ gb376)); have n8_ := am_ ((by rw [hg]; exact Nat.ne_of_lt (blk_lt (g := gb385) (o := .cells #[.int .i64 0, .int .i64 0, .string (⟨#[]⟩ : ByteArray)] 23 (0, 0)) (bk_ BK385.out)) : gb385 ≠ gb386)); have n9_ := am_ ((by rw [hg]; exact Nat.ne_of_gt (blk_lt (g := gb385) (o := .cells #[.int .i64 0, .int .i64 0, .string (⟨#[]⟩ : ByteArray)] 23 (0, 0)) (bk_ BK385.out)) : gb386 ≠ gb385)); clear BK376; clear BK385; clear HB; have BK376 := n0_; have BK385 := n1_; have HB := n2_; have BK386 := n3_; have GW386 := n4_; have GE386 := n5_; have NB376_386 := n6_; have NB386_376 := n7_; have NB385_386 := n8_; have NB386_385 := n9_; clear n0_ n1_ n2_ n3_ n4_ n5_ n6_ n7_ n8_ n9_; clear hb hbox hg; have hnb20 := NB385_376.out; have hnc20 := NB376_385.out; have hnb21 := NB385_386.out; have hnc21 := NB386_385.out; have hcz22_0 : w19.cell? ⟨gb385, 0, none⟩ = some (.int .i64 0) := (blk_cell BK385.out 0).trans rfl; have hcz22_1 : w19.cell? ⟨gb385, 1, none⟩ = some (.int .i64 0) := (blk_cell BK385.out 1).trans rfl; have hcz22_2 : w19.cell? ⟨gb385, 2, none⟩ = some (.string (⟨#[]⟩ : ByteArray)) := (blk_cell BK385.out 2).trans rfl; have hfz22_0 := blk_frozen BK385.out 0; have hfz22_1 := blk_frozen BK385.out 1; have hfz22_2 := blk_frozen BK385.out 2; have hnb23 := NB386_376.out; have hnc23 := NB376_386.out; have hcz24_0 : w19.cell? ⟨gb386, 0, none⟩ = some (.int .i64 0) := (blk_cell BK386.out 0).trans rfl; have hcz24_1 : w19.cell? ⟨gb386, 1, none⟩ = some (.int .i64 0) := (blk_cell BK386.out 1).trans rfl; have hcz24_2 : w19.cell? ⟨gb386, 2, none⟩ = some (.string (⟨#[]⟩ : ByteArray)) := (blk_cell BK386.out 2).trans rfl; have hfz24_0 := blk_frozen BK386.out 0; have hfz24_1 := blk_frozen BK386.out 1; have hfz24_2 := blk_frozen BK386.out 2; have hcz25_0 : w19.cell? ⟨gb376, 0, none⟩ = some (.int .i64 a1_0) := (blk_cell BK376.out 0).trans rfl; have hcz25_1 : w19.cell? ⟨gb376, 1, none⟩ = some (.int .i64 a1_1) := (blk_cell BK376.out 1).trans rfl; have hcz25_2 : w19.cell? ⟨gb376, 2, none⟩ = some (.string a1_2) := (blk_cell BK376.out 2).trans rfl; have hfz25_0 := blk_frozen BK376.out 0; have hfz25_1 := blk_frozen BK376.out 1; have hfz25_2 := blk_frozen BK376.out 2))
  (try simp only [Act.put, List.setIfInBounds_toArray, List.set_cons_zero, List.set_cons_succ])
  go_cut [4] (fun v4 wc => ∃ (kq : Nat) (x4_14 : Bool), v4 = .bool x4_14 ∧ Aside0 (trommelref19_Has.j0 kq x4_14 = some r) ∧ Aside0 (kq ≤ k) ∧ Aside0 (wc.heap[gb376]? = some (.cells #[.int .i64 a1_0, .int .i64 a1_1, .string a1_2] 23 (0, 0))) ∧ Aside0 (wc.heap[gb385]? = some (.cells #[.int .i64 t377, .int .i64 t378, .string t379] 23 (0, 0))) ∧ Aside0 (wc.heap[gb386]? = some (.cells #[.int .i64 t380, .int .i64 t381, .string t382] 23 (0, 0))) ∧ Aside0 (Below w.heap.size w wc))
  case first =>
   have H := HC15.out
   clear HC15
   by_cases c26 : t383 = true
   ·subst c26
    have H1 : ((trommelref01_Order.f k t377 t378 t379 a1_0 a1_1 a1_2).bind fun t387 => (if t387 ≤ 0 then ((trommelref01_Order.f k a1_0 a1_1 a1_2 t380 t381 t382).bind fun t388 => (trommelref19_Has.j0 k (decide (t388 ≤ 0)))) else (trommelref19_Has.j0 k false))) = some r := by rw [if_pos rfl] at H; exact H
    clear H
    have H := H1
    clear H1
    replace H := Option.bind_eq_some_iff.mp H
    obtain ⟨t387, A270, H⟩ := H
    replace H : (if t387 ≤ 0 then ((trommelref01_Order.f k a1_0 a1_1 a1_2 t380 t381 t382).bind fun t388 => (trommelref19_Has.j0 k (decide (t388 ≤ 0)))) else (trommelref19_Has.j0 k false)) = some r := H
    have A27 := am_ A270
    clear A270
    by_cases c28 : t387 ≤ 0
    ·rw [if_pos c28] at H
     have c28b0 : decide (t387 ≤ 0) = true := decide_eq_true c28
     clear c28
     (first | rw [c28b0] | (simp only [i64_w, i32_w]; rw [c28b0]) | skip)
     replace H := Option.bind_eq_some_iff.mp H
     obtain ⟨t388, A290, H⟩ := H
     replace H : (trommelref19_Has.j0 k (decide (t388 ≤ 0))) = some r := H
     have A29 := am_ A290
     clear A290
     have H' := am_ H
     clear H
     have hnb30 := NB385_376.out
     have hnc30 := NB376_385.out
     have hnb31 := NB385_386.out
     have hnc31 := NB386_385.out
     have hcz32_0 : w19.cell? ⟨gb385, 0, none⟩ = some (.int .i64 0) := (blk_cell BK385.out 0).trans rfl
     have hcz32_1 : w19.cell? ⟨gb385, 1, none⟩ = some (.int .i64 0) := (blk_cell BK385.out 1).trans rfl
     have hcz32_2 : w19.cell? ⟨gb385, 2, none⟩ = some (.string (⟨#[]⟩ : ByteArray)) := (blk_cell BK385.out 2).trans rfl
     have hfz32_0 := blk_frozen BK385.out 0
     have hfz32_1 := blk_frozen BK385.out 1
     have hfz32_2 := blk_frozen BK385.out 2
     have hnb33 := NB376_386.out
     have hnc33 := NB386_376.out
     have hcz34_0 : w19.cell? ⟨gb376, 0, none⟩ = some (.int .i64 a1_0) := (blk_cell BK376.out 0).trans rfl
     have hcz34_1 : w19.cell? ⟨gb376, 1, none⟩ = some (.int .i64 a1_1) := (blk_cell BK376.out 1).trans rfl
     have hcz34_2 : w19.cell? ⟨gb376, 2, none⟩ = some (.string a1_2) := (blk_cell BK376.out 2).trans rfl
     have hfz34_0 := blk_frozen BK376.out 0
     have hfz34_1 := blk_frozen BK376.out 1
     have hfz34_2 := blk_frozen BK376.out 2
     go_wp2_with (first | (go_at_call 123; (with_reducible refine (trommelref01_Order.calls k t377 t378 t379 a1_0 a1_1 a1_2 t387 _ A27.out).mono ?_); rintro e w35 ⟨rfl, hb⟩; replace BK376 := am_ (blk_below (g := gb376) (o := .cells #[.int .i64 a1_0, .int .i64 a1_1, .string a1_2] 23 (0, 0)) (by refine bp_ ?_; refine blk_far ?_ NB376_386.out _; refine bp_ ?_; refine blk_far ?_ NB376_386.out _; refine bp_ ?_; refine blk_far ?_ NB376_386.out _; refine bp_ ?_; refine blk_far ?_ NB376_385.out _; refine bp_ ?_; refine blk_far ?_ NB376_385.out _; refine bp_ ?_; refine blk_far ?_ NB376_385.out _; refine bp_ ?_; exact BK376.out) hb); replace BK385 := am_ (blk_below (g := gb385) (o := .cells #[.int .i64 t377, .int .i64 t378, .string t379] 23 (0, 0)) (by refine bp_ ?_; refine blk_far ?_ NB385_386.out _; refine bp_ ?_; refine blk_far ?_ NB385_386.out _; refine bp_ ?_; refine blk_far ?_ NB385_386.out _; refine bp_ ?_; refine blk_put (cs := #[.int .i64 t377, .int .i64 t378, .string (⟨#[]⟩ : ByteArray)]) ?_ 2 _ rfl; refine bp_ ?_; refine blk_put (cs := #[.int .i64 t377, .int .i64 0, .string (⟨#[]⟩ : ByteArray)]) ?_ 1 _ rfl; refine bp_ ?_; refine blk_put (cs := #[.int .i64 0, .int .i64 0, .string (⟨#[]⟩ : ByteArray)]) ?_ 0 _ rfl; refine bp_ ?_; exact BK385.out) hb); replace BK386 := am_ (blk_below (g := gb386) (o := .cells #[.int .i64 t380, .int .i64 t381, .string t382] 23 (0, 0)) (by refine bp_ ?_; refine blk_put (cs := #[.int .i64 t380, .int .i64 t381, .string (⟨#[]⟩ : ByteArray)]) ?_ 2 _ rfl; refine bp_ ?_; refine blk_put (cs := #[.int .i64 t380, .int .i64 0, .string (⟨#[]⟩ : ByteArray)]) ?_ 1 _ rfl; refine bp_ ?_; refine blk_put (cs := #[.int .i64 0, .int .i64 0, .string (⟨#[]⟩ : ByteArray)]) ?_ 0 _ rfl; refine bp_ ?_; refine blk_far ?_ NB386_385.out _; refine bp_ ?_; refine blk_far ?_ NB386_385.out _; refine bp_ ?_; refine blk_far ?_ NB386_385.out _; refine bp_ ?_; exact BK386.out) hb); replace HB := am_ (below_step (bl_) hb); (try clear hb); (try clear hb2); (try clear hk); (try clear hi); have hcz36_0 : w35.cell? ⟨gb376, 0, none⟩ = some (.int .i64 a1_0) := (blk_cell BK376.out 0).trans rfl; have hcz36_1 : w35.cell? ⟨gb376, 1, none⟩ = some (.int .i64 a1_1) := (blk_cell BK376.out 1).trans rfl; have hcz36_2 : w35.cell? ⟨gb376, 2, none⟩ = some (.string a1_2) := (blk_cell BK376.out 2).trans rfl; have hfz36_0 := blk_frozen BK376.out 0; have hfz36_1 := blk_frozen BK376.out 1; have hfz36_2 := blk_frozen BK376.out 2; have hcz37_0 : w35.cell? ⟨gb386, 0, none⟩ = some (.int .i64 t380) := (blk_cell BK386.out 0).trans rfl; have hcz37_1 : w35.cell? ⟨gb386, 1, none⟩ = some (.int .i64 t381) := (blk_cell BK386.out 1).trans rfl; have hcz37_2 : w35.cell? ⟨gb386, 2, none⟩ = some (.string t382) := (blk_cell BK386.out 2).trans rfl; have hfz37_0 := blk_frozen BK386.out 0; have hfz37_1 := blk_frozen BK386.out 1; have hfz37_2 := blk_frozen BK386.out 2; (try clear A27)) | (go_at_call 123; (with_reducible refine (trommelref01_Order.calls k a1_0 a1_1 a1_2 t380 t381 t382 t388 _ A29.out).mono ?_); rintro e w38 ⟨rfl, hb⟩; replace BK376 := am_ (blk_below (g := gb376) (o := .cells #[.int .i64 a1_0, .int .i64 a1_1, .string a1_2] 23 (0, 0)) (bk_ BK376.out) hb); replace BK385 := am_ (blk_below (g := gb385) (o := .cells #[.int .i64 t377, .int .i64 t378, .string t379] 23 (0, 0)) (bk_ BK385.out) hb); replace BK386 := am_ (blk_below (g := gb386) (o := .cells #[.int .i64 t380, .int .i64 t381, .string t382] 23 (0, 0)) (bk_ BK386.out) hb); replace HB := am_ (below_step (bl_) hb); (try clear hb); (try clear hb2); (try clear hk); (try clear hi); (try clear A29)))
     go_meet
     case rel => exact ⟨_, (decide (t388 ≤ 0)), (rs_), H', ⟨by first | omega | exact Nat.le_refl _⟩, ⟨bk_ BK376.out⟩, ⟨bk_ BK385.out⟩, ⟨bk_ BK386.out⟩, ⟨bl_⟩⟩
    ·rw [if_neg c28] at H
     have c28b0 : decide (t387 ≤ 0) = false := decide_eq_false c28
     clear c28
     (first | rw [c28b0] | (simp only [i64_w, i32_w]; rw [c28b0]) | skip)
     have H' := am_ H
     clear H
     have hnb39 := NB385_376.out
     have hnc39 := NB376_385.out
     have hnb40 := NB385_386.out
     have hnc40 := NB386_385.out
     have hcz41_0 : w19.cell? ⟨gb385, 0, none⟩ = some (.int .i64 0) := (blk_cell BK385.out 0).trans rfl
     have hcz41_1 : w19.cell? ⟨gb385, 1, none⟩ = some (.int .i64 0) := (blk_cell BK385.out 1).trans rfl
     have hcz41_2 : w19.cell? ⟨gb385, 2, none⟩ = some (.string (⟨#[]⟩ : ByteArray)) := (blk_cell BK385.out 2).trans rfl
     have hfz41_0 := blk_frozen BK385.out 0
     have hfz41_1 := blk_frozen BK385.out 1
     have hfz41_2 := blk_frozen BK385.out 2
     have hnb42 := NB376_386.out
     have hnc42 := NB386_376.out
     have hcz43_0 : w19.cell? ⟨gb376, 0, none⟩ = some (.int .i64 a1_0) := (blk_cell BK376.out 0).trans rfl
     have hcz43_1 : w19.cell? ⟨gb376, 1, none⟩ = some (.int .i64 a1_1) := (blk_cell BK376.out 1).trans rfl
     have hcz43_2 : w19.cell? ⟨gb376, 2, none⟩ = some (.string a1_2) := (blk_cell BK376.out 2).trans rfl
     have hfz43_0 := blk_frozen BK376.out 0
     have hfz43_1 := blk_frozen BK376.out 1
     have hfz43_2 := blk_frozen BK376.out 2
     go_wp2_with (first | (go_at_call 123; (with_reducible refine (trommelref01_Order.calls k t377 t378 t379 a1_0 a1_1 a1_2 t387 _ A27.out).mono ?_); rintro e w44 ⟨rfl, hb⟩; replace BK376 := am_ (blk_below (g := gb376) (o := .cells #[.int .i64 a1_0, .int .i64 a1_1, .string a1_2] 23 (0, 0)) (by refine bp_ ?_; refine blk_far ?_ NB376_386.out _; refine bp_ ?_; refine blk_far ?_ NB376_386.out _; refine bp_ ?_; refine blk_far ?_ NB376_386.out _; refine bp_ ?_; refine blk_far ?_ NB376_385.out _; refine bp_ ?_; refine blk_far ?_ NB376_385.out _; refine bp_ ?_; refine blk_far ?_ NB376_385.out _; refine bp_ ?_; exact BK376.out) hb); replace BK385 := am_ (blk_below (g := gb385) (o := .cells #[.int .i64 t377, .int .i64 t378, .string t379] 23 (0, 0)) (by refine bp_ ?_; refine blk_far ?_ NB385_386.out _; refine bp_ ?_; refine blk_far ?_ NB385_386.out _; refine bp_ ?_; refine blk_far ?_ NB385_386.out _; refine bp_ ?_; refine blk_put (cs := #[.int .i64 t377, .int .i64 t378, .string (⟨#[]⟩ : ByteArray)]) ?_ 2 _ rfl; refine bp_ ?_; refine blk_put (cs := #[.int .i64 t377, .int .i64 0, .string (⟨#[]⟩ : ByteArray)]) ?_ 1 _ rfl; refine bp_ ?_; refine blk_put (cs := #[.int .i64 0, .int .i64 0, .string (⟨#[]⟩ : ByteArray)]) ?_ 0 _ rfl; refine bp_ ?_; exact BK385.out) hb); replace BK386 := am_ (blk_below (g := gb386) (o := .cells #[.int .i64 t380, .int .i64 t381, .string t382] 23 (0, 0)) (by refine bp_ ?_; refine blk_put (cs := #[.int .i64 t380, .int .i64 t381, .string (⟨#[]⟩ : ByteArray)]) ?_ 2 _ rfl; refine bp_ ?_; refine blk_put (cs := #[.int .i64 t380, .int .i64 0, .string (⟨#[]⟩ : ByteArray)]) ?_ 1 _ rfl; refine bp_ ?_; refine blk_put (cs := #[.int .i64 0, .int .i64 0, .string (⟨#[]⟩ : ByteArray)]) ?_ 0 _ rfl; refine bp_ ?_; refine blk_far ?_ NB386_385.out _; refine bp_ ?_; refine blk_far ?_ NB386_385.out _; refine bp_ ?_; refine blk_far ?_ NB386_385.out _; refine bp_ ?_; exact BK386.out) hb); replace HB := am_ (below_step (bl_) hb); (try clear hb); (try clear hb2); (try clear hk); (try clear hi)))
     go_meet
     case rel => exact ⟨_, (false), (rs_), H', ⟨by first | omega | exact Nat.le_refl _⟩, ⟨bk_ BK376.out⟩, ⟨bk_ BK385.out⟩, ⟨bk_ BK386.out⟩, ⟨bl_⟩⟩
   ·replace c26 := Bool.eq_false_iff.mpr c26
    subst c26
    have H1 : (trommelref19_Has.j0 k false) = some r := by rw [if_neg (show ¬ (false = true) by decide)] at H; exact H
    clear H
    have H := H1
    clear H1
    have H' := am_ H
    clear H
    go_wp2
    go_meet
    case rel => exact ⟨_, (false), (rs_), H', ⟨by first | omega | exact Nat.le_refl _⟩, ⟨by refine bp_ ?_; refine blk_far ?_ NB376_386.out _; refine bp_ ?_; refine blk_far ?_ NB376_386.out _; refine bp_ ?_; refine blk_far ?_ NB376_386.out _; refine bp_ ?_; refine blk_far ?_ NB376_385.out _; refine bp_ ?_; refine blk_far ?_ NB376_385.out _; refine bp_ ?_; refine blk_far ?_ NB376_385.out _; refine bp_ ?_; exact BK376.out⟩, ⟨by refine bp_ ?_; refine blk_far ?_ NB385_386.out _; refine bp_ ?_; refine blk_far ?_ NB385_386.out _; refine bp_ ?_; refine blk_far ?_ NB385_386.out _; refine bp_ ?_; refine blk_put (cs := #[.int .i64 t377, .int .i64 t378, .string (⟨#[]⟩ : ByteArray)]) ?_ 2 _ rfl; refine bp_ ?_; refine blk_put (cs := #[.int .i64 t377, .int .i64 0, .string (⟨#[]⟩ : ByteArray)]) ?_ 1 _ rfl; refine bp_ ?_; refine blk_put (cs := #[.int .i64 0, .int .i64 0, .string (⟨#[]⟩ : ByteArray)]) ?_ 0 _ rfl; refine bp_ ?_; exact BK385.out⟩, ⟨by refine bp_ ?_; refine blk_put (cs := #[.int .i64 t380, .int .i64 t381, .string (⟨#[]⟩ : ByteArray)]) ?_ 2 _ rfl; refine bp_ ?_; refine blk_put (cs := #[.int .i64 t380, .int .i64 0, .string (⟨#[]⟩ : ByteArray)]) ?_ 1 _ rfl; refine bp_ ?_; refine blk_put (cs := #[.int .i64 0, .int .i64 0, .string (⟨#[]⟩ : ByteArray)]) ?_ 0 _ rfl; refine bp_ ?_; refine blk_far ?_ NB386_385.out _; refine bp_ ?_; refine blk_far ?_ NB386_385.out _; refine bp_ ?_; refine blk_far ?_ NB386_385.out _; refine bp_ ?_; exact BK386.out⟩, ⟨bl_⟩⟩
  case rest =>
   clear HC15
   try clear c1
   try clear c2
   try clear p2
   try clear c3
   try clear c4
   try clear c4b0
   try clear c4b1
   try clear c8
   try clear c9
   try clear c10
   try clear c12
   try clear c20
   try clear c21
   try clear c23
   try clear c26
   try clear c28
   try clear c28b0
   try clear c30
   try clear c31
   try clear c33
   try clear c39
   try clear c40
   try clear c42
   try clear hcz11_0
   try clear hcz11_1
   try clear hcz11_2
   try clear hcz13_0
   try clear hcz13_1
   try clear hcz13_2
   try clear hcz14_0
   try clear hcz14_1
   try clear hcz14_2
   try clear hcz22_0
   try clear hcz22_1
   try clear hcz22_2
   try clear hcz24_0
   try clear hcz24_1
   try clear hcz24_2
   try clear hcz25_0
   try clear hcz25_1
   try clear hcz25_2
   try clear hcz32_0
   try clear hcz32_1
   try clear hcz32_2
   try clear hcz34_0
   try clear hcz34_1
   try clear hcz34_2
   try clear hcz36_0
   try clear hcz36_1
   try clear hcz36_2
   try clear hcz37_0
   try clear hcz37_1
   try clear hcz37_2
   try clear hcz41_0
   try clear hcz41_1
   try clear hcz41_2
   try clear hcz43_0
   try clear hcz43_1
   try clear hcz43_2
   try clear hfz11_0
   try clear hfz11_1
   try clear hfz11_2
   try clear hfz13_0
   try clear hfz13_1
   try clear hfz13_2
   try clear hfz14_0
   try clear hfz14_1
   try clear hfz14_2
   try clear hfz22_0
   try clear hfz22_1
   try clear hfz22_2
   try clear hfz24_0
   try clear hfz24_1
   try clear hfz24_2
   try clear hfz25_0
   try clear hfz25_1
   try clear hfz25_2
   try clear hfz32_0
   try clear hfz32_1
   try clear hfz32_2
   try clear hfz34_0
   try clear hfz34_1
   try clear hfz34_2
   try clear hfz36_0
   try clear hfz36_1
   try clear hfz36_2
   try clear hfz37_0
   try clear hfz37_1
   try clear hfz37_2
   try clear hfz41_0
   try clear hfz41_1
   try clear hfz41_2
   try clear hfz43_0
   try clear hfz43_1
   try clear hfz43_2
   obtain ⟨kq, x4_14, rfl, HA, HJ14, BK376, BK385, BK386, HB⟩ := hcut
   cases kq with
   | zero => exact absurd HA.out (by simp [trommelref19_Has.j0])
   | succ kj14 =>
    have H := HA.out
    clear HA
    simp only [trommelref19_Has.j0] at H
    obtain rfl := Option.some.inj H
    go_wp2
    go_ret
    exact ⟨ew_, bl_⟩

def trommelref18_Has.l0 : Nat → List Int → Int → List Bool → Int → Option (Bool)
 | 0, _, _, _, _ => none
 | k + 1, x5, x6, x390000, x390001 => if x6 < (x5.length : Int) then (if 0 ≤ x6 then (if 0 ≤ (rd x5 x6) then (if (rd x5 x6) < (x390000.length : Int) then (if (rdOf false x390000 (rd x5 x6) = true) then (trommelref18_Has.l0 k x5 (wrap64 (x6 + 1)) x390000 x390001) else (some false)) else (none)) else (none)) else (none)) else (some true)
def trommelref18_Has.f (k : Nat) (l0_0 : List Bool) (a0_1 : Int) (a1 : Int) : Option (Bool) := (trommelref18_places.f k l0_0 a0_1 a1).bind fun t390 => (trommelref18_Has.l0 k t390 0 l0_0 a0_1)
theorem trommelref18_Has.mono_l : ∀ k, (∀ y0 y1 y2 y3, LeO (trommelref18_Has.l0 k y0 y1 y2 y3) (trommelref18_Has.l0 (k + 1) y0 y1 y2 y3))
 | 0 => fun _ _ _ _ r h => by simp [trommelref18_Has.l0] at h
 | k + 1 => by
  have ih0 := trommelref18_Has.mono_l k
  ·intro y0 y1 y2 y3
   unfold trommelref18_Has.l0
   repeat' first
   | (with_reducible exact ih0 _ _ _ _)
   | (with_reducible exact trommelref18_places.mono _ _ _ _)
   | (with_reducible exact LeO.refl _)
   | (with_reducible exact LeO.none _)
   | (with_reducible refine LeO.ite ?_ ?_)
   | (with_reducible refine LeO.bind ?_ (fun _ => ?_))
   | exact ih0 _ _ _ _
   | exact trommelref18_places.mono _ _ _ _
   | exact LeO.none _
   | refine LeO.ite ?_ ?_
   | refine LeO.bind ?_ (fun _ => ?_)
theorem trommelref18_Has.mono : ∀ a0 a1 a2 k, LeO (trommelref18_Has.f k a0 a1 a2) (trommelref18_Has.f (k + 1) a0 a1 a2) := by
 intro a0 a1 a2 k
 have ih0 := trommelref18_Has.mono_l k
 unfold trommelref18_Has.f
 repeat' first
   | (with_reducible exact ih0 _ _ _ _)
   | (with_reducible exact trommelref18_places.mono _ _ _ _)
   | (with_reducible exact LeO.refl _)
   | (with_reducible exact LeO.none _)
   | (with_reducible refine LeO.ite ?_ ?_)
   | (with_reducible refine LeO.bind ?_ (fun _ => ?_))
   | exact ih0 _ _ _ _
   | exact trommelref18_places.mono _ _ _ _
   | exact LeO.none _
   | refine LeO.ite ?_ ?_
   | refine LeO.bind ?_ (fun _ => ?_)
set_option maxHeartbeats 8000000 in
set_option maxRecDepth 100000 in
theorem trommelref18_Has.calls (k : Nat) (A0_0 : Option Addr) (c0_0 : Nat) (l0_0 : List Bool) (a0_1 : Int) (a1 : Int) (r : Bool) (w : World) (hr0_0 : Kd.C Kd.bool w A0_0 l0_0.length l0_0) (hc0_0 : l0_0.length ≤ c0_0) (h : trommelref18_Has.f k l0_0 a0_1 a1 = some r) :
  Calls Tryd.prog 89 #[.agg #[.slice A0_0 l0_0.length c0_0, .int .i64 a0_1], .int .u64 a1] w fun e w' => e = .returned (.bool r) ∧ Below w.heap.size w w' := by
 have hu79 := Tryd.underlying79
 have HR0_0 := am_ hr0_0
 have HC0_0 := am_ hc0_0
 clear hr0_0 hc0_0
 have HB := am_ (Below.refl w.heap.size w)
 have H : ((trommelref18_places.f k l0_0 a0_1 a1).bind fun t390 => (trommelref18_Has.l0 k t390 0 l0_0 a0_1)) = some r := h
 clear h
 replace H := Option.bind_eq_some_iff.mp H
 obtain ⟨t390, A30, H⟩ := H
 replace H : (trommelref18_Has.l0 k t390 0 l0_0 a0_1) = some r := H
 have A3 := am_ A30
 clear A30
 have H' := am_ H
 clear H
 go_enter Tryd.func89, Tryd.ntmps89
 go_wp2_with (first | ((with_reducible refine gate_dst (N := 2) rfl ?_); refine box_event ?hg (N := 2) ?hd (cs := #[.slice A0_0 l0_0.length c0_0, .int .i64 a0_1]) (t := 79) ?hr ?_; (case hd => rfl); (case hg => rfl); (case hr => first | (go_simp; done) | (go_simp; rfl)); intro gb389 hg w4 hbox hb; have BK389 := am_ (hbox); have GW389 := am_ ((by rw [hg]; exact (below_size (bl_)) : w.heap.size ≤ gb389)); have GE389 := am_ ((by rw [hg]; exact (below_size (bl_)) : w.heap.size ≤ gb389)); replace HB := am_ (below_step (bl_) hb); clear hb hbox hg; have hcz5_0 : w4.cell? ⟨gb389, 0, none⟩ = some (.slice A0_0 l0_0.length c0_0) := (blk_cell BK389.out 0).trans rfl; have hcz5_1 : w4.cell? ⟨gb389, 1, none⟩ = some (.int .i64 a0_1) := (blk_cell BK389.out 1).trans rfl; have hfz5_0 := blk_frozen BK389.out 0; have hfz5_1 := blk_frozen BK389.out 1) | (go_at_call 121; (with_reducible refine (trommelref18_places.calls k _ _ l0_0 a0_1 a1 t390 _ ?side1 ?side2 A3.out).mono ?_); (case side1 => repeat (first | exact (Kd.C_below HR0_0.out HB.out) | (with_reducible refine Kd.C_alloc ?_ _) | (with_reducible refine Kd.C_drewN ?_ _) | (with_reducible refine Kd.C_drew ?_))); (case side2 => exact HC0_0.out); rintro e w6 ⟨v391, rfl, ho0, hb⟩; have HO392 := am_ (Kd.R_lower ho0 (below_size (bl_))); replace BK389 := am_ (blk_below (g := gb389) (o := .cells #[.slice A0_0 l0_0.length c0_0, .int .i64 a0_1] 79 (0, 0)) (bk_ BK389.out) hb); replace HB := am_ (below_step (bl_) hb); (try clear hb); (try clear hb2); (try clear hk); (try clear hi); (try clear ho0)))
 repeat (go_quiet (first | ((with_reducible refine gate_dst (N := 2) rfl ?_); refine box_event ?hg (N := 2) ?hd (cs := #[.slice A0_0 l0_0.length c0_0, .int .i64 a0_1]) (t := 79) ?hr ?_; (case hd => rfl); (case hg => rfl); (case hr => first | (go_simp; done) | (go_simp; rfl)); intro gb389 hg w4 hbox hb; have BK389 := am_ (hbox); have GW389 := am_ ((by rw [hg]; exact (below_size (bl_)) : w.heap.size ≤ gb389)); have GE389 := am_ ((by rw [hg]; exact (below_size (bl_)) : w.heap.size ≤ gb389)); replace HB := am_ (below_step (bl_) hb); clear hb hbox hg; have hcz5_0 : w4.cell? ⟨gb389, 0, none⟩ = some (.slice A0_0 l0_0.length c0_0) := (blk_cell BK389.out 0).trans rfl; have hcz5_1 : w4.cell? ⟨gb389, 1, none⟩ = some (.int .i64 a0_1) := (blk_cell BK389.out 1).trans rfl; have hfz5_0 := blk_frozen BK389.out 0; have hfz5_1 := blk_frozen BK389.out 1) | (go_at_call 121; (with_reducible refine (trommelref18_places.calls k _ _ l0_0 a0_1 a1 t390 _ ?side1 ?side2 A3.out).mono ?_); (case side1 => repeat (first | exact (Kd.C_below HR0_0.out HB.out) | (with_reducible refine Kd.C_alloc ?_ _) | (with_reducible refine Kd.C_drewN ?_ _) | (with_reducible refine Kd.C_drew ?_))); (case side2 => exact HC0_0.out); rintro e w6 ⟨v391, rfl, ho0, hb⟩; have HO392 := am_ (Kd.R_lower ho0 (below_size (bl_))); replace BK389 := am_ (blk_below (g := gb389) (o := .cells #[.slice A0_0 l0_0.length c0_0, .int .i64 a0_1] 79 (0, 0)) (bk_ BK389.out) hb); replace HB := am_ (below_step (bl_) hb); (try clear hb); (try clear hb2); (try clear hk); (try clear hi); (try clear ho0))); try go_wp2_with (first | ((with_reducible refine gate_dst (N := 2) rfl ?_); refine box_event ?hg (N := 2) ?hd (cs := #[.slice A0_0 l0_0.length c0_0, .int .i64 a0_1]) (t := 79) ?hr ?_; (case hd => rfl); (case hg => rfl); (case hr => first | (go_simp; done) | (go_simp; rfl)); intro gb389 hg w4 hbox hb; have BK389 := am_ (hbox); have GW389 := am_ ((by rw [hg]; exact (below_size (bl_)) : w.heap.size ≤ gb389)); have GE389 := am_ ((by rw [hg]; exact (below_size (bl_)) : w.heap.size ≤ gb389)); replace HB := am_ (below_step (bl_) hb); clear hb hbox hg; have hcz5_0 : w4.cell? ⟨gb389, 0, none⟩ = some (.slice A0_0 l0_0.length c0_0) := (blk_cell BK389.out 0).trans rfl; have hcz5_1 : w4.cell? ⟨gb389, 1, none⟩ = some (.int .i64 a0_1) := (blk_cell BK389.out 1).trans rfl; have hfz5_0 := blk_frozen BK389.out 0; have hfz5_1 := blk_frozen BK389.out 1) | (go_at_call 121; (with_reducible refine (trommelref18_places.calls k _ _ l0_0 a0_1 a1 t390 _ ?side1 ?side2 A3.out).mono ?_); (case side1 => repeat (first | exact (Kd.C_below HR0_0.out HB.out) | (with_reducible refine Kd.C_alloc ?_ _) | (with_reducible refine Kd.C_drewN ?_ _) | (with_reducible refine Kd.C_drew ?_))); (case side2 => exact HC0_0.out); rintro e w6 ⟨v391, rfl, ho0, hb⟩; have HO392 := am_ (Kd.R_lower ho0 (below_size (bl_))); replace BK389 := am_ (blk_below (g := gb389) (o := .cells #[.slice A0_0 l0_0.length c0_0, .int .i64 a0_1] 79 (0, 0)) (bk_ BK389.out) hb); replace HB := am_ (below_step (bl_) hb); (try clear hb); (try clear hb2); (try clear hk); (try clear hi); (try clear ho0))))
 go_loopg [6] k (fun kq v6 w' => ∃ (x6_1 : Int), v6 = .int .i64 x6_1 ∧ Aside0 (trommelref18_Has.l0 kq t390 x6_1 l0_0 a0_1 = some r) ∧ Aside0 (kq ≤ k) ∧ Aside0 (Kd.R (Kd.int .i64) 3 w' w.heap.size (fun _ => True) v391 t390) ∧ Aside0 (w'.heap[gb389]? = some (.cells #[(.slice A0_0 l0_0.length c0_0), .int .i64 a0_1] 79 (0, 0))) ∧ Aside0 (Below w.heap.size w w'))
 case atStart => exact ⟨(0), (rs_), H', ⟨Nat.le_refl _⟩, ⟨kr_ HO392.out⟩, ⟨bk_ BK389.out⟩, ⟨bl_⟩⟩
 case round =>
  clear H'
  try clear p2
  try clear hcz5_0
  try clear hcz5_1
  try clear hfz5_0
  try clear hfz5_1
  obtain ⟨x6_1, rfl, HA, HK1, HO_5, BK389, HB⟩ := hrel
  cases gk with
  | zero => exact absurd HA.out (by simp [trommelref18_Has.l0])
  | succ k1 =>
   have H := HA.out
   clear HA
   simp only [trommelref18_Has.l0] at H
   by_cases c7 : x6_1 < (t390.length : Int)
   ·rw [if_pos c7] at H
    have c7b0 : decide (x6_1 < (t390.length : Int)) = true := decide_eq_true c7
    clear c7
    by_cases c8 : 0 ≤ x6_1
    ·rw [if_pos c8] at H
     have c8b0 : decide (0 ≤ x6_1) = true := decide_eq_true c8
     clear c8
     by_cases c9 : 0 ≤ (rd t390 x6_1)
     ·rw [if_pos c9] at H
      have c9b0 : decide (0 ≤ (rd t390 x6_1)) = true := decide_eq_true c9
      clear c9
      by_cases c10 : (rd t390 x6_1) < (l0_0.length : Int)
      ·rw [if_pos c10] at H
       have c10b0 : decide ((rd t390 x6_1) < (l0_0.length : Int)) = true := decide_eq_true c10
       clear c10
       obtain ⟨bq11, hbq11⟩ : ∃ b_ : Bool, b_ = (rdOf false l0_0 (rd t390 x6_1)) := ⟨_, rfl⟩
       replace H : (if (bq11 = true) then (trommelref18_Has.l0 k1 t390 (wrap64 (x6_1 + 1)) l0_0 a0_1) else (some false)) = some r := by rw [← hbq11] at H; exact H
       have Nbq11 := am_ hbq11
       clear hbq11
       by_cases c12 : (bq11 = true)
       ·subst c12
        have H1 : (trommelref18_Has.l0 k1 t390 (wrap64 (x6_1 + 1)) l0_0 a0_1) = some r := by rw [if_pos rfl] at H; exact H
        clear H
        have H := H1
        clear H1
        have H' := am_ H
        clear H
        obtain ⟨Ao13, co13, eo13⟩ := Kd.R_slice HO_5.out
        subst eo13
        have hcz14_0 : wr.cell? ⟨gb389, 0, none⟩ = some (.slice A0_0 l0_0.length c0_0) := (blk_cell BK389.out 0).trans rfl
        have hcz14_1 : wr.cell? ⟨gb389, 1, none⟩ = some (.int .i64 a0_1) := (blk_cell BK389.out 1).trans rfl
        have hfz14_0 := blk_frozen BK389.out 0
        have hfz14_1 := blk_frozen BK389.out 1
        have p393 : 0 ≤ (x6_1 : Int) := of_decide_eq_true (as_)
        have q393 : x6_1 < (t390.length : Int) := of_decide_eq_true (as_)
        obtain ⟨ad393, e393, hx393_0⟩ := Kd.at_int (Kd.R_reads' HO_5.out).2.2 x6_1 p393 q393
        cases e393
        replace p393 := eq_true p393
        replace q393 := eq_true q393
        have p394 : 0 ≤ ((rd t390 x6_1) : Int) := of_decide_eq_true (as_)
        have q394 : (rd t390 x6_1) < (l0_0.length : Int) := of_decide_eq_true (as_)
        obtain ⟨ad394, e394, hx394_0⟩ := Kd.at_bool HR0_0.out (rd t390 x6_1) p394 q394
        (try rw [← Nbq11.out] at hx394_0)
        cases e394
        replace hx394_0 := (HB.out.cell (World.block_lt_of_cell? w _ hx394_0)).trans hx394_0
        replace p394 := eq_true p394
        replace q394 := eq_true q394
        go_wp2
        repeat (go_quiet (fail); try go_wp2)
        go_roundg k1
        case measure => have := HK1.out; omega
        case rel => exact ⟨(wrap64 (x6_1 + 1)), (rs_), H', ⟨by have := HK1.out; omega⟩, ⟨kr_ HO_5.out⟩, ⟨bk_ BK389.out⟩, ⟨bl_⟩⟩
       ·replace c12 := Bool.eq_false_iff.mpr c12
        subst c12
        have H1 : (some false) = some r := by rw [if_neg (show ¬ (false = true) by decide)] at H; exact H
        clear H
        have H := H1
        clear H1
        obtain rfl := Option.some.inj H
        obtain ⟨Ao15, co15, eo15⟩ := Kd.R_slice HO_5.out
        subst eo15
        have hcz16_0 : wr.cell? ⟨gb389, 0, none⟩ = some (.slice A0_0 l0_0.length c0_0) := (blk_cell BK389.out 0).trans rfl
        have hcz16_1 : wr.cell? ⟨gb389, 1, none⟩ = some (.int .i64 a0_1) := (blk_cell BK389.out 1).trans rfl
        have hfz16_0 := blk_frozen BK389.out 0
        have hfz16_1 := blk_frozen BK389.out 1
        have p393 : 0 ≤ (x6_1 : Int) := of_decide_eq_true (as_)
        have q393 : x6_1 < (t390.length : Int) := of_decide_eq_true (as_)
        obtain ⟨ad393, e393, hx393_0⟩ := Kd.at_int (Kd.R_reads' HO_5.out).2.2 x6_1 p393 q393
        cases e393
        replace p393 := eq_true p393
        replace q393 := eq_true q393
        have p394 : 0 ≤ ((rd t390 x6_1) : Int) := of_decide_eq_true (as_)
        have q394 : (rd t390 x6_1) < (l0_0.length : Int) := of_decide_eq_true (as_)
        obtain ⟨ad394, e394, hx394_0⟩ := Kd.at_bool HR0_0.out (rd t390 x6_1) p394 q394
        (try rw [← Nbq11.out] at hx394_0)
        cases e394
        replace hx394_0 := (HB.out.cell (World.block_lt_of_cell? w _ hx394_0)).trans hx394_0
        replace p394 := eq_true p394
        replace q394 := eq_true q394
        go_wp2
        repeat (go_quiet (fail); try go_wp2)
        go_ret
        exact ⟨ew_, bl_⟩
      ·rw [if_neg c10] at H
       exact absurd H (by simp)
     ·rw [if_neg c9] at H
      exact absurd H (by simp)
    ·rw [if_neg c8] at H
     exact absurd H (by simp)
   ·rw [if_neg c7] at H
    have c7b0 : decide (x6_1 < (t390.length : Int)) = false := decide_eq_false c7
    clear c7
    obtain rfl := Option.some.inj H
    obtain ⟨Ao17, co17, eo17⟩ := Kd.R_slice HO_5.out
    subst eo17
    go_wp2
    repeat (go_quiet (fail); try go_wp2)
    go_ret
    exact ⟨ew_, bl_⟩

end Go.Proofs.YtcfgjaggccnoaaaDoor.PSiftPasses
