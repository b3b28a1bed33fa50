import Derived.Test.YtcfgjaggccnoaaaDoorPSiftPassesx0
import Derived.Test.YtcfgjaggccnoaaaDoorPSiftPassesx1
import Derived.Test.YtcfgjaggccnoaaaDoorPSiftPassesx2
import Derived.Test.YtcfgjaggccnoaaaDoorPSiftPassesx4
namespace Go.Proofs.YtcfgjaggccnoaaaDoor.PSiftPasses
open Go.RowKit Go.Proofs.YtcfgjaggccnoaaaDoorW.PrintWords Go.Proofs.YtcfgjaggccnoaaaDoorW.PrintLast Go.Proofs.YtcfgjaggccnoaaaDoorW.PrintMore
attribute [local go_sem] max2_int min2_int max_two min_two max_three min_three max_four min_four
set_option linter.unusedVariables false
set_option linter.unusedSimpArgs false
set_option maxRecDepth 100000

def span_one.f (a0_0 : Int) (a0_1 : Int) (a0_2 : ByteArray) : Option (Int × Int × ByteArray × Int × Int × ByteArray × Int × Int) := (val_IsNull.f a0_0 a0_1 a0_2).bind fun t173 => (if t173 = true then (some (0, 0, (⟨#[]⟩ : ByteArray), 0, 0, (⟨#[]⟩ : ByteArray), 0, 1)) else (some (a0_0, a0_1, a0_2, a0_0, a0_1, a0_2, 1, 0)))
set_option maxHeartbeats 8000000 in
set_option maxRecDepth 100000 in
theorem span_one.calls (a0_0 : Int) (a0_1 : Int) (a0_2 : ByteArray) (r1 : Int) (r2 : Int) (r3 : ByteArray) (r4 : Int) (r5 : Int) (r6 : ByteArray) (r7 : Int) (r8 : Int) (w : World) (h : span_one.f a0_0 a0_1 a0_2 = some (r1, r2, r3, r4, r5, r6, r7, r8)) :
  Calls Tryd.prog 113 #[.agg #[.int .i64 a0_0, .int .i64 a0_1, .string a0_2]] w fun e w' => e = .returned (.agg #[.int .i64 r1, .int .i64 r2, .string r3, .int .i64 r4, .int .i64 r5, .string r6, .int .i64 r7, .int .i64 r8]) ∧ Below w.heap.size w w' := by
 have hu23 := Tryd.underlying23
 have hu106 := Tryd.underlying106
 have HB := am_ (Below.refl w.heap.size w)
 have H : ((val_IsNull.f a0_0 a0_1 a0_2).bind fun t173 => (if t173 = true then (some (0, 0, (⟨#[]⟩ : ByteArray), 0, 0, (⟨#[]⟩ : ByteArray), 0, 1)) else (some (a0_0, a0_1, a0_2, a0_0, a0_1, a0_2, 1, 0)))) = some (r1, r2, r3, r4, r5, r6, r7, r8) := h
 clear h
 replace H := Option.bind_eq_some_iff.mp H
 obtain ⟨t173, A20, H⟩ := H
 replace H : (if t173 = true then (some (0, 0, (⟨#[]⟩ : ByteArray), 0, 0, (⟨#[]⟩ : ByteArray), 0, 1)) else (some (a0_0, a0_1, a0_2, a0_0, a0_1, a0_2, 1, 0))) = some (r1, r2, r3, r4, r5, r6, r7, r8) := H
 have A2 := am_ A20
 clear A20
 by_cases c3 : t173 = true
 ·subst c3
  have H1 : (some (0, 0, (⟨#[]⟩ : ByteArray), 0, 0, (⟨#[]⟩ : ByteArray), 0, 1)) = some (r1, r2, r3, r4, r5, r6, r7, r8) := by rw [if_pos rfl] at H; exact H
  clear H
  have H := H1
  clear H1
  simp only [Option.some.injEq, Prod.mk.injEq] at H
  obtain ⟨rfl, rfl, rfl, rfl, rfl, rfl, rfl, rfl⟩ := H
  go_enter Tryd.func113, Tryd.ntmps113
  go_wp2_with (first | ((with_reducible refine gate_dst (N := 1) rfl ?_); refine box_event ?hg (N := 1) ?hd (cs := #[.int .i64 a0_0, .int .i64 a0_1, .string a0_2]) (t := 23) ?hr ?_; (case hd => rfl); (case hg => rfl); (case hr => first | (go_simp; done) | (go_simp; rfl)); intro gb171 hg w4 hbox hb; have BK171 := am_ (hbox); have GW171 := am_ ((by rw [hg]; exact (below_size (bl_)) : w.heap.size ≤ gb171)); have GE171 := am_ ((by rw [hg]; exact (below_size (bl_)) : w.heap.size ≤ gb171)); replace HB := am_ (below_step (bl_) hb); clear hb hbox hg) | ((with_reducible refine gate_dst (N := 2) rfl ?_); refine box_event ?hg (N := 2) ?hd (cs := #[.int .i64 0, .int .i64 0, .string (⟨#[]⟩ : ByteArray), .int .i64 0, .int .i64 0, .string (⟨#[]⟩ : ByteArray), .int .i64 0, .int .i64 0]) (t := 106) ?hr ?_; (case hd => rfl); (case hg => rfl); (case hr => first | (go_simp; done) | (go_simp; rfl)); intro gb172 hg w5 hbox hb; have n0_ := am_ (blk_below (g := gb171) (o := .cells #[.int .i64 a0_0, .int .i64 a0_1, .string a0_2] 23 (0, 0)) (bk_ BK171.out) hb); have n1_ := am_ (below_step (bl_) hb); have n2_ := am_ (hbox); have n3_ := am_ ((by rw [hg]; exact (below_size (bl_)) : w.heap.size ≤ gb172)); have n4_ := am_ ((by rw [hg]; exact (below_size (bl_)) : w.heap.size ≤ gb172)); have n5_ := am_ ((by rw [hg]; exact Nat.ne_of_lt (blk_lt (g := gb171) (o := .cells #[.int .i64 a0_0, .int .i64 a0_1, .string a0_2] 23 (0, 0)) (bk_ BK171.out)) : gb171 ≠ gb172)); have n6_ := am_ ((by rw [hg]; exact Nat.ne_of_gt (blk_lt (g := gb171) (o := .cells #[.int .i64 a0_0, .int .i64 a0_1, .string a0_2] 23 (0, 0)) (bk_ BK171.out)) : gb172 ≠ gb171)); clear BK171; clear HB; have BK171 := n0_; have HB := n1_; have BK172 := n2_; have GW172 := n3_; have GE172 := n4_; have NB171_172 := n5_; have NB172_171 := n6_; clear n0_ n1_ n2_ n3_ n4_ n5_ n6_; clear hb hbox hg; have hnb6 := NB171_172.out; have hnc6 := NB172_171.out; have hcz7_0 : w5.cell? ⟨gb171, 0, none⟩ = some (.int .i64 a0_0) := (blk_cell BK171.out 0).trans rfl; have hcz7_1 : w5.cell? ⟨gb171, 1, none⟩ = some (.int .i64 a0_1) := (blk_cell BK171.out 1).trans rfl; have hcz7_2 : w5.cell? ⟨gb171, 2, none⟩ = some (.string a0_2) := (blk_cell BK171.out 2).trans rfl; have hfz7_0 := blk_frozen BK171.out 0; have hfz7_1 := blk_frozen BK171.out 1; have hfz7_2 := blk_frozen BK171.out 2) | ((with_reducible refine gate_callee (f := 92) rfl ?_); refine goesL_ (some 4) rfl rfl Tryd.func92 (by kernel_rfl) rfl #[.agg #[.int .i64 a0_0, .int .i64 a0_1, .string a0_2]] rfl (by (try simp only [List.map_toArray, List.map_cons, List.map_nil]); first | done | rfl | (simp only [List.length_drop, List.length_take]; rfl)) ?_; (with_reducible refine (val_IsNull.calls a0_0 a0_1 a0_2 true _ A2.out).mono ?_); rintro e w8 ⟨rfl, hb⟩; refine ⟨_, rfl, ?_⟩; replace BK171 := am_ (blk_below (g := gb171) (o := .cells #[.int .i64 a0_0, .int .i64 a0_1, .string a0_2] 23 (0, 0)) (bk_ BK171.out) hb); replace BK172 := am_ (blk_below (g := gb172) (o := .cells #[.int .i64 0, .int .i64 0, .string (⟨#[]⟩ : ByteArray), .int .i64 0, .int .i64 0, .string (⟨#[]⟩ : ByteArray), .int .i64 0, .int .i64 0] 106 (0, 0)) (bk_ BK172.out) hb); replace HB := am_ (below_step (bl_) hb); (try clear hb); (try clear hb2); (try clear hk); (try clear hi); have hcz9_0 : w8.cell? ⟨gb172, 0, none⟩ = some (.int .i64 0) := (blk_cell BK172.out 0).trans rfl; have hcz9_1 : w8.cell? ⟨gb172, 1, none⟩ = some (.int .i64 0) := (blk_cell BK172.out 1).trans rfl; have hcz9_2 : w8.cell? ⟨gb172, 2, none⟩ = some (.string (⟨#[]⟩ : ByteArray)) := (blk_cell BK172.out 2).trans rfl; have hcz9_3 : w8.cell? ⟨gb172, 3, none⟩ = some (.int .i64 0) := (blk_cell BK172.out 3).trans rfl; have hcz9_4 : w8.cell? ⟨gb172, 4, none⟩ = some (.int .i64 0) := (blk_cell BK172.out 4).trans rfl; have hcz9_5 : w8.cell? ⟨gb172, 5, none⟩ = some (.string (⟨#[]⟩ : ByteArray)) := (blk_cell BK172.out 5).trans rfl; have hcz9_6 : w8.cell? ⟨gb172, 6, none⟩ = some (.int .i64 0) := (blk_cell BK172.out 6).trans rfl; have hcz9_7 : w8.cell? ⟨gb172, 7, none⟩ = some (.int .i64 0) := (blk_cell BK172.out 7).trans rfl; have hfz9_0 := blk_frozen BK172.out 0; have hfz9_1 := blk_frozen BK172.out 1; have hfz9_2 := blk_frozen BK172.out 2; have hfz9_3 := blk_frozen BK172.out 3; have hfz9_4 := blk_frozen BK172.out 4; have hfz9_5 := blk_frozen BK172.out 5; have hfz9_6 := blk_frozen BK172.out 6; have hfz9_7 := blk_frozen BK172.out 7))
  refine bodyPost_ret (results_cell_row rfl _ _ gb172 106 #[.int .i64 0, .int .i64 0, .string (⟨#[]⟩ : ByteArray), .int .i64 0, .int .i64 0, .string (⟨#[]⟩ : ByteArray), .int .i64 0, .int .i64 1] (0, 0) _ rfl (by refine bp_ ?_; refine blk_put (cs := #[.int .i64 0, .int .i64 0, .string (⟨#[]⟩ : ByteArray), .int .i64 0, .int .i64 0, .string (⟨#[]⟩ : ByteArray), .int .i64 0, .int .i64 0]) ?_ 7 _ rfl; refine bp_ ?_; refine blk_put (cs := #[.int .i64 0, .int .i64 0, .string (⟨#[]⟩ : ByteArray), .int .i64 0, .int .i64 0, .string (⟨#[]⟩ : ByteArray), .int .i64 0, .int .i64 0]) ?_ 6 _ rfl; refine bp_ ?_; refine blk_put (cs := #[.int .i64 0, .int .i64 0, .string (⟨#[]⟩ : ByteArray), .int .i64 0, .int .i64 0, .string (⟨#[]⟩ : ByteArray), .int .i64 0, .int .i64 0]) ?_ 5 _ rfl; refine bp_ ?_; refine blk_put (cs := #[.int .i64 0, .int .i64 0, .string (⟨#[]⟩ : ByteArray), .int .i64 0, .int .i64 0, .string (⟨#[]⟩ : ByteArray), .int .i64 0, .int .i64 0]) ?_ 4 _ rfl; refine bp_ ?_; refine blk_put (cs := #[.int .i64 0, .int .i64 0, .string (⟨#[]⟩ : ByteArray), .int .i64 0, .int .i64 0, .string (⟨#[]⟩ : ByteArray), .int .i64 0, .int .i64 0]) ?_ 3 _ rfl; refine bp_ ?_; refine blk_put (cs := #[.int .i64 0, .int .i64 0, .string (⟨#[]⟩ : ByteArray), .int .i64 0, .int .i64 0, .string (⟨#[]⟩ : ByteArray), .int .i64 0, .int .i64 0]) ?_ 2 _ rfl; refine bp_ ?_; refine blk_put (cs := #[.int .i64 0, .int .i64 0, .string (⟨#[]⟩ : ByteArray), .int .i64 0, .int .i64 0, .string (⟨#[]⟩ : ByteArray), .int .i64 0, .int .i64 0]) ?_ 1 _ rfl; refine bp_ ?_; refine blk_put (cs := #[.int .i64 0, .int .i64 0, .string (⟨#[]⟩ : ByteArray), .int .i64 0, .int .i64 0, .string (⟨#[]⟩ : ByteArray), .int .i64 0, .int .i64 0]) ?_ 0 _ rfl; refine bp_ ?_; exact BK172.out) Tryd.underlying106 rfl (by kernel_rfl)) rfl ?_
  exact ⟨ew_, bl_⟩
 ·replace c3 := Bool.eq_false_iff.mpr c3
  subst c3
  have H1 : (some (a0_0, a0_1, a0_2, a0_0, a0_1, a0_2, 1, 0)) = some (r1, r2, r3, r4, r5, r6, r7, r8) := by rw [if_neg (show ¬ (false = true) by decide)] at H; exact H
  clear H
  have H := H1
  clear H1
  simp only [Option.some.injEq, Prod.mk.injEq] at H
  obtain ⟨rfl, rfl, rfl, rfl, rfl, rfl, rfl, rfl⟩ := H
  go_enter Tryd.func113, Tryd.ntmps113
  go_wp2_with (first | ((with_reducible refine gate_dst (N := 1) rfl ?_); refine box_event ?hg (N := 1) ?hd (cs := #[.int .i64 a0_0, .int .i64 a0_1, .string a0_2]) (t := 23) ?hr ?_; (case hd => rfl); (case hg => rfl); (case hr => first | (go_simp; done) | (go_simp; rfl)); intro gb171 hg w10 hbox hb; have BK171 := am_ (hbox); have GW171 := am_ ((by rw [hg]; exact (below_size (bl_)) : w.heap.size ≤ gb171)); have GE171 := am_ ((by rw [hg]; exact (below_size (bl_)) : w.heap.size ≤ gb171)); replace HB := am_ (below_step (bl_) hb); clear hb hbox hg) | ((with_reducible refine gate_dst (N := 2) rfl ?_); refine box_event ?hg (N := 2) ?hd (cs := #[.int .i64 0, .int .i64 0, .string (⟨#[]⟩ : ByteArray), .int .i64 0, .int .i64 0, .string (⟨#[]⟩ : ByteArray), .int .i64 0, .int .i64 0]) (t := 106) ?hr ?_; (case hd => rfl); (case hg => rfl); (case hr => first | (go_simp; done) | (go_simp; rfl)); intro gb172 hg w11 hbox hb; have n0_ := am_ (blk_below (g := gb171) (o := .cells #[.int .i64 a0_0, .int .i64 a0_1, .string a0_2] 23 (0, 0)) (bk_ BK171.out) hb); have n1_ := am_ (below_step (bl_) hb); have n2_ := am_ (hbox); have n3_ := am_ ((by rw [hg]; exact (below_size (bl_)) : w.heap.size ≤ gb172)); have n4_ := am_ ((by rw [hg]; exact (below_size (bl_)) : w.heap.size ≤ gb172)); have n5_ := am_ ((by rw [hg]; exact Nat.ne_of_lt (blk_lt (g := gb171) (o := .cells #[.int .i64 a0_0, .int .i64 a0_1, .string a0_2] 23 (0, 0)) (bk_ BK171.out)) : gb171 ≠ gb172)); have n6_ := am_ ((by rw [hg]; exact Nat.ne_of_gt (blk_lt (g := gb171) (o := .cells #[.int .i64 a0_0, .int .i64 a0_1, .string a0_2] 23 (0, 0)) (bk_ BK171.out)) : gb172 ≠ gb171)); clear BK171; clear HB; have BK171 := n0_; have HB := n1_; have BK172 := n2_; have GW172 := n3_; have GE172 := n4_; have NB171_172 := n5_; have NB172_171 := n6_; clear n0_ n1_ n2_ n3_ n4_ n5_ n6_; clear hb hbox hg; have hnb12 := NB171_172.out; have hnc12 := NB172_171.out; have hcz13_0 : w11.cell? ⟨gb171, 0, none⟩ = some (.int .i64 a0_0) := (blk_cell BK171.out 0).trans rfl; have hcz13_1 : w11.cell? ⟨gb171, 1, none⟩ = some (.int .i64 a0_1) := (blk_cell BK171.out 1).trans rfl; have hcz13_2 : w11.cell? ⟨gb171, 2, none⟩ = some (.string a0_2) := (blk_cell BK171.out 2).trans rfl; have hfz13_0 := blk_frozen BK171.out 0; have hfz13_1 := blk_frozen BK171.out 1; have hfz13_2 := blk_frozen BK171.out 2) | ((with_reducible refine gate_callee (f := 92) rfl ?_); refine goesL_ (some 4) rfl rfl Tryd.func92 (by kernel_rfl) rfl #[.agg #[.int .i64 a0_0, .int .i64 a0_1, .string a0_2]] rfl (by (try simp only [List.map_toArray, List.map_cons, List.map_nil]); first | done | rfl | (simp only [List.length_drop, List.length_take]; rfl)) ?_; (with_reducible refine (val_IsNull.calls a0_0 a0_1 a0_2 false _ A2.out).mono ?_); rintro e w14 ⟨rfl, hb⟩; refine ⟨_, rfl, ?_⟩; replace BK171 := am_ (blk_below (g := gb171) (o := .cells #[.int .i64 a0_0, .int .i64 a0_1, .string a0_2] 23 (0, 0)) (bk_ BK171.out) hb); replace BK172 := am_ (blk_below (g := gb172) (o := .cells #[.int .i64 0, .int .i64 0, .string (⟨#[]⟩ : ByteArray), .int .i64 0, .int .i64 0, .string (⟨#[]⟩ : ByteArray), .int .i64 0, .int .i64 0] 106 (0, 0)) (bk_ BK172.out) hb); replace HB := am_ (below_step (bl_) hb); (try clear hb); (try clear hb2); (try clear hk); (try clear hi); have hcz15_0 : w14.cell? ⟨gb171, 0, none⟩ = some (.int .i64 a0_0) := (blk_cell BK171.out 0).trans rfl; have hcz15_1 : w14.cell? ⟨gb171, 1, none⟩ = some (.int .i64 a0_1) := (blk_cell BK171.out 1).trans rfl; have hcz15_2 : w14.cell? ⟨gb171, 2, none⟩ = some (.string a0_2) := (blk_cell BK171.out 2).trans rfl; have hfz15_0 := blk_frozen BK171.out 0; have hfz15_1 := blk_frozen BK171.out 1; have hfz15_2 := blk_frozen BK171.out 2; have hcz16_0 : w14.cell? ⟨gb172, 0, none⟩ = some (.int .i64 0) := (blk_cell BK172.out 0).trans rfl; have hcz16_1 : w14.cell? ⟨gb172, 1, none⟩ = some (.int .i64 0) := (blk_cell BK172.out 1).trans rfl; have hcz16_2 : w14.cell? ⟨gb172, 2, none⟩ = some (.string (⟨#[]⟩ : ByteArray)) := (blk_cell BK172.out 2).trans rfl; have hcz16_3 : w14.cell? ⟨gb172, 3, none⟩ = some (.int .i64 0) := (blk_cell BK172.out 3).trans rfl; have hcz16_4 : w14.cell? ⟨gb172, 4, none⟩ = some (.int .i64 0) := (blk_cell BK172.out 4).trans rfl; have hcz16_5 : w14.cell? ⟨gb172, 5, none⟩ = some (.string (⟨#[]⟩ : ByteArray)) := (blk_cell BK172.out 5).trans rfl; have hcz16_6 : w14.cell? ⟨gb172, 6, none⟩ = some (.int .i64 0) := (blk_cell BK172.out 6).trans rfl; have hcz16_7 : w14.cell? ⟨gb172, 7, none⟩ = some (.int .i64 0) := (blk_cell BK172.out 7).trans rfl; have hfz16_0 := blk_frozen BK172.out 0; have hfz16_1 := blk_frozen BK172.out 1; have hfz16_2 := blk_frozen BK172.out 2; have hfz16_3 := blk_frozen BK172.out 3; have hfz16_4 := blk_frozen BK172.out 4; have hfz16_5 := blk_frozen BK172.out 5; have hfz16_6 := blk_frozen BK172.out 6; have hfz16_7 := blk_frozen BK172.out 7))
  refine bodyPost_ret (results_cell_row rfl _ _ gb172 106 #[.int .i64 a0_0, .int .i64 a0_1, .string a0_2, .int .i64 a0_0, .int .i64 a0_1, .string a0_2, .int .i64 1, .int .i64 0] (0, 0) _ rfl (by refine bp_ ?_; refine blk_put (cs := #[.int .i64 a0_0, .int .i64 a0_1, .string a0_2, .int .i64 a0_0, .int .i64 a0_1, .string a0_2, .int .i64 1, .int .i64 0]) ?_ 7 _ rfl; refine bp_ ?_; refine blk_put (cs := #[.int .i64 a0_0, .int .i64 a0_1, .string a0_2, .int .i64 a0_0, .int .i64 a0_1, .string a0_2, .int .i64 0, .int .i64 0]) ?_ 6 _ rfl; refine bp_ ?_; refine blk_put (cs := #[.int .i64 a0_0, .int .i64 a0_1, .string a0_2, .int .i64 a0_0, .int .i64 a0_1, .string (⟨#[]⟩ : ByteArray), .int .i64 0, .int .i64 0]) ?_ 5 _ rfl; refine bp_ ?_; refine blk_put (cs := #[.int .i64 a0_0, .int .i64 a0_1, .string a0_2, .int .i64 a0_0, .int .i64 0, .string (⟨#[]⟩ : ByteArray), .int .i64 0, .int .i64 0]) ?_ 4 _ rfl; refine bp_ ?_; refine blk_put (cs := #[.int .i64 a0_0, .int .i64 a0_1, .string a0_2, .int .i64 0, .int .i64 0, .string (⟨#[]⟩ : ByteArray), .int .i64 0, .int .i64 0]) ?_ 3 _ rfl; refine bp_ ?_; refine blk_put (cs := #[.int .i64 a0_0, .int .i64 a0_1, .string (⟨#[]⟩ : ByteArray), .int .i64 0, .int .i64 0, .string (⟨#[]⟩ : ByteArray), .int .i64 0, .int .i64 0]) ?_ 2 _ rfl; refine bp_ ?_; refine blk_put (cs := #[.int .i64 a0_0, .int .i64 0, .string (⟨#[]⟩ : ByteArray), .int .i64 0, .int .i64 0, .string (⟨#[]⟩ : ByteArray), .int .i64 0, .int .i64 0]) ?_ 1 _ rfl; refine bp_ ?_; refine blk_put (cs := #[.int .i64 0, .int .i64 0, .string (⟨#[]⟩ : ByteArray), .int .i64 0, .int .i64 0, .string (⟨#[]⟩ : ByteArray), .int .i64 0, .int .i64 0]) ?_ 0 _ rfl; refine bp_ ?_; exact BK172.out) Tryd.underlying106 rfl (by kernel_rfl)) rfl ?_
  exact ⟨ew_, bl_⟩

def span_Add.l0 : Nat → List (S23) → Int → Int → Int → Int → ByteArray → Int → Int → ByteArray → Int → Int → Option (Int × Int × ByteArray × Int × Int × ByteArray × Int × Int)
 | 0, _, _, _, _, _, _, _, _, _, _, _ => none
 | k + 1, x7, x8, x9, x175000, x175001, x175002, x175003, x175004, x175005, x175006, x175007 => if x9 < x8 then (if 0 ≤ x9 then (if x9 < (x7.length : Int) then ((span_one.f ((rd_T23 x7 x9).f0) ((rd_T23 x7 x9).f1) ((rd_T23 x7 x9).f2)).bind fun bt178 => ((span_Union.f k x175000 x175001 x175002 x175003 x175004 x175005 x175006 x175007 bt178.1 bt178.2.1 bt178.2.2.1 bt178.2.2.2.1 bt178.2.2.2.2.1 bt178.2.2.2.2.2.1 bt178.2.2.2.2.2.2.1 bt178.2.2.2.2.2.2.2).bind fun bt186 => (span_Add.l0 k x7 x8 (wrap64 (x9 + 1)) bt186.1 bt186.2.1 bt186.2.2.1 bt186.2.2.2.1 bt186.2.2.2.2.1 bt186.2.2.2.2.2.1 bt186.2.2.2.2.2.2.1 bt186.2.2.2.2.2.2.2))) else (none)) else (none)) else (some (x175000, x175001, x175002, x175003, x175004, x175005, x175006, x175007))
def span_Add.f (k : Nat) (a0_0 : Int) (a0_1 : Int) (a0_2 : ByteArray) (a0_3 : Int) (a0_4 : Int) (a0_5 : ByteArray) (a0_6 : Int) (a0_7 : Int) (l1 : List (S23)) : Option (Int × Int × ByteArray × Int × Int × ByteArray × Int × Int) := span_Add.l0 k l1 (l1.length : Int) 0 a0_0 a0_1 a0_2 a0_3 a0_4 a0_5 a0_6 a0_7
theorem span_Add.mono_l : ∀ k, (∀ y0 y1 y2 y3 y4 y5 y6 y7 y8 y9 y10, LeO (span_Add.l0 k y0 y1 y2 y3 y4 y5 y6 y7 y8 y9 y10) (span_Add.l0 (k + 1) y0 y1 y2 y3 y4 y5 y6 y7 y8 y9 y10))
 | 0 => fun _ _ _ _ _ _ _ _ _ _ _ r h => by simp [span_Add.l0] at h
 | k + 1 => by
  have ih0 := span_Add.mono_l k
  ·intro y0 y1 y2 y3 y4 y5 y6 y7 y8 y9 y10
   unfold span_Add.l0
   repeat' first
   | (with_reducible exact ih0 _ _ _ _ _ _ _ _ _ _ _)
   | (with_reducible exact span_Union.mono _ _ _ _ _ _ _ _ _ _ _ _ _ _ _ _ _)
   | (with_reducible exact LeO.refl _)
   | (with_reducible exact LeO.none _)
   | (with_reducible refine LeO.ite ?_ ?_)
   | (with_reducible refine LeO.bind ?_ (fun _ => ?_))
   | exact ih0 _ _ _ _ _ _ _ _ _ _ _
   | exact span_Union.mono _ _ _ _ _ _ _ _ _ _ _ _ _ _ _ _ _
   | exact LeO.none _
   | refine LeO.ite ?_ ?_
   | refine LeO.bind ?_ (fun _ => ?_)
theorem span_Add.mono : ∀ a0 a1 a2 a3 a4 a5 a6 a7 a8 k, LeO (span_Add.f k a0 a1 a2 a3 a4 a5 a6 a7 a8) (span_Add.f (k + 1) a0 a1 a2 a3 a4 a5 a6 a7 a8) := by
 intro a0 a1 a2 a3 a4 a5 a6 a7 a8 k
 have ih0 := span_Add.mono_l k
 unfold span_Add.f
 repeat' first
   | (with_reducible exact ih0 _ _ _ _ _ _ _ _ _ _ _)
   | (with_reducible exact span_Union.mono _ _ _ _ _ _ _ _ _ _ _ _ _ _ _ _ _)
   | (with_reducible exact LeO.refl _)
   | (with_reducible exact LeO.none _)
   | (with_reducible refine LeO.ite ?_ ?_)
   | (with_reducible refine LeO.bind ?_ (fun _ => ?_))
   | exact ih0 _ _ _ _ _ _ _ _ _ _ _
   | exact span_Union.mono _ _ _ _ _ _ _ _ _ _ _ _ _ _ _ _ _
   | exact LeO.none _
   | refine LeO.ite ?_ ?_
   | refine LeO.bind ?_ (fun _ => ?_)
set_option maxHeartbeats 8000000 in
set_option maxRecDepth 100000 in
theorem span_Add.calls (k : Nat) (a0_0 : Int) (a0_1 : Int) (a0_2 : ByteArray) (a0_3 : Int) (a0_4 : Int) (a0_5 : ByteArray) (a0_6 : Int) (a0_7 : Int) (A1 : Option Addr) (c1 : Nat) (l1 : List (S23)) (r1 : Int) (r2 : Int) (r3 : ByteArray) (r4 : Int) (r5 : Int) (r6 : ByteArray) (r7 : Int) (r8 : Int) (w : World) (hr1 : Kd.C k23 w A1 l1.length l1) (hc1 : l1.length ≤ c1) (h : span_Add.f k a0_0 a0_1 a0_2 a0_3 a0_4 a0_5 a0_6 a0_7 l1 = some (r1, r2, r3, r4, r5, r6, r7, r8)) :
  Calls Tryd.prog 71 #[.agg #[.int .i64 a0_0, .int .i64 a0_1, .string a0_2, .int .i64 a0_3, .int .i64 a0_4, .string a0_5, .int .i64 a0_6, .int .i64 a0_7], .slice A1 l1.length c1] w fun e w' => e = .returned (.agg #[.int .i64 r1, .int .i64 r2, .string r3, .int .i64 r4, .int .i64 r5, .string r6, .int .i64 r7, .int .i64 r8]) ∧ Below w.heap.size w w' := by
 have hu106 := Tryd.underlying106
 have hu23 := Tryd.underlying23
 have HR1 := am_ hr1
 have HC1 := am_ hc1
 clear hr1 hc1
 have HB := am_ (Below.refl w.heap.size w)
 have H : (span_Add.l0 k l1 (l1.length : Int) 0 a0_0 a0_1 a0_2 a0_3 a0_4 a0_5 a0_6 a0_7) = some (r1, r2, r3, r4, r5, r6, r7, r8) := h
 clear h
 have H' := am_ H
 clear H
 go_enter Tryd.func71, Tryd.ntmps71
 go_wp2_with (first | ((with_reducible refine gate_dst (N := 2) rfl ?_); refine box_event ?hg (N := 2) ?hd (cs := #[.int .i64 a0_0, .int .i64 a0_1, .string a0_2, .int .i64 a0_3, .int .i64 a0_4, .string a0_5, .int .i64 a0_6, .int .i64 a0_7]) (t := 106) ?hr ?_; (case hd => rfl); (case hg => rfl); (case hr => first | (go_simp; done) | (go_simp; rfl)); intro gb174 hg w3 hbox hb; have BK174 := am_ (hbox); have GW174 := am_ ((by rw [hg]; exact (below_size (bl_)) : w.heap.size ≤ gb174)); have GE174 := am_ ((by rw [hg]; exact (below_size (bl_)) : w.heap.size ≤ gb174)); replace HB := am_ (below_step (bl_) hb); clear hb hbox hg) | ((with_reducible refine gate_dst (N := 4) rfl ?_); refine box_event ?hg (N := 4) ?hd (cs := #[.int .i64 0, .int .i64 0, .string (⟨#[]⟩ : ByteArray), .int .i64 0, .int .i64 0, .string (⟨#[]⟩ : ByteArray), .int .i64 0, .int .i64 0]) (t := 106) ?hr ?_; (case hd => rfl); (case hg => rfl); (case hr => first | (go_simp; done) | (go_simp; rfl)); intro gb175 hg w4 hbox hb; have n0_ := am_ (blk_below (g := gb174) (o := .cells #[.int .i64 a0_0, .int .i64 a0_1, .string a0_2, .int .i64 a0_3, .int .i64 a0_4, .string a0_5, .int .i64 a0_6, .int .i64 a0_7] 106 (0, 0)) (bk_ BK174.out) hb); have n1_ := am_ (below_step (bl_) hb); have n2_ := am_ (hbox); have n3_ := am_ ((by rw [hg]; exact (below_size (bl_)) : w.heap.size ≤ gb175)); have n4_ := am_ ((by rw [hg]; exact (below_size (bl_)) : w.heap.size ≤ gb175)); have n5_ := am_ ((by rw [hg]; exact Nat.ne_of_lt (blk_lt (g := gb174) (o := .cells #[.int .i64 a0_0, .int .i64 a0_1, .string a0_2, .int .i64 a0_3, .int .i64 a0_4, .string a0_5, .int .i64 a0_6, .int .i64 a0_7] 106 (0, 0)) (bk_ BK174.out)) : gb174 ≠ gb175)); have n6_ := am_ ((by rw [hg]; exact Nat.ne_of_gt (blk_lt (g := gb174) (o := .cells #[.int .i64 a0_0, .int .i64 a0_1, .string a0_2, .int .i64 a0_3, .int .i64 a0_4, .string a0_5, .int .i64 a0_6, .int .i64 a0_7] 106 (0, 0)) (bk_ BK174.out)) : gb175 ≠ gb174)); clear BK174; clear HB; have BK174 := n0_; have HB := n1_; have BK175 := n2_; have GW175 := n3_; have GE175 := n4_; have NB174_175 := n5_; have NB175_174 := n6_; clear n0_ n1_ n2_ n3_ n4_ n5_ n6_; clear hb hbox hg))
 go_loopg [9] k (fun kq v9 w' => ∃ (x9_1 : Int) (x175000_1 : Int) (x175001_1 : Int) (x175002_1 : ByteArray) (x175003_1 : Int) (x175004_1 : Int) (x175005_1 : ByteArray) (x175006_1 : Int) (x175007_1 : Int), v9 = .int .i64 x9_1 ∧ Aside0 (span_Add.l0 kq l1 (l1.length : Int) x9_1 x175000_1 x175001_1 x175002_1 x175003_1 x175004_1 x175005_1 x175006_1 x175007_1 = some (r1, r2, r3, r4, r5, r6, r7, r8)) ∧ Aside0 (kq ≤ k) ∧ Aside0 (w'.heap[gb174]? = some (.cells #[.int .i64 x175000_1, .int .i64 x175001_1, .string x175002_1, .int .i64 x175003_1, .int .i64 x175004_1, .string x175005_1, .int .i64 x175006_1, .int .i64 x175007_1] 106 (0, 0))) ∧ Aside0 (w'.heap[gb175]? = some (.cells #[.int .i64 0, .int .i64 0, .string (⟨#[]⟩ : ByteArray), .int .i64 0, .int .i64 0, .string (⟨#[]⟩ : ByteArray), .int .i64 0, .int .i64 0] 106 (0, 0))) ∧ Aside0 (Below w.heap.size w w'))
 case atStart => exact ⟨(0), (a0_0), (a0_1), (a0_2), (a0_3), (a0_4), (a0_5), (a0_6), (a0_7), (rs_), H', ⟨Nat.le_refl _⟩, ⟨bk_ BK174.out⟩, ⟨bk_ BK175.out⟩, ⟨bl_⟩⟩
 case round =>
  clear H'
  try clear c1
  try clear p2
  obtain ⟨x9_1, x175000_1, x175001_1, x175002_1, x175003_1, x175004_1, x175005_1, x175006_1, x175007_1, rfl, HA, HK1, BK174, BK175, HB⟩ := hrel
  cases gk with
  | zero => exact absurd HA.out (by simp [span_Add.l0])
  | succ k1 =>
   have H := HA.out
   clear HA
   simp only [span_Add.l0] at H
   by_cases c5 : x9_1 < (l1.length : Int)
   ·rw [if_pos c5] at H
    have c5b0 : decide (x9_1 < (l1.length : Int)) = true := decide_eq_true c5
    clear c5
    by_cases c6 : 0 ≤ x9_1
    ·rw [if_pos c6] at H
     have c6b0 : decide (0 ≤ x9_1) = true := decide_eq_true c6
     clear c6
     by_cases c7 : x9_1 < (l1.length : Int)
     ·rw [if_pos c7] at H
      have c7b0 : decide (x9_1 < (l1.length : Int)) = true := decide_eq_true c7
      clear c7
      replace H := Option.bind_eq_some_iff.mp H
      obtain ⟨⟨t178, t179, t180, t181, t182, t183, t184, t185⟩, A80, H⟩ := H
      replace H : ((span_Union.f k1 x175000_1 x175001_1 x175002_1 x175003_1 x175004_1 x175005_1 x175006_1 x175007_1 t178 t179 t180 t181 t182 t183 t184 t185).bind fun bt186 => (span_Add.l0 k1 l1 (l1.length : Int) (wrap64 (x9_1 + 1)) bt186.1 bt186.2.1 bt186.2.2.1 bt186.2.2.2.1 bt186.2.2.2.2.1 bt186.2.2.2.2.2.1 bt186.2.2.2.2.2.2.1 bt186.2.2.2.2.2.2.2)) = some (r1, r2, r3, r4, r5, r6, r7, r8) := H
      have A8 := am_ A80
      clear A80
      replace H := Option.bind_eq_some_iff.mp H
      obtain ⟨⟨t186, t187, t188, t189, t190, t191, t192, t193⟩, A90, H⟩ := H
      replace H : (span_Add.l0 k1 l1 (l1.length : Int) (wrap64 (x9_1 + 1)) t186 t187 t188 t189 t190 t191 t192 t193) = some (r1, r2, r3, r4, r5, r6, r7, r8) := H
      have A9 := am_ A90
      clear A90
      have H' := am_ H
      clear H
      have p176 : 0 ≤ (x9_1 : Int) := of_decide_eq_true (as_)
      have q176 : x9_1 < (l1.length : Int) := of_decide_eq_true (as_)
      obtain ⟨ad176, e176, hx176_0, hx176_1, hx176_2⟩ := at_T23 HR1.out x9_1 p176 q176
      cases e176
      replace hx176_0 := (HB.out.cell (World.block_lt_of_cell? w _ hx176_0)).trans hx176_0
      replace hx176_1 := (HB.out.cell (World.block_lt_of_cell? w _ hx176_1)).trans hx176_1
      replace hx176_2 := (HB.out.cell (World.block_lt_of_cell? w _ hx176_2)).trans hx176_2
      replace p176 := eq_true p176
      replace q176 := eq_true q176
      try go_wp2_with (first | ((with_reducible refine gate_dst (N := 6) rfl ?_); refine box_event ?hg (N := 6) ?hd (cs := #[.int .i64 0, .int .i64 0, .string (⟨#[]⟩ : ByteArray)]) (t := 23) ?hr ?_; (case hd => rfl); (case hg => rfl); (case hr => first | (go_simp; done) | (go_simp; rfl)); intro gb177 hg w10 hbox hb; have n0_ := am_ (blk_below (g := gb174) (o := .cells #[.int .i64 x175000_1, .int .i64 x175001_1, .string x175002_1, .int .i64 x175003_1, .int .i64 x175004_1, .string x175005_1, .int .i64 x175006_1, .int .i64 x175007_1] 106 (0, 0)) (bk_ BK174.out) hb); have n1_ := am_ (blk_below (g := gb175) (o := .cells #[.int .i64 0, .int .i64 0, .string (⟨#[]⟩ : ByteArray), .int .i64 0, .int .i64 0, .string (⟨#[]⟩ : ByteArray), .int .i64 0, .int .i64 0] 106 (0, 0)) (bk_ BK175.out) hb); have n2_ := am_ (below_step (bl_) hb); have n3_ := am_ (hbox); have n4_ := am_ ((by rw [hg]; exact (below_size (bl_)) : w.heap.size ≤ gb177)); have n5_ := am_ ((by rw [hg]; exact (below_size (bl_)) : w.heap.size ≤ gb177)); have n6_ := am_ ((by rw [hg]; exact Nat.ne_of_lt (blk_lt (g := gb174) (o := .cells #[.int .i64 x175000_1, .int .i64 x175001_1, .string x175002_1, .int .i64 x175003_1, .int .i64 x175004_1, .string x175005_1, .int .i64 x175006_1, .int .i64 x175007_1] 106 (0, 0)) (bk_ BK174.out)) : gb174 ≠ gb177)); have n7_ := am_ ((by rw [hg]; exact Nat.ne_of_gt (blk_lt (g := gb174) (o := .cells #[.int .i64 x175000_1, .int .i64 x175001_1, .string x175002_1, .int .i64 x175003_1, .int .i64 x175004_1, .string x175005_1, .int .i64 x175006_1, .int .i64 x175007_1] 106 (0, 0)) (bk_ BK174.out)) : gb177 ≠ gb174)); have n8_ := am_ ((by rw [hg]; exact Nat.ne_of_lt (blk_lt (g := gb175) (o := .cells #[.int .i64 0, .int .i64 0, .string (⟨#[]⟩ : ByteArray), .int .i64 0, .int .i64 0, .string (⟨#[]⟩ : ByteArray), .int .i64 0, .int .i64 0] 106 (0, 0)) (bk_ BK175.out)) : gb175 ≠ gb177)); have n9_ := am_ ((by rw [hg]; exact Nat.ne_of_gt (blk_lt (g := gb175) (o := .cells #[.int .i64 0, .int .i64 0, .string (⟨#[]⟩ : ByteArray), .int .i64 0, .int .i64 0, .string (⟨#[]⟩ : ByteArray), .int .i64 0, .int .i64 0] 106 (0, 0)) (bk_ BK175.out)) : gb177 ≠ gb175)); clear BK174; clear BK175; clear HB; have BK174 := n0_; have BK175 := n1_; have HB := n2_; have BK177 := n3_; have GW177 := n4_; have GE177 := n5_; have NB174_177 := n6_; have NB177_174 := n7_; have NB175_177 := n8_; have NB177_175 := n9_; clear n0_ n1_ n2_ n3_ n4_ n5_ n6_ n7_ n8_ n9_; clear hb hbox hg; have hnb11 := NB177_174.out; have hnc11 := NB174_177.out; have hnb12 := NB177_175.out; have hnc12 := NB175_177.out; have hcz13_0 : w10.cell? ⟨gb177, 0, none⟩ = some (.int .i64 0) := (blk_cell BK177.out 0).trans rfl; have hcz13_1 : w10.cell? ⟨gb177, 1, none⟩ = some (.int .i64 0) := (blk_cell BK177.out 1).trans rfl; have hcz13_2 : w10.cell? ⟨gb177, 2, none⟩ = some (.string (⟨#[]⟩ : ByteArray)) := (blk_cell BK177.out 2).trans rfl; have hfz13_0 := blk_frozen BK177.out 0; have hfz13_1 := blk_frozen BK177.out 1; have hfz13_2 := blk_frozen BK177.out 2))
      have n0_ : Aside0 ((((w10.setCell ⟨gb177, 0, none⟩ (.int .i64 ((rd_T23 l1 x9_1).f0))).setCell ⟨gb177, 1, none⟩ (.int .i64 ((rd_T23 l1 x9_1).f1))).setCell ⟨gb177, 2, none⟩ (.string ((rd_T23 l1 x9_1).f2))).heap[gb174]? = some (.cells #[.int .i64 x175000_1, .int .i64 x175001_1, .string x175002_1, .int .i64 x175003_1, .int .i64 x175004_1, .string x175005_1, .int .i64 x175006_1, .int .i64 x175007_1] 106 (0, 0))) := ⟨by refine bp_ ?_; refine blk_far ?_ NB174_177.out _; refine bp_ ?_; refine blk_far ?_ NB174_177.out _; refine bp_ ?_; refine blk_far ?_ NB174_177.out _; refine bp_ ?_; exact BK174.out⟩
      have n1_ : Aside0 ((((w10.setCell ⟨gb177, 0, none⟩ (.int .i64 ((rd_T23 l1 x9_1).f0))).setCell ⟨gb177, 1, none⟩ (.int .i64 ((rd_T23 l1 x9_1).f1))).setCell ⟨gb177, 2, none⟩ (.string ((rd_T23 l1 x9_1).f2))).heap[gb175]? = some (.cells #[.int .i64 0, .int .i64 0, .string (⟨#[]⟩ : ByteArray), .int .i64 0, .int .i64 0, .string (⟨#[]⟩ : ByteArray), .int .i64 0, .int .i64 0] 106 (0, 0))) := ⟨by refine bp_ ?_; refine blk_far ?_ NB175_177.out _; refine bp_ ?_; refine blk_far ?_ NB175_177.out _; refine bp_ ?_; refine blk_far ?_ NB175_177.out _; refine bp_ ?_; exact BK175.out⟩
      have n2_ : Aside0 ((((w10.setCell ⟨gb177, 0, none⟩ (.int .i64 ((rd_T23 l1 x9_1).f0))).setCell ⟨gb177, 1, none⟩ (.int .i64 ((rd_T23 l1 x9_1).f1))).setCell ⟨gb177, 2, none⟩ (.string ((rd_T23 l1 x9_1).f2))).heap[gb177]? = some (.cells #[.int .i64 ((rd_T23 l1 x9_1).f0), .int .i64 ((rd_T23 l1 x9_1).f1), .string ((rd_T23 l1 x9_1).f2)] 23 (0, 0))) := ⟨by refine bp_ ?_; refine blk_put (cs := #[.int .i64 ((rd_T23 l1 x9_1).f0), .int .i64 ((rd_T23 l1 x9_1).f1), .string (⟨#[]⟩ : ByteArray)]) ?_ 2 _ rfl; refine bp_ ?_; refine blk_put (cs := #[.int .i64 ((rd_T23 l1 x9_1).f0), .int .i64 0, .string (⟨#[]⟩ : ByteArray)]) ?_ 1 _ rfl; refine bp_ ?_; refine blk_put (cs := #[.int .i64 0, .int .i64 0, .string (⟨#[]⟩ : ByteArray)]) ?_ 0 _ rfl; refine bp_ ?_; exact BK177.out⟩
      have n3_ : Aside0 (Below w.heap.size w (((w10.setCell ⟨gb177, 0, none⟩ (.int .i64 ((rd_T23 l1 x9_1).f0))).setCell ⟨gb177, 1, none⟩ (.int .i64 ((rd_T23 l1 x9_1).f1))).setCell ⟨gb177, 2, none⟩ (.string ((rd_T23 l1 x9_1).f2)))) := ⟨bl_⟩
      (try clear BK174)
      (try clear BK175)
      (try clear BK177)
      (try clear HB)
      generalize (((w10.setCell ⟨gb177, 0, none⟩ (.int .i64 ((rd_T23 l1 x9_1).f0))).setCell ⟨gb177, 1, none⟩ (.int .i64 ((rd_T23 l1 x9_1).f1))).setCell ⟨gb177, 2, none⟩ (.string ((rd_T23 l1 x9_1).f2))) = w14 at n0_ n1_ n2_ n3_ ⊢
      have BK174 := n0_
      have BK175 := n1_
      have BK177 := n2_
      have HB := n3_
      clear n0_ n1_ n2_ n3_
      have n0_ := am_ (blk_drew BK174.out)
      have n1_ := am_ (blk_drew BK175.out)
      have n2_ := am_ (blk_drew BK177.out)
      have n3_ := am_ (below_drew1 HB.out)
      clear BK174
      clear BK175
      clear BK177
      clear HB
      have BK174 := n0_
      have BK175 := n1_
      have BK177 := n2_
      have HB := n3_
      clear n0_ n1_ n2_ n3_
      refine start_ (n := 5) (S := fun w' => w'.cell? ⟨gb174, 0, none⟩ = some (.int .i64 x175000_1) ∧ w'.cell? ⟨gb174, 1, none⟩ = some (.int .i64 x175001_1) ∧ w'.cell? ⟨gb174, 2, none⟩ = some (.string x175002_1) ∧ w'.cell? ⟨gb174, 3, none⟩ = some (.int .i64 x175003_1) ∧ w'.cell? ⟨gb174, 4, none⟩ = some (.int .i64 x175004_1) ∧ w'.cell? ⟨gb174, 5, none⟩ = some (.string x175005_1) ∧ w'.cell? ⟨gb174, 6, none⟩ = some (.int .i64 x175006_1) ∧ w'.cell? ⟨gb174, 7, none⟩ = some (.int .i64 x175007_1) ∧ w'.cell? ⟨gb177, 0, none⟩ = some (.int .i64 ((rd_T23 l1 x9_1).f0)) ∧ w'.cell? ⟨gb177, 1, none⟩ = some (.int .i64 ((rd_T23 l1 x9_1).f1)) ∧ w'.cell? ⟨gb177, 2, none⟩ = some (.string ((rd_T23 l1 x9_1).f2))) (ds := [4]) #[false, false, false, false, false] (by kernel_rfl) rfl rfl ⟨(blk_cell BK174.out 0).trans rfl, (blk_cell BK174.out 1).trans rfl, (blk_cell BK174.out 2).trans rfl, (blk_cell BK174.out 3).trans rfl, (blk_cell BK174.out 4).trans rfl, (blk_cell BK174.out 5).trans rfl, (blk_cell BK174.out 6).trans rfl, (blk_cell BK174.out 7).trans rfl, (blk_cell BK177.out 0).trans rfl, (blk_cell BK177.out 1).trans rfl, (blk_cell BK177.out 2).trans rfl⟩ (fun hHeld => ?_)
      generalize w14.drew = w15 at BK174 BK175 BK177 HB hHeld ⊢
      refine take_ (i := 0) (N := some 13) (v := ?_) (a' := ?_) #[true, false, false, false, false] rfl rfl (by kernel_rfl) (fun _ _ _ h => h) (Or.inl ⟨by rfl, ?_⟩) hHeld ?_ ?_
      rotate_left
      ·rintro w' ⟨s0, s1, s2, s3, s4, s5, s6, s7, s8, s9, s10⟩
       go_simp
       with_reducible rfl
      rotate_left
      ·simp only [Act.put, List.setIfInBounds_toArray, List.set_cons_zero, List.set_cons_succ, i64_w, i32_w]
       rfl
      refine take_ (i := 1) (N := some 14) (v := ?_) (a' := ?_) #[true, true, false, false, false] rfl rfl (by kernel_rfl) (fun _ _ _ h => h) (Or.inl ⟨by rfl, ?_⟩) hHeld ?_ ?_
      rotate_left
      ·rintro w' ⟨s0, s1, s2, s3, s4, s5, s6, s7, s8, s9, s10⟩
       go_simp
       with_reducible rfl
      rotate_left
      ·simp only [Act.put, List.setIfInBounds_toArray, List.set_cons_zero, List.set_cons_succ, i64_w, i32_w]
       rfl
      refine one_ (i := 2) (N := some 15) #[true, true, true, false, false] rfl rfl (by kernel_rfl) (by decide) (fun K hK => ?_)
      refine goes_ Tryd.func113 (by kernel_rfl) rfl #[.agg #[.int .i64 ((rd_T23 l1 x9_1).f0), .int .i64 ((rd_T23 l1 x9_1).f1), .string ((rd_T23 l1 x9_1).f2)]] (by rfl) rfl rfl (by (try simp only [List.map_toArray, List.map_cons, List.map_nil]); first | done | rfl | (simp only [List.length_drop, List.length_take]; rfl)) ?_
      with_reducible refine (span_one.calls ((rd_T23 l1 x9_1).f0) ((rd_T23 l1 x9_1).f1) ((rd_T23 l1 x9_1).f2) t178 t179 t180 t181 t182 t183 t184 t185 _ A8.out).mono ?_
      rintro e w16 ⟨rfl, hb⟩
      refine ⟨_, rfl, ?_⟩
      have n0_ := am_ (blk_below (g := gb174) (o := .cells #[.int .i64 x175000_1, .int .i64 x175001_1, .string x175002_1, .int .i64 x175003_1, .int .i64 x175004_1, .string x175005_1, .int .i64 x175006_1, .int .i64 x175007_1] 106 (0, 0)) (bk_ BK174.out) hb)
      have n1_ := am_ (blk_below (g := gb175) (o := .cells #[.int .i64 0, .int .i64 0, .string (⟨#[]⟩ : ByteArray), .int .i64 0, .int .i64 0, .string (⟨#[]⟩ : ByteArray), .int .i64 0, .int .i64 0] 106 (0, 0)) (bk_ BK175.out) hb)
      have n2_ := am_ (blk_below (g := gb177) (o := .cells #[.int .i64 ((rd_T23 l1 x9_1).f0), .int .i64 ((rd_T23 l1 x9_1).f1), .string ((rd_T23 l1 x9_1).f2)] 23 (0, 0)) (bk_ BK177.out) hb)
      have n3_ := am_ (below_step (bl_) hb)
      clear BK174
      clear BK175
      clear BK177
      clear HB
      have BK174 := n0_
      have BK175 := n1_
      have BK177 := n2_
      have HB := n3_
      clear n0_ n1_ n2_ n3_
      (try clear hb)
      (try clear hb2)
      (try clear hk)
      (try clear hi)
      refine hK.out _ _ ⟨(blk_cell BK174.out 0).trans rfl, (blk_cell BK174.out 1).trans rfl, (blk_cell BK174.out 2).trans rfl, (blk_cell BK174.out 3).trans rfl, (blk_cell BK174.out 4).trans rfl, (blk_cell BK174.out 5).trans rfl, (blk_cell BK174.out 6).trans rfl, (blk_cell BK174.out 7).trans rfl, (blk_cell BK177.out 0).trans rfl, (blk_cell BK177.out 1).trans rfl, (blk_cell BK177.out 2).trans rfl⟩ (fun hHeld => ?_)
      clear hK K
      refine norm_ (a' := ?_) ?_ ?_
      rotate_left
      ·show Act.put _ (some 15) _ = _
       simp only [Act.put, List.setIfInBounds_toArray, List.set_cons_zero, List.set_cons_succ, i64_w, i32_w]
       rfl
      refine one_ (i := 3) (N := some 16) #[true, true, true, true, false] rfl rfl (by kernel_rfl) (by decide) (fun K hK => ?_)
      refine goes_ Tryd.func84 (by kernel_rfl) rfl #[.agg #[.int .i64 x175000_1, .int .i64 x175001_1, .string x175002_1, .int .i64 x175003_1, .int .i64 x175004_1, .string x175005_1, .int .i64 x175006_1, .int .i64 x175007_1], .agg #[.int .i64 t178, .int .i64 t179, .string t180, .int .i64 t181, .int .i64 t182, .string t183, .int .i64 t184, .int .i64 t185]] (by rfl) rfl rfl (by (try simp only [List.map_toArray, List.map_cons, List.map_nil]); first | done | rfl | (simp only [List.length_drop, List.length_take]; rfl)) ?_
      with_reducible refine (span_Union.calls k1 x175000_1 x175001_1 x175002_1 x175003_1 x175004_1 x175005_1 x175006_1 x175007_1 t178 t179 t180 t181 t182 t183 t184 t185 t186 t187 t188 t189 t190 t191 t192 t193 _ A9.out).mono ?_
      rintro e w17 ⟨rfl, hb⟩
      refine ⟨_, rfl, ?_⟩
      have n0_ := am_ (blk_below (g := gb174) (o := .cells #[.int .i64 x175000_1, .int .i64 x175001_1, .string x175002_1, .int .i64 x175003_1, .int .i64 x175004_1, .string x175005_1, .int .i64 x175006_1, .int .i64 x175007_1] 106 (0, 0)) (bk_ BK174.out) hb)
      have n1_ := am_ (blk_below (g := gb175) (o := .cells #[.int .i64 0, .int .i64 0, .string (⟨#[]⟩ : ByteArray), .int .i64 0, .int .i64 0, .string (⟨#[]⟩ : ByteArray), .int .i64 0, .int .i64 0] 106 (0, 0)) (bk_ BK175.out) hb)
      have n2_ := am_ (blk_below (g := gb177) (o := .cells #[.int .i64 ((rd_T23 l1 x9_1).f0), .int .i64 ((rd_T23 l1 x9_1).f1), .string ((rd_T23 l1 x9_1).f2)] 23 (0, 0)) (bk_ BK177.out) hb)
      have n3_ := am_ (below_step (bl_) hb)
      clear BK174
      clear BK175
      clear BK177
      clear HB
      have BK174 := n0_
      have BK175 := n1_
      have BK177 := n2_
      have HB := n3_
      clear n0_ n1_ n2_ n3_
      (try clear hb)
      (try clear hb2)
      (try clear hk)
      (try clear hi)
      refine hK.out _ _ ⟨(blk_cell BK174.out 0).trans rfl, (blk_cell BK174.out 1).trans rfl, (blk_cell BK174.out 2).trans rfl, (blk_cell BK174.out 3).trans rfl, (blk_cell BK174.out 4).trans rfl, (blk_cell BK174.out 5).trans rfl, (blk_cell BK174.out 6).trans rfl, (blk_cell BK174.out 7).trans rfl, (blk_cell BK177.out 0).trans rfl, (blk_cell BK177.out 1).trans rfl, (blk_cell BK177.out 2).trans rfl⟩ (fun hHeld => ?_)
      clear hK K
      refine norm_ (a' := ?_) ?_ ?_
      rotate_left
      ·show Act.put _ (some 16) _ = _
       simp only [Act.put, List.setIfInBounds_toArray, List.set_cons_zero, List.set_cons_succ, i64_w, i32_w]
       rfl
      refine last_ (i := 4) (N := none) #[true, true, true, true, true] rfl rfl (by kernel_rfl) (by decide) (fun K hK => ?_)
      have hs18 : w17.cell? ⟨gb174, 0, none⟩ = some (.int .i64 x175000_1) := (blk_cell BK174.out 0).trans rfl
      have hfs18 := blk_frozen BK174.out 0
      have hns18_1 := NB175_174.out
      have hns18_2 := NB177_174.out
      have hms18_1 := NB174_175.out
      have hms18_2 := NB174_177.out
      have hs19 : w17.cell? ⟨gb174, 1, none⟩ = some (.int .i64 x175001_1) := (blk_cell BK174.out 1).trans rfl
      have hfs19 := blk_frozen BK174.out 1
      have hns19_1 := NB175_174.out
      have hns19_2 := NB177_174.out
      have hms19_1 := NB174_175.out
      have hms19_2 := NB174_177.out
      have hs20 : w17.cell? ⟨gb174, 2, none⟩ = some (.string x175002_1) := (blk_cell BK174.out 2).trans rfl
      have hfs20 := blk_frozen BK174.out 2
      have hns20_1 := NB175_174.out
      have hns20_2 := NB177_174.out
      have hms20_1 := NB174_175.out
      have hms20_2 := NB174_177.out
      have hs21 : w17.cell? ⟨gb174, 3, none⟩ = some (.int .i64 x175003_1) := (blk_cell BK174.out 3).trans rfl
      have hfs21 := blk_frozen BK174.out 3
      have hns21_1 := NB175_174.out
      have hns21_2 := NB177_174.out
      have hms21_1 := NB174_175.out
      have hms21_2 := NB174_177.out
      have hs22 : w17.cell? ⟨gb174, 4, none⟩ = some (.int .i64 x175004_1) := (blk_cell BK174.out 4).trans rfl
      have hfs22 := blk_frozen BK174.out 4
      have hns22_1 := NB175_174.out
      have hns22_2 := NB177_174.out
      have hms22_1 := NB174_175.out
      have hms22_2 := NB174_177.out
      have hs23 : w17.cell? ⟨gb174, 5, none⟩ = some (.string x175005_1) := (blk_cell BK174.out 5).trans rfl
      have hfs23 := blk_frozen BK174.out 5
      have hns23_1 := NB175_174.out
      have hns23_2 := NB177_174.out
      have hms23_1 := NB174_175.out
      have hms23_2 := NB174_177.out
      have hs24 : w17.cell? ⟨gb174, 6, none⟩ = some (.int .i64 x175006_1) := (blk_cell BK174.out 6).trans rfl
      have hfs24 := blk_frozen BK174.out 6
      have hns24_1 := NB175_174.out
      have hns24_2 := NB177_174.out
      have hms24_1 := NB174_175.out
      have hms24_2 := NB174_177.out
      have hs25 : w17.cell? ⟨gb174, 7, none⟩ = some (.int .i64 x175007_1) := (blk_cell BK174.out 7).trans rfl
      have hfs25 := blk_frozen BK174.out 7
      have hns25_1 := NB175_174.out
      have hns25_2 := NB177_174.out
      have hms25_1 := NB174_175.out
      have hms25_2 := NB174_177.out
      refine skip_ (w1 := ?_) (by rfl) rfl ?_ ?_
      rotate_left
      ·go_simp
       rfl
      refine hK.out _ _ ?_
      clear hK K
      refine done_ (by kernel_rfl) ?_
      try go_wp2
      go_roundg k1
      case measure => have := HK1.out; omega
      case rel => exact ⟨(wrap64 (x9_1 + 1)), (t186), (t187), (t188), (t189), (t190), (t191), (t192), (t193), (rs_), H', ⟨by have := HK1.out; omega⟩, ⟨by refine bp_ ?_; refine blk_put (cs := #[.int .i64 t186, .int .i64 t187, .string t188, .int .i64 t189, .int .i64 t190, .string t191, .int .i64 t192, .int .i64 x175007_1]) ?_ 7 _ rfl; refine bp_ ?_; refine blk_put (cs := #[.int .i64 t186, .int .i64 t187, .string t188, .int .i64 t189, .int .i64 t190, .string t191, .int .i64 x175006_1, .int .i64 x175007_1]) ?_ 6 _ rfl; refine bp_ ?_; refine blk_put (cs := #[.int .i64 t186, .int .i64 t187, .string t188, .int .i64 t189, .int .i64 t190, .string x175005_1, .int .i64 x175006_1, .int .i64 x175007_1]) ?_ 5 _ rfl; refine bp_ ?_; refine blk_put (cs := #[.int .i64 t186, .int .i64 t187, .string t188, .int .i64 t189, .int .i64 x175004_1, .string x175005_1, .int .i64 x175006_1, .int .i64 x175007_1]) ?_ 4 _ rfl; refine bp_ ?_; refine blk_put (cs := #[.int .i64 t186, .int .i64 t187, .string t188, .int .i64 x175003_1, .int .i64 x175004_1, .string x175005_1, .int .i64 x175006_1, .int .i64 x175007_1]) ?_ 3 _ rfl; refine bp_ ?_; refine blk_put (cs := #[.int .i64 t186, .int .i64 t187, .string x175002_1, .int .i64 x175003_1, .int .i64 x175004_1, .string x175005_1, .int .i64 x175006_1, .int .i64 x175007_1]) ?_ 2 _ rfl; refine bp_ ?_; refine blk_put (cs := #[.int .i64 t186, .int .i64 x175001_1, .string x175002_1, .int .i64 x175003_1, .int .i64 x175004_1, .string x175005_1, .int .i64 x175006_1, .int .i64 x175007_1]) ?_ 1 _ rfl; refine bp_ ?_; refine blk_put (cs := #[.int .i64 x175000_1, .int .i64 x175001_1, .string x175002_1, .int .i64 x175003_1, .int .i64 x175004_1, .string x175005_1, .int .i64 x175006_1, .int .i64 x175007_1]) ?_ 0 _ rfl; refine bp_ ?_; exact BK174.out⟩, ⟨by refine bp_ ?_; refine blk_far ?_ NB175_174.out _; refine bp_ ?_; refine blk_far ?_ NB175_174.out _; refine bp_ ?_; refine blk_far ?_ NB175_174.out _; refine bp_ ?_; refine blk_far ?_ NB175_174.out _; refine bp_ ?_; refine blk_far ?_ NB175_174.out _; refine bp_ ?_; refine blk_far ?_ NB175_174.out _; refine bp_ ?_; refine blk_far ?_ NB175_174.out _; refine bp_ ?_; refine blk_far ?_ NB175_174.out _; refine bp_ ?_; exact BK175.out⟩, ⟨bl_⟩⟩
     ·rw [if_neg c7] at H
      exact absurd H (by simp)
    ·rw [if_neg c6] at H
     exact absurd H (by simp)
   ·rw [if_neg c5] at H
    have c5b0 : decide (x9_1 < (l1.length : Int)) = false := decide_eq_false c5
    clear c5
    simp only [Option.some.injEq, Prod.mk.injEq] at H
    obtain ⟨rfl, rfl, rfl, rfl, rfl, rfl, rfl, rfl⟩ := H
    have hnb26 := NB174_175.out
    have hnc26 := NB175_174.out
    have hcz27_0 : wr.cell? ⟨gb174, 0, none⟩ = some (.int .i64 x175000_1) := (blk_cell BK174.out 0).trans rfl
    have hcz27_1 : wr.cell? ⟨gb174, 1, none⟩ = some (.int .i64 x175001_1) := (blk_cell BK174.out 1).trans rfl
    have hcz27_2 : wr.cell? ⟨gb174, 2, none⟩ = some (.string x175002_1) := (blk_cell BK174.out 2).trans rfl
    have hcz27_3 : wr.cell? ⟨gb174, 3, none⟩ = some (.int .i64 x175003_1) := (blk_cell BK174.out 3).trans rfl
    have hcz27_4 : wr.cell? ⟨gb174, 4, none⟩ = some (.int .i64 x175004_1) := (blk_cell BK174.out 4).trans rfl
    have hcz27_5 : wr.cell? ⟨gb174, 5, none⟩ = some (.string x175005_1) := (blk_cell BK174.out 5).trans rfl
    have hcz27_6 : wr.cell? ⟨gb174, 6, none⟩ = some (.int .i64 x175006_1) := (blk_cell BK174.out 6).trans rfl
    have hcz27_7 : wr.cell? ⟨gb174, 7, none⟩ = some (.int .i64 x175007_1) := (blk_cell BK174.out 7).trans rfl
    have hfz27_0 := blk_frozen BK174.out 0
    have hfz27_1 := blk_frozen BK174.out 1
    have hfz27_2 := blk_frozen BK174.out 2
    have hfz27_3 := blk_frozen BK174.out 3
    have hfz27_4 := blk_frozen BK174.out 4
    have hfz27_5 := blk_frozen BK174.out 5
    have hfz27_6 := blk_frozen BK174.out 6
    have hfz27_7 := blk_frozen BK174.out 7
    have hcz28_0 : wr.cell? ⟨gb175, 0, none⟩ = some (.int .i64 0) := (blk_cell BK175.out 0).trans rfl
    have hcz28_1 : wr.cell? ⟨gb175, 1, none⟩ = some (.int .i64 0) := (blk_cell BK175.out 1).trans rfl
    have hcz28_2 : wr.cell? ⟨gb175, 2, none⟩ = some (.string (⟨#[]⟩ : ByteArray)) := (blk_cell BK175.out 2).trans rfl
    have hcz28_3 : wr.cell? ⟨gb175, 3, none⟩ = some (.int .i64 0) := (blk_cell BK175.out 3).trans rfl
    have hcz28_4 : wr.cell? ⟨gb175, 4, none⟩ = some (.int .i64 0) := (blk_cell BK175.out 4).trans rfl
    have hcz28_5 : wr.cell? ⟨gb175, 5, none⟩ = some (.string (⟨#[]⟩ : ByteArray)) := (blk_cell BK175.out 5).trans rfl
    have hcz28_6 : wr.cell? ⟨gb175, 6, none⟩ = some (.int .i64 0) := (blk_cell BK175.out 6).trans rfl
    have hcz28_7 : wr.cell? ⟨gb175, 7, none⟩ = some (.int .i64 0) := (blk_cell BK175.out 7).trans rfl
    have hfz28_0 := blk_frozen BK175.out 0
    have hfz28_1 := blk_frozen BK175.out 1
    have hfz28_2 := blk_frozen BK175.out 2
    have hfz28_3 := blk_frozen BK175.out 3
    have hfz28_4 := blk_frozen BK175.out 4
    have hfz28_5 := blk_frozen BK175.out 5
    have hfz28_6 := blk_frozen BK175.out 6
    have hfz28_7 := blk_frozen BK175.out 7
    go_wp2
    refine bodyPost_ret (results_cell_row rfl _ _ gb175 106 #[.int .i64 x175000_1, .int .i64 x175001_1, .string x175002_1, .int .i64 x175003_1, .int .i64 x175004_1, .string x175005_1, .int .i64 x175006_1, .int .i64 x175007_1] (0, 0) _ rfl (by refine bp_ ?_; refine blk_put (cs := #[.int .i64 x175000_1, .int .i64 x175001_1, .string x175002_1, .int .i64 x175003_1, .int .i64 x175004_1, .string x175005_1, .int .i64 x175006_1, .int .i64 0]) ?_ 7 _ rfl; refine bp_ ?_; refine blk_put (cs := #[.int .i64 x175000_1, .int .i64 x175001_1, .string x175002_1, .int .i64 x175003_1, .int .i64 x175004_1, .string x175005_1, .int .i64 0, .int .i64 0]) ?_ 6 _ rfl; refine bp_ ?_; refine blk_put (cs := #[.int .i64 x175000_1, .int .i64 x175001_1, .string x175002_1, .int .i64 x175003_1, .int .i64 x175004_1, .string (⟨#[]⟩ : ByteArray), .int .i64 0, .int .i64 0]) ?_ 5 _ rfl; refine bp_ ?_; refine blk_put (cs := #[.int .i64 x175000_1, .int .i64 x175001_1, .string x175002_1, .int .i64 x175003_1, .int .i64 0, .string (⟨#[]⟩ : ByteArray), .int .i64 0, .int .i64 0]) ?_ 4 _ rfl; refine bp_ ?_; refine blk_put (cs := #[.int .i64 x175000_1, .int .i64 x175001_1, .string x175002_1, .int .i64 0, .int .i64 0, .string (⟨#[]⟩ : ByteArray), .int .i64 0, .int .i64 0]) ?_ 3 _ rfl; refine bp_ ?_; refine blk_put (cs := #[.int .i64 x175000_1, .int .i64 x175001_1, .string (⟨#[]⟩ : ByteArray), .int .i64 0, .int .i64 0, .string (⟨#[]⟩ : ByteArray), .int .i64 0, .int .i64 0]) ?_ 2 _ rfl; refine bp_ ?_; refine blk_put (cs := #[.int .i64 x175000_1, .int .i64 0, .string (⟨#[]⟩ : ByteArray), .int .i64 0, .int .i64 0, .string (⟨#[]⟩ : ByteArray), .int .i64 0, .int .i64 0]) ?_ 1 _ rfl; refine bp_ ?_; refine blk_put (cs := #[.int .i64 0, .int .i64 0, .string (⟨#[]⟩ : ByteArray), .int .i64 0, .int .i64 0, .string (⟨#[]⟩ : ByteArray), .int .i64 0, .int .i64 0]) ?_ 0 _ rfl; refine bp_ ?_; exact BK175.out) Tryd.underlying106 rfl (by kernel_rfl)) rfl ?_
    exact ⟨ew_, bl_⟩

def slices_Clone_uint64_uint64.f (l0 : List Int) : Option (List Int) := (some (([] : List Int) : List Int)).bind fun y194 => (if y194.length + l0.length < 17592186044416 then (some (y194 ++ l0)) else (none))
set_option maxHeartbeats 8000000 in
set_option maxRecDepth 100000 in
theorem slices_Clone_uint64_uint64.calls (A0 : Option Addr) (c0 : Nat) (l0 : List Int) (r : List Int) (w : World) (hr0 : Kd.C (Kd.int .u64) w A0 l0.length l0) (hc0 : l0.length ≤ c0) (h : slices_Clone_uint64_uint64.f l0 = some r) :
  Calls Tryd.prog 114 #[.slice A0 l0.length c0] w fun e w' => ∃ v0_ : Value, e = .returned (v0_) ∧ Kd.R (Kd.int .u64) 28 w' w.heap.size (fun _ => True) v0_ r ∧ Below w.heap.size w w' := by
 cases A0 with
 | none =>
  obtain rfl : l0 = [] := by
   rcases l0 with _ | ⟨x_, l_⟩
   ·rfl
   ·(first | (obtain ⟨ad_, e_, _⟩ := hr0.2.2 (by simp)) | (obtain ⟨ad_, e_, _⟩ := (Kd.V_reads' hs0).2.2.2.2 (by simp)))
    cases e_
  obtain rfl : r = [] := by
   unfold slices_Clone_uint64_uint64.f at h
   simpa using h.symm
  have hn_ : ∀ (W_ : World) (n_ c_ : Nat), (binOp .eql 45 (.slice none n_ c_) (.slice none 0 0)).run Tryd.prog W_ = .ok (.bool true) W_ := fun W_ n_ c_ => Lib.run_eql_slice_nil W_ 45 28 none n_ c_ 0 0 Tryd.underlying45
  go_enter Tryd.func114, Tryd.ntmps114
  go_wp2
  go_ret
  exact ⟨_, rfl, by first | exact Kd.R_nil _ _ _ _ _ | exact Kd.S_nil _ _ _ _ _ | exact Kd.N_nil _ _ _ _ _, Below.refl _ _⟩
 | some ad0 =>
 have hn_ : ∀ (W_ : World) (n_ c_ : Nat), (binOp .eql 45 (.slice (some ad0) n_ c_) (.slice none 0 0)).run Tryd.prog W_ = .ok (.bool false) W_ := fun W_ n_ c_ => Lib.run_eql_slice_nil W_ 45 28 (some ad0) n_ c_ 0 0 Tryd.underlying45
 have HR0 := am_ hr0
 have HC0 := am_ hc0
 clear hr0 hc0
 have HB := am_ (Below.refl w.heap.size w)
 have H : ((some (([] : List Int) : List Int)).bind fun y194 => (if y194.length + l0.length < 17592186044416 then (some (y194 ++ l0)) else (none))) = some r := h
 clear h
 obtain ⟨y194, hy194⟩ : ∃ y_ : List Int, y_ = (([] : List Int)) := ⟨_, rfl⟩
 replace H : (if y194.length + l0.length < 17592186044416 then (some (y194 ++ l0)) else (none)) = some r := by first | (rw [hy194]; with_reducible exact H) | (have H2_ := (Option.bind_some _ _).symm.trans H; rw [hy194]; with_reducible exact H2_) | (have H2_ := (Option.bind_some _ _).symm.trans H; with_reducible exact H2_) | with_reducible exact H | (rw [hy194]; exact H) | exact H
 have Ny194 := am_ hy194
 clear hy194
 by_cases c2 : y194.length + l0.length < 17592186044416
 ·rw [if_pos c2] at H
  have LMc2 := am_ c2
  clear c2
  obtain ⟨y197, hy197⟩ : ∃ y_ : List Int, y_ = (y194 ++ l0) := ⟨_, rfl⟩
  replace H : (some y197) = some r := by first | (rw [hy197]; with_reducible exact H) | (have H2_ := (Option.bind_some _ _).symm.trans H; rw [hy197]; with_reducible exact H2_) | (have H2_ := (Option.bind_some _ _).symm.trans H; with_reducible exact H2_) | with_reducible exact H | (rw [hy197]; exact H) | exact H
  have Ny197 := am_ hy197
  clear hy197
  obtain rfl := Option.some.inj H
  go_enter Tryd.func114, Tryd.ntmps114
  go_wp2_with (first | ((with_reducible refine gate_dst (N := 5) rfl ?_); refine Kd.R_lit (Kd.int .u64) _ 28 ?hg (N := 5) ?hd (xs := ([] : List Int)) (inner := []) (ok := fun _ => True) (okp := fun _ => True) ?hr ?hp (fun _ hk => hk) trivial (Below.refl _ _) (Nat.le_refl _) (by simp) ?_; (case hd => rfl); (case hg => rfl); (case hr => first | (go_simp; done) | (go_simp; rfl)); (case hp => exact (Reps.none _ _)); intro v195 w3 ho4 hb hg_ hnew_; clear hg_ hnew_; (first | rw [← Ny194.out] at ho4 | (simp only [Int.reduceToNat] at ho4; rw [← Ny194.out] at ho4)); have HO196 := am_ (Kd.R_lower ho4 (below_size (bl_))); replace HB := am_ (below_step (bl_) hb); clear hb ho4) | ((with_reducible refine gate_builtin (b := .append) (xs := #[.tmp 5, .tmp 6]) rfl ?_); at_builtin; refine Kd.R_append_rows (Kd.int .u64) (w0 := w) w.heap.size rfl (.tmp 5) (.tmp 6) 45 28 (.int .u64 0) 8 rfl Tryd.underlying45 info28 rfl (by decide) (by omega) v195 y194 l0 _ _ _ (fun _ => True) (fun _ => False) rfl rfl ?aO ?aR (fun _ _ h => h) (fun _ h => h.elim) ?aF ?aB ?aS ?aL ?_; (case aR => repeat (first | exact (Kd.C_below HR0.out HB.out) | (with_reducible refine Kd.C_alloc ?_ _) | (with_reducible refine Kd.C_drewN ?_ _) | (with_reducible refine Kd.C_drew ?_))); (case aB => exact (bl_)); (case aF => exact (fun _ _ => trivial)); (case aO => exact (kr_ HO196.out)); (case aS => exact (below_size (bl_))); (case aL => have := LMc2.out; omega); intro v198 w5 ho hb hg hat; rw [← Ny197.out] at ho; have HO199 := am_ (ho); replace HB := am_ (hb); clear HO196; clear ho hb hg hat))
  go_ret
  exact ⟨_, ew_, kr_ HO199.out, bl_⟩
 ·rw [if_neg c2] at H
  exact absurd H (by simp)

def bloom_Add.l0 : Nat → List Int → Int → Int → List Int → Int → Option (List Int × Int)
 | 0, _, _, _, _, _ => none
 | k + 1, x18, x19, x20, x201000, x201001 => if x20 < x19 then (if 0 ≤ x20 then (if x20 < (x18.length : Int) then ((bloom_mask.f k x201000 x201001 (rd x18 x20)).bind fun bt206 => (if 0 ≤ bt206.1 then (if bt206.1 < (x201000.length : Int) then (bloom_Add.l0 k x18 x19 (wrap64 (x20 + 1)) (x201000.set (bt206.1 : Int).toNat (Go.bits .or .u64 (rd x201000 bt206.1) bt206.2)) x201001) else (none)) else (none))) else (none)) else (none)) else (some (x201000, x201001))
def bloom_Add.f (k : Nat) (l0_0 : List Int) (a0_1 : Int) (l1 : List Int) : Option (List Int × Int) := if (l0_0.length : Int) = 0 then (some (l0_0, a0_1)) else ((slices_Clone_uint64_uint64.f l0_0).bind fun t202 => (bloom_Add.l0 k l1 (l1.length : Int) 0 t202 a0_1))
theorem bloom_Add.mono_l : ∀ k, (∀ y0 y1 y2 y3 y4, LeO (bloom_Add.l0 k y0 y1 y2 y3 y4) (bloom_Add.l0 (k + 1) y0 y1 y2 y3 y4))
 | 0 => fun _ _ _ _ _ r h => by simp [bloom_Add.l0] at h
 | k + 1 => by
  have ih0 := bloom_Add.mono_l k
  ·intro y0 y1 y2 y3 y4
   unfold bloom_Add.l0
   repeat' first
   | (with_reducible exact ih0 _ _ _ _ _)
   | (with_reducible exact bloom_mask.mono _ _ _ _)
   | (with_reducible exact LeO.refl _)
   | (with_reducible exact LeO.none _)
   | (with_reducible refine LeO.ite ?_ ?_)
   | (with_reducible refine LeO.bind ?_ (fun _ => ?_))
   | exact ih0 _ _ _ _ _
   | exact bloom_mask.mono _ _ _ _
   | exact LeO.none _
   | refine LeO.ite ?_ ?_
   | refine LeO.bind ?_ (fun _ => ?_)
theorem bloom_Add.mono : ∀ a0 a1 a2 k, LeO (bloom_Add.f k a0 a1 a2) (bloom_Add.f (k + 1) a0 a1 a2) := by
 intro a0 a1 a2 k
 have ih0 := bloom_Add.mono_l k
 unfold bloom_Add.f
 repeat' first
   | (with_reducible exact ih0 _ _ _ _ _)
   | (with_reducible exact bloom_mask.mono _ _ _ _)
   | (with_reducible exact LeO.refl _)
   | (with_reducible exact LeO.none _)
   | (with_reducible refine LeO.ite ?_ ?_)
   | (with_reducible refine LeO.bind ?_ (fun _ => ?_))
   | exact ih0 _ _ _ _ _
   | exact bloom_mask.mono _ _ _ _
   | exact LeO.none _
   | refine LeO.ite ?_ ?_
   | refine LeO.bind ?_ (fun _ => ?_)
set_option maxHeartbeats 8000000 in
set_option maxRecDepth 100000 in
theorem bloom_Add.calls (k : Nat) (P0_0_ : Nat → Prop) (A0_0 : Option Addr) (c0_0 : Nat) (l0_0 : List Int) (a0_1 : Int) (A1 : Option Addr) (c1 : Nat) (l1 : List Int) (r1 : List Int) (r2 : Int) (w : World) (hs0_0 : Kd.V (Kd.int .u64) 28 w w.heap.size (fun k_ => P0_0_ k_) (.slice A0_0 l0_0.length c0_0) l0_0) (hr1 : Kd.C (Kd.int .u64) w A1 l1.length l1) (hc1 : l1.length ≤ c1) (h : bloom_Add.f k l0_0 a0_1 l1 = some (r1, r2)) :
  Calls Tryd.prog 72 #[.agg #[.slice A0_0 l0_0.length c0_0, .int .i64 a0_1], .slice A1 l1.length c1] w fun e w' => ∃ v0_ : Value, e = .returned (.agg #[v0_, .int .i64 r2]) ∧ Kd.V (Kd.int .u64) 28 w' w.heap.size (fun k_ => (P0_0_ k_ ∨ w.heap.size ≤ k_)) v0_ r1 ∧ Below w.heap.size w w' := by
 have hu47 := Tryd.underlying47
 have HO0_0 := am_ (show Kd.V (Kd.int .u64) 28 w w.heap.size (fun k_ => (P0_0_ k_ ∨ w.heap.size ≤ k_)) (.slice A0_0 l0_0.length c0_0) l0_0 from Kd.V_mono hs0_0 (fun k_ hk => .inl hk))
 have HR1 := am_ hr1
 have HC1 := am_ hc1
 clear hr1 hc1
 have HB := am_ (Below.refl w.heap.size w)
 have H : (if (l0_0.length : Int) = 0 then (some (l0_0, a0_1)) else ((slices_Clone_uint64_uint64.f l0_0).bind fun t202 => (bloom_Add.l0 k l1 (l1.length : Int) 0 t202 a0_1))) = some (r1, r2) := h
 clear h
 by_cases c3 : (l0_0.length : Int) = 0
 ·rw [if_pos c3] at H
  have c3b0 : ((l0_0.length : Int) == 0) = true := beq_iff_eq.mpr c3
  have c3b1 : ((l0_0.length : Int) != 0) = false := bne_eq_false_iff_eq.mpr c3
  clear c3
  simp only [Option.some.injEq, Prod.mk.injEq] at H
  obtain ⟨rfl, rfl⟩ := H
  go_enter Tryd.func72, Tryd.ntmps72
  go_wp2_with (first | ((with_reducible refine gate_dst (N := 2) rfl ?_); refine box_event ?hg (N := 2) ?hd (cs := #[.slice A0_0 l0_0.length c0_0, .int .i64 a0_1]) (t := 47) ?hr ?_; (case hd => rfl); (case hg => rfl); (case hr => first | (go_simp; done) | (go_simp; rfl)); intro gb200 hg w4 hbox hb; replace HO0_0 := am_ (Kd.V_below (Kd.V_elderB (kv_ HO0_0.out) gb200 (Nat.le_of_eq hg.symm)) hb); have BK200 := am_ (hbox); have GW200 := am_ ((by rw [hg]; exact (below_size (bl_)) : w.heap.size ≤ gb200)); have GE200 := am_ ((by rw [hg]; exact (below_size (bl_)) : w.heap.size ≤ gb200)); replace HB := am_ (below_step (bl_) hb); clear hb hbox hg) | ((with_reducible refine gate_dst (N := 4) rfl ?_); refine box_event ?hg (N := 4) ?hd (cs := #[.slice none 0 0, .int .i64 0]) (t := 47) ?hr ?_; (case hd => rfl); (case hg => rfl); (case hr => first | (go_simp; done) | (go_simp; rfl)); intro gb201 hg w5 hbox hb; have n0_ := am_ (Kd.V_below (Kd.V_elderB (kv_ HO0_0.out) gb201 (Nat.le_of_eq hg.symm)) hb); have n1_ := am_ (blk_below (g := gb200) (o := .cells #[.slice A0_0 l0_0.length c0_0, .int .i64 a0_1] 47 (0, 0)) (bk_ BK200.out) hb); have n2_ := am_ (below_step (bl_) hb); have n3_ := am_ (hbox); have n4_ := am_ ((by rw [hg]; exact (below_size (bl_)) : w.heap.size ≤ gb201)); have n5_ := am_ ((by rw [hg]; exact (below_size (bl_)) : w.heap.size ≤ gb201)); have n6_ := am_ ((by rw [hg]; exact Nat.ne_of_lt (blk_lt (g := gb200) (o := .cells #[.slice A0_0 l0_0.length c0_0, .int .i64 a0_1] 47 (0, 0)) (bk_ BK200.out)) : gb200 ≠ gb201)); have n7_ := am_ ((by rw [hg]; exact Nat.ne_of_gt (blk_lt (g := gb200) (o := .cells #[.slice A0_0 l0_0.length c0_0, .int .i64 a0_1] 47 (0, 0)) (bk_ BK200.out)) : gb201 ≠ gb200)); clear HO0_0; clear BK200; clear HB; have HO0_0 := n0_; have BK200 := n1_; have HB := n2_; have BK201 := n3_; have GW201 := n4_; have GE201 := n5_; have NB200_201 := n6_; have NB201_200 := n7_; clear n0_ n1_ n2_ n3_ n4_ n5_ n6_ n7_; clear hb hbox hg; have hnb6 := NB200_201.out; have hnc6 := NB201_200.out; have hcz7_0 : w5.cell? ⟨gb200, 0, none⟩ = some (.slice A0_0 l0_0.length c0_0) := (blk_cell BK200.out 0).trans rfl; have hcz7_1 : w5.cell? ⟨gb200, 1, none⟩ = some (.int .i64 a0_1) := (blk_cell BK200.out 1).trans rfl; have hfz7_0 := blk_frozen BK200.out 0; have hfz7_1 := blk_frozen BK200.out 1; have hcz8_0 : w5.cell? ⟨gb201, 0, none⟩ = some (.slice none 0 0) := (blk_cell BK201.out 0).trans rfl; have hcz8_1 : w5.cell? ⟨gb201, 1, none⟩ = some (.int .i64 0) := (blk_cell BK201.out 1).trans rfl; have hfz8_0 := blk_frozen BK201.out 0; have hfz8_1 := blk_frozen BK201.out 1))
  refine bodyPost_ret (results_cell_row rfl _ _ gb201 47 #[.slice A0_0 l0_0.length c0_0, .int .i64 a0_1] (0, 0) _ rfl (by refine bp_ ?_; refine blk_put (cs := #[.slice A0_0 l0_0.length c0_0, .int .i64 0]) ?_ 1 _ rfl; refine bp_ ?_; refine blk_put (cs := #[.slice none 0 0, .int .i64 0]) ?_ 0 _ rfl; refine bp_ ?_; exact BK201.out) Tryd.underlying47 rfl (by kernel_rfl)) rfl ?_
  exact ⟨_, ew_, by (with_reducible repeat (first | apply Kd.V_alloc | apply Kd.V_drewN | apply Kd.V_drew)); exact Kd.V_mono (Kd.V_far (p := ⟨gb201, 1, none⟩) (Kd.V_far (p := ⟨gb201, 0, none⟩) (Kd.V_mono HO0_0.out (fun k_ hk => (⟨hk, hk.2⟩ : _ ∧ k_ ≠ gb201))) (fun _ hk => hk.2) (.slice A0_0 l0_0.length c0_0)) (fun _ hk => hk.2) (.int .i64 a0_1)) (fun _ hk => hk.1.1.1), bl_⟩
 ·rw [if_neg c3] at H
  have c3b0 : ((l0_0.length : Int) == 0) = false := beq_eq_false_iff_ne.mpr c3
  have c3b1 : ((l0_0.length : Int) != 0) = true := bne_iff_ne.mpr c3
  have c3b2 : ¬ (l0_0 = []) := fun h_ => c3 (by rw [h_]; rfl)
  replace H := Option.bind_eq_some_iff.mp H
  obtain ⟨t202, A90, H⟩ := H
  replace H : (bloom_Add.l0 k l1 (l1.length : Int) 0 t202 a0_1) = some (r1, r2) := H
  have A9 := am_ A90
  clear A90
  have H' := am_ H
  clear H
  go_enter Tryd.func72, Tryd.ntmps72
  go_wp2_with (first | ((with_reducible refine gate_dst (N := 2) rfl ?_); refine box_event ?hg (N := 2) ?hd (cs := #[.slice A0_0 l0_0.length c0_0, .int .i64 a0_1]) (t := 47) ?hr ?_; (case hd => rfl); (case hg => rfl); (case hr => first | (go_simp; done) | (go_simp; rfl)); intro gb200 hg w10 hbox hb; replace HO0_0 := am_ (Kd.V_below (Kd.V_elderB (kv_ HO0_0.out) gb200 (Nat.le_of_eq hg.symm)) hb); have BK200 := am_ (hbox); have GW200 := am_ ((by rw [hg]; exact (below_size (bl_)) : w.heap.size ≤ gb200)); have GE200 := am_ ((by rw [hg]; exact (below_size (bl_)) : w.heap.size ≤ gb200)); replace HB := am_ (below_step (bl_) hb); clear hb hbox hg) | ((with_reducible refine gate_dst (N := 4) rfl ?_); refine box_event ?hg (N := 4) ?hd (cs := #[.slice none 0 0, .int .i64 0]) (t := 47) ?hr ?_; (case hd => rfl); (case hg => rfl); (case hr => first | (go_simp; done) | (go_simp; rfl)); intro gb201 hg w11 hbox hb; have n0_ := am_ (Kd.V_below (Kd.V_elderB (kv_ HO0_0.out) gb201 (Nat.le_of_eq hg.symm)) hb); have n1_ := am_ (blk_below (g := gb200) (o := .cells #[.slice A0_0 l0_0.length c0_0, .int .i64 a0_1] 47 (0, 0)) (bk_ BK200.out) hb); have n2_ := am_ (below_step (bl_) hb); have n3_ := am_ (hbox); have n4_ := am_ ((by rw [hg]; exact (below_size (bl_)) : w.heap.size ≤ gb201)); have n5_ := am_ ((by rw [hg]; exact (below_size (bl_)) : w.heap.size ≤ gb201)); have n6_ := am_ ((by rw [hg]; exact Nat.ne_of_lt (blk_lt (g := gb200) (o := .cells #[.slice A0_0 l0_0.length c0_0, .int .i64 a0_1] 47 (0, 0)) (bk_ BK200.out)) : gb200 ≠ gb201)); have n7_ := am_ ((by rw [hg]; exact Nat.ne_of_gt (blk_lt (g := gb200) (o := .cells #[.slice A0_0 l0_0.length c0_0, .int .i64 a0_1] 47 (0, 0)) (bk_ BK200.out)) : gb201 ≠ gb200)); clear HO0_0; clear BK200; clear HB; have HO0_0 := n0_; have BK200 := n1_; have HB := n2_; have BK201 := n3_; have GW201 := n4_; have GE201 := n5_; have NB200_201 := n6_; have NB201_200 := n7_; clear n0_ n1_ n2_ n3_ n4_ n5_ n6_ n7_; clear hb hbox hg; have hnb12 := NB200_201.out; have hnc12 := NB201_200.out; have hcz13_0 : w11.cell? ⟨gb200, 0, none⟩ = some (.slice A0_0 l0_0.length c0_0) := (blk_cell BK200.out 0).trans rfl; have hcz13_1 : w11.cell? ⟨gb200, 1, none⟩ = some (.int .i64 a0_1) := (blk_cell BK200.out 1).trans rfl; have hfz13_0 := blk_frozen BK200.out 0; have hfz13_1 := blk_frozen BK200.out 1) | ((with_reducible refine gate_callee (f := 114) rfl ?_); refine goesL_ (some 16) rfl rfl Tryd.func114 (by kernel_rfl) rfl #[.slice A0_0 l0_0.length c0_0] rfl (by (try simp only [List.map_toArray, List.map_cons, List.map_nil]); first | done | rfl | (simp only [List.length_drop, List.length_take]; rfl)) ?_; (with_reducible refine (slices_Clone_uint64_uint64.calls _ _ l0_0 t202 _ ?side1 ?side2 A9.out).mono ?_); (case side1 => repeat (first | exact (Kd.V_reads' HO0_0.out).2.2 | (with_reducible refine Kd.C_alloc ?_ _) | (with_reducible refine Kd.C_drewN ?_ _) | (with_reducible refine Kd.C_drew ?_))); (case side2 => exact (Kd.V_reads' HO0_0.out).2.1); rintro e w14 ⟨v203, rfl, ho0, hb⟩; refine ⟨_, rfl, ?_⟩; replace HO0_0 := am_ (Kd.V_elder' (kv_ HO0_0.out) (Kd.R_base ho0) hb); have HO204 := am_ (Kd.R_lower (Kd.R_newM (M := fun k_ => (w.heap.size ≤ k_)) ho0 (below_size (bl_)) (fun k_ h_ => h_)) (below_size (bl_))); replace BK200 := am_ (blk_below (g := gb200) (o := .cells #[.slice A0_0 l0_0.length c0_0, .int .i64 a0_1] 47 (0, 0)) (bk_ BK200.out) hb); replace BK201 := am_ (blk_below (g := gb201) (o := .cells #[.slice none 0 0, .int .i64 0] 47 (0, 0)) (bk_ BK201.out) hb); replace HB := am_ (below_step (bl_) hb); (try clear hb); (try clear hb2); (try clear hk); (try clear hi); (try clear ho0); obtain ⟨Ao15, co15, eo15⟩ := Kd.R_slice HO204.out; subst eo15; have hcz16_0 : w14.cell? ⟨gb200, 0, none⟩ = some (.slice A0_0 l0_0.length c0_0) := (blk_cell BK200.out 0).trans rfl; have hcz16_1 : w14.cell? ⟨gb200, 1, none⟩ = some (.int .i64 a0_1) := (blk_cell BK200.out 1).trans rfl; have hfz16_0 := blk_frozen BK200.out 0; have hfz16_1 := blk_frozen BK200.out 1))
  go_loopg [20] k (fun kq v20 w' => ∃ (x20_1 : Int) (x201000_1 : List Int) (u201000 : Value), v20 = .int .i64 x20_1 ∧ Aside0 (bloom_Add.l0 kq l1 (l1.length : Int) x20_1 x201000_1 a0_1 = some (r1, r2)) ∧ Aside0 (kq ≤ k) ∧ Aside0 (Kd.R (Kd.int .u64) 28 w' w.heap.size (fun k_ => (w.heap.size ≤ k_)) u201000 x201000_1) ∧ Aside0 (w'.heap[gb200]? = some (.cells #[u201000, .int .i64 a0_1] 47 (0, 0))) ∧ Aside0 (w'.heap[gb201]? = some (.cells #[(.slice none 0 0), .int .i64 0] 47 (0, 0))) ∧ Aside0 (Below w.heap.size w w'))
  case atStart => exact ⟨(0), (t202), (.slice Ao15 t202.length co15), (rs_), H', ⟨Nat.le_refl _⟩, ⟨by (with_reducible repeat (first | apply Kd.R_alloc | apply Kd.R_drewN | apply Kd.R_drew)); exact Kd.R_mono (Kd.R_far (p := ⟨gb200, 0, none⟩) (Kd.R_types HO204.out BK200.out (by decide)) (fun _ hk => hk.2) (.slice Ao15 t202.length co15)) (fun _ hk => hk.1.1)⟩, ⟨by refine bp_ ?_; refine blk_put (cs := #[.slice A0_0 l0_0.length c0_0, .int .i64 a0_1]) ?_ 0 _ rfl; refine bp_ ?_; exact BK200.out⟩, ⟨by refine bp_ ?_; refine blk_far ?_ NB201_200.out _; refine bp_ ?_; exact BK201.out⟩, ⟨bl_⟩⟩
  case round =>
   clear H'
   try clear c1
   try clear p2
   try clear c3
   try clear c3b0
   try clear c3b1
   try clear c3b2
   try clear c6
   try clear c7
   try clear c11
   try clear c12
   try clear hcz13_0
   try clear hcz13_1
   try clear hcz16_0
   try clear hcz16_1
   try clear hcz7_0
   try clear hcz7_1
   try clear hcz8_0
   try clear hcz8_1
   try clear hfz13_0
   try clear hfz13_1
   try clear hfz16_0
   try clear hfz16_1
   try clear hfz7_0
   try clear hfz7_1
   try clear hfz8_0
   try clear hfz8_1
   obtain ⟨x20_1, x201000_1, u201000, rfl, HA, HK1, HO_201000, BK200, BK201, HB⟩ := hrel
   cases gk with
   | zero => exact absurd HA.out (by simp [bloom_Add.l0])
   | succ k1 =>
    have H := HA.out
    clear HA
    simp only [bloom_Add.l0] at H
    by_cases c17 : x20_1 < (l1.length : Int)
    ·rw [if_pos c17] at H
     have c17b0 : decide (x20_1 < (l1.length : Int)) = true := decide_eq_true c17
     clear c17
     by_cases c18 : 0 ≤ x20_1
     ·rw [if_pos c18] at H
      have c18b0 : decide (0 ≤ x20_1) = true := decide_eq_true c18
      clear c18
      by_cases c19 : x20_1 < (l1.length : Int)
      ·rw [if_pos c19] at H
       have c19b0 : decide (x20_1 < (l1.length : Int)) = true := decide_eq_true c19
       clear c19
       replace H := Option.bind_eq_some_iff.mp H
       obtain ⟨⟨t206, t207⟩, A200, H⟩ := H
       replace H : (if 0 ≤ t206 then (if t206 < (x201000_1.length : Int) then (bloom_Add.l0 k1 l1 (l1.length : Int) (wrap64 (x20_1 + 1)) (x201000_1.set (t206 : Int).toNat (Go.bits .or .u64 (rd x201000_1 t206) t207)) a0_1) else (none)) else (none)) = some (r1, r2) := H
       have A20 := am_ A200
       clear A200
       by_cases c21 : 0 ≤ t206
       ·rw [if_pos c21] at H
        have c21b0 : decide (0 ≤ t206) = true := decide_eq_true c21
        clear c21
        by_cases c22 : t206 < (x201000_1.length : Int)
        ·rw [if_pos c22] at H
         have c22b0 : decide (t206 < (x201000_1.length : Int)) = true := decide_eq_true c22
         clear c22
         obtain ⟨y209, hy209⟩ : ∃ y_ : List Int, y_ = (x201000_1.set (t206 : Int).toNat (Go.bits .or .u64 (rd x201000_1 t206) t207)) := ⟨_, rfl⟩
         replace H : (bloom_Add.l0 k1 l1 (l1.length : Int) (wrap64 (x20_1 + 1)) y209 a0_1) = some (r1, r2) := by first | (rw [hy209]; with_reducible exact H) | (have H2_ := (Option.bind_some _ _).symm.trans H; rw [hy209]; with_reducible exact H2_) | (have H2_ := (Option.bind_some _ _).symm.trans H; with_reducible exact H2_) | with_reducible exact H | (rw [hy209]; exact H) | exact H
         have Ny209 := am_ hy209
         clear hy209
         have H' := am_ H
         clear H
         have p205 : 0 ≤ (x20_1 : Int) := of_decide_eq_true (as_)
         have q205 : x20_1 < (l1.length : Int) := of_decide_eq_true (as_)
         obtain ⟨ad205, e205, hx205_0⟩ := Kd.at_int HR1.out x20_1 p205 q205
         cases e205
         replace hx205_0 := (HB.out.cell (World.block_lt_of_cell? w _ hx205_0)).trans hx205_0
         replace p205 := eq_true p205
         replace q205 := eq_true q205
         have hnb24 := NB200_201.out
         have hnc24 := NB201_200.out
         have hcz25_0 : wr.cell? ⟨gb200, 0, none⟩ = some (u201000) := (blk_cell BK200.out 0).trans rfl
         have hcz25_1 : wr.cell? ⟨gb200, 1, none⟩ = some (.int .i64 a0_1) := (blk_cell BK200.out 1).trans rfl
         have hfz25_0 := blk_frozen BK200.out 0
         have hfz25_1 := blk_frozen BK200.out 1
         obtain ⟨Ao26, co26, eo26⟩ := Kd.R_slice HO_201000.out
         subst eo26
         go_wp2_with (first | ((with_reducible refine gate_callee (f := 112) rfl ?_); refine goesL_ (some 27) rfl rfl Tryd.func112 (by kernel_rfl) rfl #[.agg #[.slice Ao26 x201000_1.length co26, .int .i64 a0_1], .int .u64 (rd l1 x20_1)] rfl (by (try simp only [List.map_toArray, List.map_cons, List.map_nil]); first | done | rfl | (simp only [List.length_drop, List.length_take]; rfl)) ?_; (with_reducible refine (bloom_mask.calls k1 _ _ x201000_1 a0_1 (rd l1 x20_1) t206 t207 _ ?side1 ?side2 A20.out).mono ?_); (case side1 => repeat (first | exact (Kd.R_reads' HO_201000.out).2.2 | (with_reducible refine Kd.C_alloc ?_ _) | (with_reducible refine Kd.C_drewN ?_ _) | (with_reducible refine Kd.C_drew ?_))); (case side2 => exact (Kd.R_reads' HO_201000.out).2.1); rintro e w27 ⟨rfl, hb⟩; refine ⟨_, rfl, ?_⟩; replace HO_201000 := am_ (Kd.R_below (kr_ HO_201000.out) hb); replace BK200 := am_ (blk_below (g := gb200) (o := .cells #[.slice Ao26 x201000_1.length co26, .int .i64 a0_1] 47 (0, 0)) (bk_ BK200.out) hb); replace BK201 := am_ (blk_below (g := gb201) (o := .cells #[.slice none 0 0, .int .i64 0] 47 (0, 0)) (bk_ BK201.out) hb); replace HB := am_ (below_step (bl_) hb); (try clear hb); (try clear hb2); (try clear hk); (try clear hi); have hcz28_0 : w27.cell? ⟨gb200, 0, none⟩ = some (.slice Ao26 x201000_1.length co26) := (blk_cell BK200.out 0).trans rfl; have hcz28_1 : w27.cell? ⟨gb200, 1, none⟩ = some (.int .i64 a0_1) := (blk_cell BK200.out 1).trans rfl; have hfz28_0 := blk_frozen BK200.out 0; have hfz28_1 := blk_frozen BK200.out 1; have p208 : 0 ≤ (t206 : Int) := of_decide_eq_true (as_); have q208 : t206 < (x201000_1.length : Int) := of_decide_eq_true (as_); obtain ⟨ad208, e208, hx208_0⟩ := Kd.at_int (Kd.R_reads' HO_201000.out).2.2 t206 p208 q208; cases e208; replace p208 := eq_true p208; replace q208 := eq_true q208; have p23 : 0 ≤ (t206 : Int) := of_decide_eq_true (as_); have q23 : (t206 : Int) < ((x201000_1.length : Int) : Int) := of_decide_eq_true (as_); obtain ⟨go23, co23, eo23, gb23, gl23, cl23, HG23⟩ := Kd.R_form HO_201000.out (by omega); (first | cases eo23 | (injection eo23 with ea_ en_ ec_; (first | subst ea_ | (injection ea_ with ea_; subst ea_)); subst ec_; clear en_)); have GB23 := am_ gb23; have GG23 := am_ HG23; clear gb23 gl23 HG23; (first | simp only [add_plain] at hx208_0 | skip); obtain ⟨hx23_0, hf23_0⟩ := Kd.R_celln 0 HO_201000.out (t206 : Int) p23 q23; replace p23 := eq_true p23; replace q23 := eq_true q23; obtain ⟨hy29_, hz29_⟩ := Kd.R_celln 0 HO_201000.out (t206 : Int) (of_decide_eq_true (as_)) (of_decide_eq_true (as_)); have HP29 := Kd.R_putg HO_201000.out (t206 : Int) (Go.bits .or .u64 (rd x201000_1 t206) t207)) | ((with_reducible refine gate_store (t := 28) (p := 37) rfl ?_); refine store_event (t := 28) (p := 37) (v := ?vo_w30) (w1 := (w27.setCell ⟨go23, (t206 : Int).toNat, none⟩ (.int .u64 (Go.bits .or .u64 (rd x201000_1 t206) t207)))) ?hg ?ho ?hn ?hr ?_; (case ho => rfl); (case hg => rfl); (case hn => rfl); (case hr => first | (go_simp; done) | (go_simp; rfl)); intro w30 hw; have hg : w27.grownBy w30 (some go23) := (by rw [hw]; exact HP29.2); have hp_ : Kd.R (Kd.int .u64) 28 w30 w.heap.size (fun k_ => (w.heap.size ≤ k_)) (.slice (some ⟨go23, 0, none⟩) x201000_1.length co26) y209 := (by rw [hw, Ny209.out]; exact HP29.1); clear HP29; have n0_ := am_ (hp_); have n1_ := am_ (blk_grown (g := gb200) (o := .cells #[.slice (some ⟨go23, 0, none⟩) x201000_1.length co26, .int .i64 a0_1] 47 (0, 0)) (bk_ BK200.out) hg (Kd.R_ne HO_201000.out BK200.out (by decide))); have n2_ := am_ (blk_grown (g := gb201) (o := .cells #[.slice none 0 0, .int .i64 0] 47 (0, 0)) (bk_ BK201.out) hg (Kd.R_ne HO_201000.out BK201.out (by decide))); have n3_ := am_ ((by rw [hw]; exact below_set (HB.out) GB23.out : Below w.heap.size w w30)); clear HO_201000; clear BK200; clear BK201; clear HB; have HO_201000 := n0_; have BK200 := n1_; have BK201 := n2_; have HB := n3_; clear n0_ n1_ n2_ n3_; clear hg hw hp_))
         go_roundg k1
         case measure => have := HK1.out; omega
         case rel => exact ⟨(wrap64 (x20_1 + 1)), (y209), (.slice (some ⟨go23, 0, none⟩) x201000_1.length co26), (rs_), H', ⟨by have := HK1.out; omega⟩, ⟨kr_ HO_201000.out⟩, ⟨bk_ BK200.out⟩, ⟨bk_ BK201.out⟩, ⟨bl_⟩⟩
        ·rw [if_neg c22] at H
         exact absurd H (by simp)
       ·rw [if_neg c21] at H
        exact absurd H (by simp)
      ·rw [if_neg c19] at H
       exact absurd H (by simp)
     ·rw [if_neg c18] at H
      exact absurd H (by simp)
    ·rw [if_neg c17] at H
     have c17b0 : decide (x20_1 < (l1.length : Int)) = false := decide_eq_false c17
     clear c17
     simp only [Option.some.injEq, Prod.mk.injEq] at H
     obtain ⟨rfl, rfl⟩ := H
     have hnb31 := NB200_201.out
     have hnc31 := NB201_200.out
     have hcz32_0 : wr.cell? ⟨gb200, 0, none⟩ = some (u201000) := (blk_cell BK200.out 0).trans rfl
     have hcz32_1 : wr.cell? ⟨gb200, 1, none⟩ = some (.int .i64 a0_1) := (blk_cell BK200.out 1).trans rfl
     have hfz32_0 := blk_frozen BK200.out 0
     have hfz32_1 := blk_frozen BK200.out 1
     obtain ⟨Ao33, co33, eo33⟩ := Kd.R_slice HO_201000.out
     subst eo33
     have hcz34_0 : wr.cell? ⟨gb201, 0, none⟩ = some (.slice none 0 0) := (blk_cell BK201.out 0).trans rfl
     have hcz34_1 : wr.cell? ⟨gb201, 1, none⟩ = some (.int .i64 0) := (blk_cell BK201.out 1).trans rfl
     have hfz34_0 := blk_frozen BK201.out 0
     have hfz34_1 := blk_frozen BK201.out 1
     go_wp2
     refine bodyPost_ret (results_cell_row rfl _ _ gb201 47 #[.slice Ao33 x201000_1.length co33, .int .i64 a0_1] (0, 0) _ rfl (by refine bp_ ?_; refine blk_put (cs := #[.slice Ao33 x201000_1.length co33, .int .i64 0]) ?_ 1 _ rfl; refine bp_ ?_; refine blk_put (cs := #[.slice none 0 0, .int .i64 0]) ?_ 0 _ rfl; refine bp_ ?_; exact BK201.out) Tryd.underlying47 rfl (by kernel_rfl)) rfl ?_
     exact ⟨_, ew_, Kd.V_mono (Kd.R_V (by (with_reducible repeat (first | apply Kd.R_alloc | apply Kd.R_drewN | apply Kd.R_drew)); exact Kd.R_mono (Kd.R_far (p := ⟨gb201, 1, none⟩) (Kd.R_far (p := ⟨gb201, 0, none⟩) (Kd.R_types HO_201000.out BK201.out (by decide)) (fun _ hk => hk.2) (.slice Ao33 x201000_1.length co33)) (fun _ hk => hk.2) (.int .i64 a0_1)) (fun _ hk => hk.1))) (fun k_ hk => by first | exact ⟨(.inr (hk.1)), hk.2⟩ | exact (.inr (hk))), bl_⟩

end Go.Proofs.YtcfgjaggccnoaaaDoor.PSiftPasses
