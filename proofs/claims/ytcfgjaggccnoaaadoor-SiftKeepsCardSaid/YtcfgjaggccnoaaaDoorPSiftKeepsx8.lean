import Derived.Test.YtcfgjaggccnoaaaDoorPSiftKeepsx0
import Derived.Test.YtcfgjaggccnoaaaDoorPSiftKeepsx5
namespace Go.Proofs.YtcfgjaggccnoaaaDoor.PSiftKeeps
open Go.RowKit Go.Proofs.YtcfgjaggccnoaaaDoorW.PrintWords Go.Proofs.YtcfgjaggccnoaaaDoorW.PrintLast Go.Proofs.YtcfgjaggccnoaaaDoorW.PrintMore
attribute [local go_sem] max2_int min2_int max_two min_two max_three min_three max_four min_four
set_option linter.unusedVariables false
set_option maxHeartbeats 8000000
set_option linter.unusedSimpArgs false
set_option maxRecDepth 100000

mutual
def bloom_Union.j0 : Nat → Bool → List Int → Int → List Int → Int → Option (List Int × Int × Int)
 | 0, _, _, _, _, _ => none
 | k + 1, x21, x298000, x298001, x299000, x299001 => if x21 = true then (some (([] : List Int), 0, 7)) else ((slices_Clone_uint64_uint64.f x298000).bind fun t300 => (bloom_Union.l0 k x299000 (x299000.length : Int) 0 t300 x298001))
def bloom_Union.l0 : Nat → List Int → Int → Int → List Int → Int → Option (List Int × Int × Int)
 | 0, _, _, _, _, _ => none
 | k + 1, x28, x29, x30, x298000, x298001 => if x30 < x29 then (if 0 ≤ x30 then (if x30 < (x28.length : Int) then (if x30 < (x298000.length : Int) then (bloom_Union.l0 k x28 x29 (wrap64 (x30 + 1)) (x298000.set (x30 : Int).toNat (Go.bits .or .u64 (rd x298000 x30) (rd x28 x30))) x298001) else (none)) else (none)) else (none)) else (some (x298000, x298001, 0))
end
def bloom_Union.f (k : Nat) (l0_0 : List Int) (a0_1 : Int) (l1_0 : List Int) (a1_1 : Int) : Option (List Int × Int × Int) := if (l0_0.length : Int) = (l1_0.length : Int) then (bloom_Union.j0 k (a0_1 != a1_1) l0_0 a0_1 l1_0 a1_1) else (bloom_Union.j0 k true l0_0 a0_1 l1_0 a1_1)
theorem bloom_Union.mono_l : ∀ k, (∀ y0 y1 y2 y3 y4, LeO (bloom_Union.j0 k y0 y1 y2 y3 y4) (bloom_Union.j0 (k + 1) y0 y1 y2 y3 y4)) ∧ (∀ y0 y1 y2 y3 y4, LeO (bloom_Union.l0 k y0 y1 y2 y3 y4) (bloom_Union.l0 (k + 1) y0 y1 y2 y3 y4))
 | 0 => ⟨fun _ _ _ _ _ r h => by simp [bloom_Union.j0] at h, fun _ _ _ _ _ r h => by simp [bloom_Union.l0] at h⟩
 | k + 1 => by
  obtain ⟨ih0, ih1⟩ := bloom_Union.mono_l k; refine ⟨?_, ?_⟩
  ·intro y0 y1 y2 y3 y4
   unfold bloom_Union.j0
   repeat' first
   | (with_reducible exact ih0 _ _ _ _ _)
   | (with_reducible exact ih1 _ _ _ _ _)
   | (with_reducible exact LeO.refl _)
   | (with_reducible exact LeO.none _)
   | (with_reducible refine LeO.ite ?_ ?_)
   | (with_reducible refine LeO.bind ?_ (fun _ => ?_))
   | exact ih0 _ _ _ _ _
   | exact ih1 _ _ _ _ _
   | exact LeO.none _
   | refine LeO.ite ?_ ?_
   | refine LeO.bind ?_ (fun _ => ?_)
  ·intro y0 y1 y2 y3 y4
   unfold bloom_Union.l0
   repeat' first
   | (with_reducible exact ih0 _ _ _ _ _)
   | (with_reducible exact ih1 _ _ _ _ _)
   | (with_reducible exact LeO.refl _)
   | (with_reducible exact LeO.none _)
   | (with_reducible refine LeO.ite ?_ ?_)
   | (with_reducible refine LeO.bind ?_ (fun _ => ?_))
   | exact ih0 _ _ _ _ _
   | exact ih1 _ _ _ _ _
   | exact LeO.none _
   | refine LeO.ite ?_ ?_
   | refine LeO.bind ?_ (fun _ => ?_)
theorem bloom_Union.mono : ∀ a0 a1 a2 a3 k, LeO (bloom_Union.f k a0 a1 a2 a3) (bloom_Union.f (k + 1) a0 a1 a2 a3) := by
 intro a0 a1 a2 a3 k; obtain ⟨ih0, ih1⟩ := bloom_Union.mono_l k; unfold bloom_Union.f
 repeat' first
   | (with_reducible exact ih0 _ _ _ _ _)
   | (with_reducible exact ih1 _ _ _ _ _)
   | (with_reducible exact LeO.refl _)
   | (with_reducible exact LeO.none _)
   | (with_reducible refine LeO.ite ?_ ?_)
   | (with_reducible refine LeO.bind ?_ (fun _ => ?_))
   | exact ih0 _ _ _ _ _
   | exact ih1 _ _ _ _ _
   | exact LeO.none _
   | refine LeO.ite ?_ ?_
   | refine LeO.bind ?_ (fun _ => ?_)
theorem bloom_Union.calls (k : Nat) (A0_0 : Option Addr) (c0_0 : Nat) (l0_0 : List Int) (a0_1 : Int) (A1_0 : Option Addr) (c1_0 : Nat) (l1_0 : List Int) (a1_1 : Int) (r1 : List Int) (r2 : Int) (r3 : Int) (w : World) (hr0_0 : Kd.C (Kd.int .u64) w A0_0 l0_0.length l0_0) (hc0_0 : l0_0.length ≤ c0_0) (hr1_0 : Kd.C (Kd.int .u64) w A1_0 l1_0.length l1_0) (hc1_0 : l1_0.length ≤ c1_0) (h : bloom_Union.f k l0_0 a0_1 l1_0 a1_1 = some (r1, r2, r3)) :
  Calls Tryd.prog 83 #[.agg #[.slice A0_0 l0_0.length c0_0, .int .i64 a0_1], .agg #[.slice A1_0 l1_0.length c1_0, .int .i64 a1_1]] w fun e w' => ∃ v0_ : Value, e = .returned (.tuple #[.agg #[v0_, .int .i64 r2], .int .i64 r3]) ∧ Kd.R (Kd.int .u64) 28 w' w.heap.size (fun _ => True) v0_ r1 ∧ Below w.heap.size w w' := by
 have hu47 := Tryd.underlying47; have HR0_0 := am_ hr0_0; have HC0_0 := am_ hc0_0; clear hr0_0 hc0_0; have HR1_0 := am_ hr1_0; have HC1_0 := am_ hc1_0; clear hr1_0 hc1_0; have HB := am_ (Below.refl w.heap.size w); have H : (if (l0_0.length : Int) = (l1_0.length : Int) then (bloom_Union.j0 k (a0_1 != a1_1) l0_0 a0_1 l1_0 a1_1) else (bloom_Union.j0 k true l0_0 a0_1 l1_0 a1_1)) = some (r1, r2, r3) := h; clear h; have HC3 := am_ H; clear H
 go_enter Tryd.func83, Tryd.ntmps83
 go_upto_region 1 with (first | ((with_reducible refine gate_dst (N := 2) rfl ?_); refine box_event ?hg (N := 2) ?hd (cs := #[.slice A0_0 l0_0.length c0_0, .int .i64 a0_1]) (t := 47) ?hr ?_; (case hd => rfl); (case hg => rfl); (case hr => first | (go_simp; done) | (go_simp; rfl)); intro gb297 hg w4 hbox hb; have BK297 := am_ (hbox); have GW297 := am_ ((by rw [hg]; exact (below_size (bl_)) : w.heap.size ≤ gb297)); have GE297 := am_ ((by rw [hg]; exact (below_size (bl_)) : w.heap.size ≤ gb297)); replace HB := am_ (below_step (bl_) hb); clear hb hbox hg) | ((with_reducible refine gate_dst (N := 3) rfl ?_); refine box_event ?hg (N := 3) ?hd (cs := #[.slice A1_0 l1_0.length c1_0, .int .i64 a1_1]) (t := 47) ?hr ?_; (case hd => rfl); (case hg => rfl); (case hr => first | (go_simp; done) | (go_simp; rfl)); intro gb298 hg w5 hbox hb; have n0_ := am_ (blk_below (bk_ BK297.out) hb); have n1_ := am_ (below_step (bl_) hb); have n2_ := am_ (hbox); have n3_ := am_ ((by rw [hg]; exact (below_size (bl_)) : w.heap.size ≤ gb298)); have n4_ := am_ ((by rw [hg]; exact (below_size (bl_)) : w.heap.size ≤ gb298)); have n5_ := am_ ((by rw [hg]; exact Nat.ne_of_lt (blk_lt (g := gb297) (o := .cells #[.slice A0_0 l0_0.length c0_0, .int .i64 a0_1] 47 (0, 0)) (bk_ BK297.out)) : gb297 ≠ gb298)); have n6_ := am_ ((by rw [hg]; exact Nat.ne_of_gt (blk_lt (g := gb297) (o := .cells #[.slice A0_0 l0_0.length c0_0, .int .i64 a0_1] 47 (0, 0)) (bk_ BK297.out)) : gb298 ≠ gb297)); clear BK297; clear HB; have BK297 := n0_; have HB := n1_; have BK298 := n2_; have GW298 := n3_; have GE298 := n4_; have NB297_298 := n5_; have NB298_297 := n6_; clear n0_ n1_ n2_ n3_ n4_ n5_ n6_; clear hb hbox hg) | ((with_reducible refine gate_dst (N := 4) rfl ?_); refine box_event ?hg (N := 4) ?hd (cs := #[.slice none 0 0, .int .i64 0]) (t := 47) ?hr ?_; (case hd => rfl); (case hg => rfl); (case hr => first | (go_simp; done) | (go_simp; rfl)); intro gb299 hg w6 hbox hb; have n0_ := am_ (blk_below (bk_ BK297.out) hb); have n1_ := am_ (blk_below (bk_ BK298.out) hb); have n2_ := am_ (below_step (bl_) hb); have n3_ := am_ (hbox); have n4_ := am_ ((by rw [hg]; exact (below_size (bl_)) : w.heap.size ≤ gb299)); have n5_ := am_ ((by rw [hg]; exact (below_size (bl_)) : w.heap.size ≤ gb299)); have n6_ := am_ ((by rw [hg]; exact Nat.ne_of_lt (blk_lt (g := gb297) (o := .cells #[.slice A0_0 l0_0.length c0_0, .int .i64 a0_1] 47 (0, 0)) (bk_ BK297.out)) : gb297 ≠ gb299)); have n7_ := am_ ((by rw [hg]; exact Nat.ne_of_gt (blk_lt (g := gb297) (o := .cells #[.slice A0_0 l0_0.length c0_0, .int .i64 a0_1] 47 (0, 0)) (bk_ BK297.out)) : gb299 ≠ gb297)); have n8_ := am_ ((by rw [hg]; exact Nat.ne_of_lt (blk_lt (g := gb298) (o := .cells #[.slice A1_0 l1_0.length c1_0, .int .i64 a1_1] 47 (0, 0)) (bk_ BK298.out)) : gb298 ≠ gb299)); have n9_ := am_ ((by rw [hg]; exact Nat.ne_of_gt (blk_lt (g := gb298) (o := .cells #[.slice A1_0 l1_0.length c1_0, .int .i64 a1_1] 47 (0, 0)) (bk_ BK298.out)) : gb299 ≠ gb298)); clear BK297; clear BK298; clear HB; have BK297 := n0_; have BK298 := n1_; have HB := n2_; have BK299 := n3_; have GW299 := n4_; have GE299 := n5_; have NB297_299 := n6_; have NB299_297 := n7_; have NB298_299 := n8_; have NB299_298 := n9_; clear n0_ n1_ n2_ n3_ n4_ n5_ n6_ n7_ n8_ n9_; clear hb hbox hg))
 (try simp only [Act.put, sa_, sz_, ss_])
 go_cut [21] (fun v21 wc => ∃ (kq : Nat) (x21_2 : Bool), v21 = .bool x21_2 ∧ Aside0 (bloom_Union.j0 kq x21_2 l0_0 a0_1 l1_0 a1_1 = some (r1, r2, r3)) ∧ Aside0 (kq ≤ k) ∧ Aside0 (wc.heap[gb297]? = some (.cells #[(.slice A0_0 l0_0.length c0_0), .int .i64 a0_1] 47 (0, 0))) ∧ Aside0 (wc.heap[gb298]? = some (.cells #[(.slice A1_0 l1_0.length c1_0), .int .i64 a1_1] 47 (0, 0))) ∧ Aside0 (wc.heap[gb299]? = some (.cells #[(.slice none 0 0), .int .i64 0] 47 (0, 0))) ∧ Aside0 (Below w.heap.size w wc))
 case first =>
  have H := HC3.out; clear HC3
  by_cases c7 : (l0_0.length : Int) = (l1_0.length : Int)
  ·rw [if_pos c7] at H
   have c7b0 : ((l0_0.length : Int) == (l1_0.length : Int)) = true := beq_iff_eq.mpr c7; have c7b1 : ((l0_0.length : Int) != (l1_0.length : Int)) = false := bne_eq_false_iff_eq.mpr c7
   have c7b2 : (l0_0.length == l1_0.length) = true := by first | simpa using c7 | (simp at c7 ⊢; omega)
   clear c7; (first | rw [c7b0] | (simp only [i64_w, i32_w]; rw [c7b0]) | skip); have H' := am_ H; clear H; have hnb8 := NB297_298.out; have hnc8 := NB298_297.out; have hnb9 := NB297_299.out; have hnc9 := NB299_297.out; obtain ⟨hcz10_0, hcz10_1, hfz10_0, hfz10_1⟩ := bw2_ BK297.out; have hnb11 := NB298_299.out; have hnc11 := NB299_298.out; obtain ⟨hcz12_0, hcz12_1, hfz12_0, hfz12_1⟩ := bw2_ BK298.out
   go_wp2
   go_meet
   case rel => exact ⟨_, ((a0_1 != a1_1)), (rs_), H', ⟨by first | omega | exact Nat.le_refl _⟩, ⟨bk_ BK297.out⟩, ⟨bk_ BK298.out⟩, ⟨bk_ BK299.out⟩, ⟨bl_⟩⟩
  ·rw [if_neg c7] at H
   have c7b0 : ((l0_0.length : Int) == (l1_0.length : Int)) = false := beq_eq_false_iff_ne.mpr c7; have c7b1 : ((l0_0.length : Int) != (l1_0.length : Int)) = true := bne_iff_ne.mpr c7
   have c7b2 : (l0_0.length == l1_0.length) = false := by first | simpa using c7 | (simp at c7 ⊢; omega)
   (first | rw [c7b0] | (simp only [i64_w, i32_w]; rw [c7b0]) | skip); have H' := am_ H; clear H; have hnb13 := NB297_298.out; have hnc13 := NB298_297.out; have hnb14 := NB297_299.out; have hnc14 := NB299_297.out; obtain ⟨hcz15_0, hcz15_1, hfz15_0, hfz15_1⟩ := bw2_ BK297.out; have hnb16 := NB298_299.out; have hnc16 := NB299_298.out; obtain ⟨hcz17_0, hcz17_1, hfz17_0, hfz17_1⟩ := bw2_ BK298.out
   go_wp2
   go_meet
   case rel => exact ⟨_, (true), (rs_), H', ⟨by first | omega | exact Nat.le_refl _⟩, ⟨bk_ BK297.out⟩, ⟨bk_ BK298.out⟩, ⟨bk_ BK299.out⟩, ⟨bl_⟩⟩
 case rest =>
  clear HC3; (try clear c1); (try clear p2); (try clear c7); (try clear c7b0); (try clear c7b1); (try clear c7b2); (try clear c8); (try clear c9); (try clear c11); (try clear c13); (try clear c14); (try clear c16); (try clear hcz10_0); (try clear hcz10_1); (try clear hcz12_0); (try clear hcz12_1); (try clear hcz15_0); (try clear hcz15_1); (try clear hcz17_0); (try clear hcz17_1); (try clear hfz10_0); (try clear hfz10_1); (try clear hfz12_0); (try clear hfz12_1); (try clear hfz15_0); (try clear hfz15_1); (try clear hfz17_0); (try clear hfz17_1); obtain ⟨kq, x21_2, rfl, HA, HJ2, BK297, BK298, BK299, HB⟩ := hcut
  cases kq with
  | zero => exact absurd HA.out (by simp [bloom_Union.j0])
  | succ kj2 =>
   have H := HA.out; clear HA; simp only [bloom_Union.j0] at H
   by_cases c18 : x21_2 = true
   ·subst c18
    have H1 : (some (([] : List Int), 0, 7)) = some (r1, r2, r3) := by rw [if_pos rfl] at H; exact H
    clear H; have H := H1; clear H1; simp only [Option.some.injEq, Prod.mk.injEq] at H; obtain ⟨rfl, rfl, rfl⟩ := H; have hnb19 := NB299_297.out; have hnc19 := NB297_299.out; have hnb20 := NB299_298.out; have hnc20 := NB298_299.out; obtain ⟨hcz21_0, hcz21_1, hfz21_0, hfz21_1⟩ := bw2_ BK299.out
    go_wp2
    refine bodyPost_ret (results_ct rfl _ _ gb299 47 #[.slice none 0 0, .int .i64 0] (0, 0) _ rfl (by refine bp_ ?_; refine blk_put (cs := #[.slice none 0 0, .int .i64 0]) ?_ 1 _ rfl; refine bp_ ?_; refine blk_put (cs := #[.slice none 0 0, .int .i64 0]) ?_ 0 _ rfl; refine bp_ ?_; exact BK299.out) Tryd.underlying47 rfl (by kernel_rfl)) rfl ?_; exact ⟨_, ew_, by first | exact Kd.R_nil _ _ _ _ _ | exact Kd.N_nil _ _ _ _ _ | exact Kd.V_nil _ _ _ _ _ | exact Kd.Q_nil _ _ _ _ _ | exact Kd.S_nil _ _ _ _ _, bl_⟩
   ·replace c18 := Bool.eq_false_iff.mpr c18
    subst c18
    have H1 : ((slices_Clone_uint64_uint64.f l0_0).bind fun t300 => (bloom_Union.l0 kj2 l1_0 (l1_0.length : Int) 0 t300 a0_1)) = some (r1, r2, r3) := by rw [if_neg (show ¬ (false = true) by decide)] at H; exact H
    clear H; have H := H1; clear H1; replace H := Option.bind_eq_some_iff.mp H; obtain ⟨t300, A220, H⟩ := H; replace H : (bloom_Union.l0 kj2 l1_0 (l1_0.length : Int) 0 t300 a0_1) = some (r1, r2, r3) := H; have A22 := am_ A220; clear A220; have H' := am_ H; clear H; have hnb23 := NB297_298.out; have hnc23 := NB298_297.out; have hnb24 := NB297_299.out; have hnc24 := NB299_297.out; obtain ⟨hcz25_0, hcz25_1, hfz25_0, hfz25_1⟩ := bw2_ BK297.out
    go_wp2_with (first | ((with_reducible refine gate_callee (f := 114) rfl ?_); refine goesL_ (some 25) rfl rfl Tryd.func114 (by kernel_rfl) rfl #[.slice A0_0 l0_0.length c0_0] rfl (by (try simp only [List.map_toArray, List.map_cons, List.map_nil]); first | done | rfl | (simp only [List.length_drop, List.length_take]; rfl)) ?_; (with_reducible refine (slices_Clone_uint64_uint64.calls _ _ l0_0 t300 _ ?side1 ?side2 A22.out).mono ?_); (case side1 => repeat (first | exact (Kd.C_below HR0_0.out HB.out) | (with_reducible refine Kd.C_alloc ?_ _) | (with_reducible refine Kd.C_drewN ?_ _) | (with_reducible refine Kd.C_drew ?_))); (case side2 => exact HC0_0.out); rintro e w26 ⟨v301, rfl, ho0, hb⟩; refine ⟨_, rfl, ?_⟩; have HO302 := am_ (Kd.R_lower ho0 (below_size (bl_))); replace BK297 := am_ (blk_below (bk_ BK297.out) hb); replace BK298 := am_ (blk_below (bk_ BK298.out) hb); replace BK299 := am_ (blk_below (bk_ BK299.out) hb); replace HB := am_ (below_step (bl_) hb); (try clear hb); (try clear hb2); (try clear hk); (try clear hi); (try clear ho0); obtain ⟨Ao27, co27, eo27⟩ := Kd.R_slice HO302.out; subst eo27; obtain ⟨hcz28_0, hcz28_1, hfz28_0, hfz28_1⟩ := bw2_ BK297.out; have hnb29 := NB298_299.out; have hnc29 := NB299_298.out; obtain ⟨hcz30_0, hcz30_1, hfz30_0, hfz30_1⟩ := bw2_ BK298.out))
    go_loopg [30] kj2 (fun kq v30 w' => ∃ (x30_2 : Int) (x298000_2 : List Int) (u298000 : Value), v30 = .int .i64 x30_2 ∧ Aside0 (bloom_Union.l0 kq l1_0 (l1_0.length : Int) x30_2 x298000_2 a0_1 = some (r1, r2, r3)) ∧ Aside0 (kq ≤ kj2) ∧ Aside0 (Kd.R (Kd.int .u64) 28 w' w.heap.size (fun _ => True) u298000 x298000_2) ∧ Aside0 (w'.heap[gb297]? = some (.cells #[u298000, .int .i64 a0_1] 47 (0, 0))) ∧ Aside0 (w'.heap[gb298]? = some (.cells #[(.slice A1_0 l1_0.length c1_0), .int .i64 a1_1] 47 (0, 0))) ∧ Aside0 (w'.heap[gb299]? = some (.cells #[(.slice none 0 0), .int .i64 0] 47 (0, 0))) ∧ Aside0 (Below w.heap.size w w'))
    case atStart => exact ⟨(0), (t300), (.slice Ao27 t300.length co27), (rs_), H', ⟨Nat.le_refl _⟩, ⟨by (with_reducible repeat (first | apply Kd.R_alloc | apply Kd.R_drewN | apply Kd.R_drew)); exact Kd.R_mono (fr_ gb297 0 (Kd.R_types HO302.out BK297.out (by decide)) (fun _ hk => hk.2) (.slice Ao27 t300.length co27)) (fun _ hk => trivial)⟩, ⟨by refine bp_ ?_; refine blk_put (cs := #[.slice A0_0 l0_0.length c0_0, .int .i64 a0_1]) ?_ 0 _ rfl; refine bp_ ?_; exact BK297.out⟩, ⟨by refine bp_ ?_; refine blk_far ?_ NB298_297.out _; refine bp_ ?_; exact BK298.out⟩, ⟨by refine bp_ ?_; refine blk_far ?_ NB299_297.out _; refine bp_ ?_; exact BK299.out⟩, ⟨bl_⟩⟩
    case round =>
     clear H'; (try clear c1); (try clear c2); (try clear p2); (try clear c7); (try clear c7b0); (try clear c7b1); (try clear c7b2); (try clear c8); (try clear c9); (try clear c11); (try clear c13); (try clear c14); (try clear c16); (try clear c18); (try clear c19); (try clear c20); (try clear c23); (try clear c24); (try clear c29); (try clear hcz10_0); (try clear hcz10_1); (try clear hcz12_0); (try clear hcz12_1); (try clear hcz15_0); (try clear hcz15_1); (try clear hcz17_0); (try clear hcz17_1); (try clear hcz21_0); (try clear hcz21_1); (try clear hcz25_0); (try clear hcz25_1); (try clear hcz28_0); (try clear hcz28_1); (try clear hcz30_0); (try clear hcz30_1); (try clear hfz10_0); (try clear hfz10_1); (try clear hfz12_0); (try clear hfz12_1); (try clear hfz15_0); (try clear hfz15_1); (try clear hfz17_0); (try clear hfz17_1); (try clear hfz21_0); (try clear hfz21_1); (try clear hfz25_0); (try clear hfz25_1); (try clear hfz28_0); (try clear hfz28_1); (try clear hfz30_0); (try clear hfz30_1); (try clear p2); obtain ⟨x30_2, x298000_2, u298000, rfl, HA, HK2, HO_298000, BK297, BK298, BK299, HB⟩ := hrel
     cases gk with
     | zero => exact absurd HA.out (by simp [bloom_Union.l0])
     | succ k2 =>
      have H := HA.out; clear HA; simp only [bloom_Union.l0] at H
      by_cases c31 : x30_2 < (l1_0.length : Int)
      ·rw [if_pos c31] at H
       have c31b0 : decide (x30_2 < (l1_0.length : Int)) = true := decide_eq_true c31; clear c31
       by_cases c32 : 0 ≤ x30_2
       ·rw [if_pos c32] at H
        have c32b0 : decide (0 ≤ x30_2) = true := decide_eq_true c32; clear c32
        by_cases c33 : x30_2 < (l1_0.length : Int)
        ·rw [if_pos c33] at H
         have c33b0 : decide (x30_2 < (l1_0.length : Int)) = true := decide_eq_true c33; clear c33
         by_cases c34 : x30_2 < (x298000_2.length : Int)
         ·rw [if_pos c34] at H
          have c34b0 : decide (x30_2 < (x298000_2.length : Int)) = true := decide_eq_true c34; clear c34
          obtain ⟨y305, hy305⟩ : ∃ y_ : List Int, y_ = (x298000_2.set (x30_2 : Int).toNat (Go.bits .or .u64 (rd x298000_2 x30_2) (rd l1_0 x30_2))) := ⟨_, rfl⟩
          replace H : (bloom_Union.l0 k2 l1_0 (l1_0.length : Int) (wrap64 (x30_2 + 1)) y305 a0_1) = some (r1, r2, r3) := by first | (rw [hy305]; with_reducible exact H) | (have H2_ := (Option.bind_some _ _).symm.trans H; rw [hy305]; with_reducible exact H2_) | (have H2_ := (Option.bind_some _ _).symm.trans H; with_reducible exact H2_) | with_reducible exact H | (rw [hy305]; exact H) | exact H
          have Ny305 := am_ hy305; clear hy305; have H' := am_ H; clear H; have p303 : 0 ≤ (x30_2 : Int) := of_decide_eq_true (as_); have q303 : x30_2 < (l1_0.length : Int) := of_decide_eq_true (as_); obtain ⟨ad303, e303, hx303_0⟩ := Kd.at_int HR1_0.out x30_2 p303 q303; cases e303; replace hx303_0 := (HB.out.cell (World.block_lt_of_cell? w _ hx303_0)).trans hx303_0; replace p303 := eq_true p303; replace q303 := eq_true q303; have hnb36 := NB297_298.out; have hnc36 := NB298_297.out; have hnb37 := NB297_299.out; have hnc37 := NB299_297.out; obtain ⟨hcz38_0, hcz38_1, hfz38_0, hfz38_1⟩ := bw2_ BK297.out; obtain ⟨Ao39, co39, eo39⟩ := Kd.R_slice HO_298000.out; subst eo39; have p304 : 0 ≤ (x30_2 : Int) := of_decide_eq_true (as_); have q304 : x30_2 < (x298000_2.length : Int) := of_decide_eq_true (as_); obtain ⟨ad304, e304, hx304_0⟩ := Kd.at_int (Kd.R_reads' HO_298000.out).2.2 x30_2 p304 q304; cases e304; replace p304 := eq_true p304; replace q304 := eq_true q304; have p35 : 0 ≤ (x30_2 : Int) := of_decide_eq_true (as_); have q35 : (x30_2 : Int) < ((x298000_2.length : Int) : Int) := of_decide_eq_true (as_); obtain ⟨go35, co35, eo35, gb35, gl35, cl35, HG35⟩ := Kd.R_form HO_298000.out (by omega); (first | cases eo35 | (injection eo35 with ea_ en_ ec_; (first | subst ea_ | (injection ea_ with ea_; subst ea_)); subst ec_; clear en_)); have GB35 := am_ gb35; have GG35 := am_ HG35; clear gb35 gl35 HG35; (first | simp only [add_plain] at hx304_0 | skip); obtain ⟨hx35_0, hf35_0⟩ := Kd.R_celln 0 HO_298000.out (x30_2 : Int) p35 q35; replace p35 := eq_true p35; replace q35 := eq_true q35; have HP40 := Kd.R_putg HO_298000.out (x30_2 : Int) (Go.bits .or .u64 (rd x298000_2 x30_2) (rd l1_0 x30_2))
          go_wp2_with (first | ((with_reducible refine gate_store (t := 28) (p := 42) rfl ?_); refine store_event (t := 28) (p := 42) (v := ?vo_w41) (w1 := (wr.setCell ⟨go35, (x30_2 : Int).toNat, none⟩ (.int .u64 (Go.bits .or .u64 (rd x298000_2 x30_2) (rd l1_0 x30_2))))) ?hg ?ho ?hn ?hr ?_; (case ho => rfl); (case hg => rfl); (case hn => rfl); (case hr => first | (go_simp; done) | (go_simp; rfl)); intro w41 hw; have hg : wr.grownBy w41 (some go35) := (by rw [hw]; exact HP40.2); have hp_ : Kd.R (Kd.int .u64) 28 w41 w.heap.size (fun _ => True) (.slice (some ⟨go35, 0, none⟩) x298000_2.length co39) y305 := (by rw [hw, Ny305.out]; exact HP40.1); clear HP40; have n0_ := am_ (hp_); have n1_ := am_ (blk_grown (g := gb297) (o := .cells #[.slice (some ⟨go35, 0, none⟩) x298000_2.length co39, .int .i64 a0_1] 47 (0, 0)) (bk_ BK297.out) hg (Kd.R_ne HO_298000.out BK297.out (by decide))); have n2_ := am_ (blk_grown (g := gb298) (o := .cells #[.slice (some ad303) l1_0.length c1_0, .int .i64 a1_1] 47 (0, 0)) (bk_ BK298.out) hg (Kd.R_ne HO_298000.out BK298.out (by decide))); have n3_ := am_ (blk_grown (g := gb299) (o := .cells #[.slice none 0 0, .int .i64 0] 47 (0, 0)) (bk_ BK299.out) hg (Kd.R_ne HO_298000.out BK299.out (by decide))); have n4_ := am_ ((by rw [hw]; exact below_set (HB.out) GB35.out : Below w.heap.size w w41)); clear HO_298000; clear BK297; clear BK298; clear BK299; clear HB; have HO_298000 := n0_; have BK297 := n1_; have BK298 := n2_; have BK299 := n3_; have HB := n4_; clear n0_ n1_ n2_ n3_ n4_; clear hg hw hp_))
          go_roundg k2
          case measure => have := HJ2.out; have := HK2.out; omega
          case rel => exact ⟨(wrap64 (x30_2 + 1)), (y305), (.slice (some ⟨go35, 0, none⟩) x298000_2.length co39), (rs_), H', ⟨by have := HJ2.out; have := HK2.out; omega⟩, ⟨kr_ HO_298000.out⟩, ⟨bk_ BK297.out⟩, ⟨bk_ BK298.out⟩, ⟨bk_ BK299.out⟩, ⟨bl_⟩⟩
         ·rw [if_neg c34] at H
          exact absurd H (by simp)
        ·rw [if_neg c33] at H
         exact absurd H (by simp)
       ·rw [if_neg c32] at H
        exact absurd H (by simp)
      ·rw [if_neg c31] at H
       have c31b0 : decide (x30_2 < (l1_0.length : Int)) = false := decide_eq_false c31; clear c31; simp only [Option.some.injEq, Prod.mk.injEq] at H; obtain ⟨rfl, rfl, rfl⟩ := H; have hnb42 := NB297_298.out; have hnc42 := NB298_297.out; have hnb43 := NB297_299.out; have hnc43 := NB299_297.out; obtain ⟨hcz44_0, hcz44_1, hfz44_0, hfz44_1⟩ := bw2_ BK297.out; obtain ⟨Ao45, co45, eo45⟩ := Kd.R_slice HO_298000.out; subst eo45; have hnb46 := NB299_298.out; have hnc46 := NB298_299.out; obtain ⟨hcz47_0, hcz47_1, hfz47_0, hfz47_1⟩ := bw2_ BK299.out
       go_wp2
       refine bodyPost_ret (results_ct rfl _ _ gb299 47 #[.slice Ao45 x298000_2.length co45, .int .i64 a0_1] (0, 0) _ rfl (by refine bp_ ?_; refine blk_put (cs := #[.slice Ao45 x298000_2.length co45, .int .i64 0]) ?_ 1 _ rfl; refine bp_ ?_; refine blk_put (cs := #[.slice none 0 0, .int .i64 0]) ?_ 0 _ rfl; refine bp_ ?_; exact BK299.out) Tryd.underlying47 rfl (by kernel_rfl)) rfl ?_; exact ⟨_, ew_, by (with_reducible repeat (first | apply Kd.R_alloc | apply Kd.R_drewN | apply Kd.R_drew)); exact Kd.R_mono (fr_ gb299 1 (fr_ gb299 0 (Kd.R_types HO_298000.out BK299.out (by decide)) (fun _ hk => hk.2) (.slice Ao45 x298000_2.length co45)) (fun _ hk => hk.2) (.int .i64 a0_1)) (fun _ hk => trivial), bl_⟩

end Go.Proofs.YtcfgjaggccnoaaaDoor.PSiftKeeps
