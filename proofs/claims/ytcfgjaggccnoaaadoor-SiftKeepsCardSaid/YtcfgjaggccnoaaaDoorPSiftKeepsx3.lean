import Derived.Test.YtcfgjaggccnoaaaDoorPSiftKeepsx0
import Derived.Test.YtcfgjaggccnoaaaDoorPSiftKeepsx1
import Derived.Test.YtcfgjaggccnoaaaDoorPSiftKeepsx2
namespace Go.Proofs.YtcfgjaggccnoaaaDoor.PSiftKeeps
open Go.RowKit Go.Proofs.YtcfgjaggccnoaaaDoorW.PrintWords Go.Proofs.YtcfgjaggccnoaaaDoorW.PrintLast Go.Proofs.YtcfgjaggccnoaaaDoorW.PrintMore
attribute [local go_sem] max2_int min2_int max_two min_two max_three min_three max_four min_four
set_option linter.unusedVariables false
set_option maxHeartbeats 8000000
set_option linter.unusedSimpArgs false
set_option maxRecDepth 100000

mutual
def sift_Passes.j0 : Nat → List (S23) → Bool → List Int → Int → List (S106) → Int → Int → Bool → Option (Bool)
 | 0, _, _, _, _, _, _, _, _ => none
 | k + 1, x1, x22, x152000, x152001, x152002, x152003, x152004, x152005 => if x22 = true then (some false) else (sift_Passes.l0 k x1 x1 (x1.length : Int) 0 x152000 x152001 x152002 x152003 x152004 x152005)
def sift_Passes.l0 : Nat → List (S23) → List (S23) → Int → Int → List Int → Int → List (S106) → Int → Int → Bool → Option (Bool)
 | 0, _, _, _, _, _, _, _, _, _, _ => none
 | k + 1, x1, x23, x24, x25, x152000, x152001, x152002, x152003, x152004, x152005 => if x25 < x24 then (if 0 ≤ x25 then (if x25 < (x23.length : Int) then (if x25 < (x152002.length : Int) then ((span_Has.f k ((rd_T106 x152002 x25).f0.f0) ((rd_T106 x152002 x25).f0.f1) ((rd_T106 x152002 x25).f0.f2) ((rd_T106 x152002 x25).f1.f0) ((rd_T106 x152002 x25).f1.f1) ((rd_T106 x152002 x25).f1.f2) ((rd_T106 x152002 x25).f2) ((rd_T106 x152002 x25).f3) ((rd_T23 x23 x25).f0) ((rd_T23 x23 x25).f1) ((rd_T23 x23 x25).f2)).bind fun t156 => (if t156 = true then (sift_Passes.l0 k x1 x23 x24 (wrap64 (x25 + 1)) x152000 x152001 x152002 x152003 x152004 x152005) else (some false))) else (none)) else (none)) else (none)) else ((hash_Row.f k x152003 x1).bind fun t157 => ((bloom_Has.f k x152000 x152001 t157).bind fun t158 => (some t158)))
end
def sift_Passes.f (k : Nat) (l0_0 : List Int) (a0_1 : Int) (l0_2 : List (S106)) (a0_3 : Int) (a0_4 : Int) (a0_5 : Bool) (l1 : List (S23)) : Option (Bool) := if a0_4 = 0 then (sift_Passes.j0 k l1 true l0_0 a0_1 l0_2 a0_3 a0_4 a0_5) else ((sift_Whole.f k l1).bind fun t152 => (if t152 = true then (sift_Passes.j0 k l1 (decide ((l1.length : Int) > (l0_2.length : Int))) l0_0 a0_1 l0_2 a0_3 a0_4 a0_5) else (sift_Passes.j0 k l1 true l0_0 a0_1 l0_2 a0_3 a0_4 a0_5)))
theorem sift_Passes.mono_l : ∀ k, (∀ y0 y1 y2 y3 y4 y5 y6 y7, LeO (sift_Passes.j0 k y0 y1 y2 y3 y4 y5 y6 y7) (sift_Passes.j0 (k + 1) y0 y1 y2 y3 y4 y5 y6 y7)) ∧ (∀ y0 y1 y2 y3 y4 y5 y6 y7 y8 y9, LeO (sift_Passes.l0 k y0 y1 y2 y3 y4 y5 y6 y7 y8 y9) (sift_Passes.l0 (k + 1) y0 y1 y2 y3 y4 y5 y6 y7 y8 y9))
 | 0 => ⟨fun _ _ _ _ _ _ _ _ r h => by simp [sift_Passes.j0] at h, fun _ _ _ _ _ _ _ _ _ _ r h => by simp [sift_Passes.l0] at h⟩
 | k + 1 => by
  obtain ⟨ih0, ih1⟩ := sift_Passes.mono_l k; refine ⟨?_, ?_⟩
  ·intro y0 y1 y2 y3 y4 y5 y6 y7
   unfold sift_Passes.j0
   repeat' first
   | (with_reducible exact ih0 _ _ _ _ _ _ _ _)
   | (with_reducible exact ih1 _ _ _ _ _ _ _ _ _ _)
   | (with_reducible exact bloom_Has.mono _ _ _ _)
   | (with_reducible exact hash_Row.mono _ _ _)
   | (with_reducible exact sift_Whole.mono _ _)
   | (with_reducible exact span_Has.mono _ _ _ _ _ _ _ _ _ _ _ _)
   | (with_reducible exact LeO.refl _)
   | (with_reducible exact LeO.none _)
   | (with_reducible refine LeO.ite ?_ ?_)
   | (with_reducible refine LeO.bind ?_ (fun _ => ?_))
   | exact ih0 _ _ _ _ _ _ _ _
   | exact ih1 _ _ _ _ _ _ _ _ _ _
   | exact bloom_Has.mono _ _ _ _
   | exact hash_Row.mono _ _ _
   | exact sift_Whole.mono _ _
   | exact span_Has.mono _ _ _ _ _ _ _ _ _ _ _ _
   | exact LeO.none _
   | refine LeO.ite ?_ ?_
   | refine LeO.bind ?_ (fun _ => ?_)
  ·intro y0 y1 y2 y3 y4 y5 y6 y7 y8 y9
   unfold sift_Passes.l0
   repeat' first
   | (with_reducible exact ih0 _ _ _ _ _ _ _ _)
   | (with_reducible exact ih1 _ _ _ _ _ _ _ _ _ _)
   | (with_reducible exact bloom_Has.mono _ _ _ _)
   | (with_reducible exact hash_Row.mono _ _ _)
   | (with_reducible exact sift_Whole.mono _ _)
   | (with_reducible exact span_Has.mono _ _ _ _ _ _ _ _ _ _ _ _)
   | (with_reducible exact LeO.refl _)
   | (with_reducible exact LeO.none _)
   | (with_reducible refine LeO.ite ?_ ?_)
   | (with_reducible refine LeO.bind ?_ (fun _ => ?_))
   | exact ih0 _ _ _ _ _ _ _ _
   | exact ih1 _ _ _ _ _ _ _ _ _ _
   | exact bloom_Has.mono _ _ _ _
   | exact hash_Row.mono _ _ _
   | exact sift_Whole.mono _ _
   | exact span_Has.mono _ _ _ _ _ _ _ _ _ _ _ _
   | exact LeO.none _
   | refine LeO.ite ?_ ?_
   | refine LeO.bind ?_ (fun _ => ?_)
theorem sift_Passes.mono : ∀ a0 a1 a2 a3 a4 a5 a6 k, LeO (sift_Passes.f k a0 a1 a2 a3 a4 a5 a6) (sift_Passes.f (k + 1) a0 a1 a2 a3 a4 a5 a6) := by
 intro a0 a1 a2 a3 a4 a5 a6 k; obtain ⟨ih0, ih1⟩ := sift_Passes.mono_l k; unfold sift_Passes.f
 repeat' first
   | (with_reducible exact ih0 _ _ _ _ _ _ _ _)
   | (with_reducible exact ih1 _ _ _ _ _ _ _ _ _ _)
   | (with_reducible exact bloom_Has.mono _ _ _ _)
   | (with_reducible exact hash_Row.mono _ _ _)
   | (with_reducible exact sift_Whole.mono _ _)
   | (with_reducible exact span_Has.mono _ _ _ _ _ _ _ _ _ _ _ _)
   | (with_reducible exact LeO.refl _)
   | (with_reducible exact LeO.none _)
   | (with_reducible refine LeO.ite ?_ ?_)
   | (with_reducible refine LeO.bind ?_ (fun _ => ?_))
   | exact ih0 _ _ _ _ _ _ _ _
   | exact ih1 _ _ _ _ _ _ _ _ _ _
   | exact bloom_Has.mono _ _ _ _
   | exact hash_Row.mono _ _ _
   | exact sift_Whole.mono _ _
   | exact span_Has.mono _ _ _ _ _ _ _ _ _ _ _ _
   | exact LeO.none _
   | refine LeO.ite ?_ ?_
   | refine LeO.bind ?_ (fun _ => ?_)
def sift_Passes.T6 : Bool × List (List Nat × List Nat) := (true, [([], []), ([0], [0]), ([], []), ([1, 2], [1, 2]), ([3], [3]), ([], []), ([4, 5], [4, 5]), ([6], [6])])
def sift_Passes.B6 : List Nat := [0, 1, 0, 7, 15, 0, 63, 127]
theorem sift_Passes.tab6 : rtab .any (opsOf Tryd.f28 6) = sift_Passes.T6 := by kernel_rfl
theorem sift_Passes.bits6 : waitsOk sift_Passes.T6.2 sift_Passes.B6 = true := by kernel_rfl
def sift_Passes.T9 : Bool × List (List Nat × List Nat) := (true, [([], []), ([0], [0]), ([], []), ([2], [2]), ([], []), ([3, 4], [3, 4]), ([1, 5, 5], [1, 5]), ([6, 6, 0, 1, 2, 3, 4, 5, 6], [6])])
def sift_Passes.B9 : List Nat := [0, 1, 0, 4, 0, 28, 63, 127]
theorem sift_Passes.tab9 : rtab .any (opsOf Tryd.f28 9) = sift_Passes.T9 := by kernel_rfl
theorem sift_Passes.bits9 : waitsOk sift_Passes.T9.2 sift_Passes.B9 = true := by kernel_rfl
theorem sift_Passes.calls (k : Nat) (A0_0 : Option Addr) (c0_0 : Nat) (l0_0 : List Int) (a0_1 : Int) (A0_2 : Option Addr) (c0_2 : Nat) (l0_2 : List (S106)) (a0_3 : Int) (a0_4 : Int) (a0_5 : Bool) (A1 : Option Addr) (c1 : Nat) (l1 : List (S23)) (r : Bool) (w : World) (hr0_0 : Kd.C (Kd.int .u64) w A0_0 l0_0.length l0_0) (hc0_0 : l0_0.length ≤ c0_0) (hr0_2 : Kd.C k106 w A0_2 l0_2.length l0_2) (hc0_2 : l0_2.length ≤ c0_2) (hr1 : Kd.C k23 w A1 l1.length l1) (hc1 : l1.length ≤ c1) (h : sift_Passes.f k l0_0 a0_1 l0_2 a0_3 a0_4 a0_5 l1 = some r) (HT : Aside0 (TabOK w)) :
  Calls Tryd.prog 28 #[.agg #[.slice A0_0 l0_0.length c0_0, .int .i64 a0_1, .slice A0_2 l0_2.length c0_2, .int .i64 a0_3, .int .i64 a0_4, .bool a0_5], .slice A1 l1.length c1] w fun e w' => e = .returned (.bool r) ∧ Below w.heap.size w w' := by
 have hu50 := Tryd.underlying50; have hu23 := Tryd.underlying23; have hu106 := Tryd.underlying106; have hu47 := Tryd.underlying47; have HR0_0 := am_ hr0_0; have HC0_0 := am_ hc0_0; clear hr0_0 hc0_0; have HR0_2 := am_ hr0_2; have HC0_2 := am_ hc0_2; clear hr0_2 hc0_2; have HR1 := am_ hr1; have HC1 := am_ hc1; clear hr1 hc1; have HB := am_ (Below.refl w.heap.size w); have H : (if a0_4 = 0 then (sift_Passes.j0 k l1 true l0_0 a0_1 l0_2 a0_3 a0_4 a0_5) else ((sift_Whole.f k l1).bind fun t152 => (if t152 = true then (sift_Passes.j0 k l1 (decide ((l1.length : Int) > (l0_2.length : Int))) l0_0 a0_1 l0_2 a0_3 a0_4 a0_5) else (sift_Passes.j0 k l1 true l0_0 a0_1 l0_2 a0_3 a0_4 a0_5)))) = some r := h; clear h; have HC3 := am_ H; clear H
 go_enter Tryd.func28, Tryd.ntmps28
 go_upto_region 1 with (first | ((with_reducible refine gate_dst (N := 2) rfl ?_); (try (refine gate_guard (by rfl) ?_; dsimp only)); refine box_event ?hg (N := 2) ?hd (cs := #[.slice A0_0 l0_0.length c0_0, .int .i64 a0_1, .slice A0_2 l0_2.length c0_2, .int .i64 a0_3, .int .i64 a0_4, .bool a0_5]) (t := 50) ?hr ?_; (case hd => rfl); (case hg => rfl); (case hr => first | (go_simp; done) | (go_simp; rfl)); intro gb151 hg w4 hbox hb; have BK151 := am_ (hbox); have GW151 := am_ ((by rw [hg]; exact (below_size (bl_)) : w.heap.size ≤ gb151)); have GE151 := am_ ((by rw [hg]; exact (below_size (bl_)) : w.heap.size ≤ gb151)); replace HB := am_ (below_step (bl_) hb); clear hb hbox hg))
 (try simp only [Act.put, sa_, sz_, ss_])
 go_cut [22] (fun v22 wc => ∃ (kq : Nat) (x22_2 : Bool), v22 = .bool x22_2 ∧ Aside0 (sift_Passes.j0 kq l1 x22_2 l0_0 a0_1 l0_2 a0_3 a0_4 a0_5 = some r) ∧ Aside0 (kq ≤ k) ∧ Aside0 (wc.heap[gb151]? = some (.cells #[(.slice A0_0 l0_0.length c0_0), .int .i64 a0_1, (.slice A0_2 l0_2.length c0_2), .int .i64 a0_3, .int .i64 a0_4, .bool a0_5] 50 (0, 0))) ∧ Aside0 (Below w.heap.size w wc))
 case first =>
  have H := HC3.out; clear HC3
  by_cases c5 : a0_4 = 0
  ·rw [if_pos c5] at H
   have c5b0 : (a0_4 == 0) = true := beq_iff_eq.mpr c5; have c5b1 : (a0_4 != 0) = false := bne_eq_false_iff_eq.mpr c5; clear c5; (first | rw [c5b0] | (simp only [i64_w, i32_w]; rw [c5b0]) | skip); have H' := am_ H; clear H; obtain ⟨hcz6_0, hcz6_1, hcz6_2, hcz6_3, hcz6_4, hcz6_5, hfz6_0, hfz6_1, hfz6_2, hfz6_3, hfz6_4, hfz6_5⟩ := bw6_ BK151.out
   go_wp2
   go_meet
   case rel => exact ⟨_, (true), (rs_), H', ⟨by first | omega | exact Nat.le_refl _⟩, ⟨bk_ BK151.out⟩, ⟨bl_⟩⟩
  ·rw [if_neg c5] at H
   have c5b0 : (a0_4 == 0) = false := beq_eq_false_iff_ne.mpr c5; have c5b1 : (a0_4 != 0) = true := bne_iff_ne.mpr c5; (first | rw [c5b0] | (simp only [i64_w, i32_w]; rw [c5b0]) | skip); replace H := Option.bind_eq_some_iff.mp H; obtain ⟨t152, A70, H⟩ := H; replace H : (if t152 = true then (sift_Passes.j0 k l1 (decide ((l1.length : Int) > (l0_2.length : Int))) l0_0 a0_1 l0_2 a0_3 a0_4 a0_5) else (sift_Passes.j0 k l1 true l0_0 a0_1 l0_2 a0_3 a0_4 a0_5)) = some r := H; have A7 := am_ A70; clear A70
   by_cases c8 : t152 = true
   ·subst c8
    have H1 : (sift_Passes.j0 k l1 (decide ((l1.length : Int) > (l0_2.length : Int))) l0_0 a0_1 l0_2 a0_3 a0_4 a0_5) = some r := by rw [if_pos rfl] at H; exact H
    clear H; have H := H1; clear H1; have H' := am_ H; clear H; obtain ⟨hcz9_0, hcz9_1, hcz9_2, hcz9_3, hcz9_4, hcz9_5, hfz9_0, hfz9_1, hfz9_2, hfz9_3, hfz9_4, hfz9_5⟩ := bw6_ BK151.out
    go_wp2_with (first | (go_at_call 49; (with_reducible refine (sift_Whole.calls k _ _ l1 true _ ?side1 ?side2 A7.out).mono ?_); (case side1 => repeat (first | exact (Kd.C_below HR1.out HB.out) | (with_reducible refine Kd.C_alloc ?_ _) | (with_reducible refine Kd.C_drewN ?_ _) | (with_reducible refine Kd.C_drew ?_))); (case side2 => exact HC1.out); rintro e w10 ⟨rfl, hb⟩; replace BK151 := am_ (blk_below (bk_ BK151.out) hb); replace HB := am_ (below_step (bl_) hb); (try clear hb); (try clear hb2); (try clear hk); (try clear hi); obtain ⟨hcz11_0, hcz11_1, hcz11_2, hcz11_3, hcz11_4, hcz11_5, hfz11_0, hfz11_1, hfz11_2, hfz11_3, hfz11_4, hfz11_5⟩ := bw6_ BK151.out))
    go_meet
    case rel => exact ⟨_, (decide ((l1.length : Int) > (l0_2.length : Int))), (rs_), H', ⟨by first | omega | exact Nat.le_refl _⟩, ⟨bk_ BK151.out⟩, ⟨bl_⟩⟩
   ·replace c8 := Bool.eq_false_iff.mpr c8
    subst c8
    have H1 : (sift_Passes.j0 k l1 true l0_0 a0_1 l0_2 a0_3 a0_4 a0_5) = some r := by rw [if_neg (show ¬ (false = true) by decide)] at H; exact H
    clear H; have H := H1; clear H1; have H' := am_ H; clear H; obtain ⟨hcz12_0, hcz12_1, hcz12_2, hcz12_3, hcz12_4, hcz12_5, hfz12_0, hfz12_1, hfz12_2, hfz12_3, hfz12_4, hfz12_5⟩ := bw6_ BK151.out
    go_wp2_with (first | (go_at_call 49; (with_reducible refine (sift_Whole.calls k _ _ l1 false _ ?side1 ?side2 A7.out).mono ?_); (case side1 => repeat (first | exact (Kd.C_below HR1.out HB.out) | (with_reducible refine Kd.C_alloc ?_ _) | (with_reducible refine Kd.C_drewN ?_ _) | (with_reducible refine Kd.C_drew ?_))); (case side2 => exact HC1.out); rintro e w13 ⟨rfl, hb⟩; replace BK151 := am_ (blk_below (bk_ BK151.out) hb); replace HB := am_ (below_step (bl_) hb); (try clear hb); (try clear hb2); (try clear hk); (try clear hi)))
    go_meet
    case rel => exact ⟨_, (true), (rs_), H', ⟨by first | omega | exact Nat.le_refl _⟩, ⟨bk_ BK151.out⟩, ⟨bl_⟩⟩
 case rest =>
  clear HC3; (try clear c1); (try clear c2); (try clear p2); (try clear c5); (try clear c5b0); (try clear c5b1); (try clear c8); (try clear hcz11_0); (try clear hcz11_1); (try clear hcz11_2); (try clear hcz11_3); (try clear hcz11_4); (try clear hcz11_5); (try clear hcz12_0); (try clear hcz12_1); (try clear hcz12_2); (try clear hcz12_3); (try clear hcz12_4); (try clear hcz12_5); (try clear hcz6_0); (try clear hcz6_1); (try clear hcz6_2); (try clear hcz6_3); (try clear hcz6_4); (try clear hcz6_5); (try clear hcz9_0); (try clear hcz9_1); (try clear hcz9_2); (try clear hcz9_3); (try clear hcz9_4); (try clear hcz9_5); (try clear hfz11_0); (try clear hfz11_1); (try clear hfz11_2); (try clear hfz11_3); (try clear hfz11_4); (try clear hfz11_5); (try clear hfz12_0); (try clear hfz12_1); (try clear hfz12_2); (try clear hfz12_3); (try clear hfz12_4); (try clear hfz12_5); (try clear hfz6_0); (try clear hfz6_1); (try clear hfz6_2); (try clear hfz6_3); (try clear hfz6_4); (try clear hfz6_5); (try clear hfz9_0); (try clear hfz9_1); (try clear hfz9_2); (try clear hfz9_3); (try clear hfz9_4); (try clear hfz9_5); obtain ⟨kq, x22_2, rfl, HA, HJ2, BK151, HB⟩ := hcut
  cases kq with
  | zero => exact absurd HA.out (by simp [sift_Passes.j0])
  | succ kj2 =>
   have H := HA.out; clear HA; simp only [sift_Passes.j0] at H
   by_cases c14 : x22_2 = true
   ·subst c14
    have H1 : (some false) = some r := by rw [if_pos rfl] at H; exact H
    clear H; have H := H1; clear H1; obtain rfl := Option.some.inj H
    go_wp2
    go_ret
    exact ⟨ew_, bl_⟩
   ·replace c14 := Bool.eq_false_iff.mpr c14
    subst c14
    have H1 : (sift_Passes.l0 kj2 l1 l1 (l1.length : Int) 0 l0_0 a0_1 l0_2 a0_3 a0_4 a0_5) = some r := by rw [if_neg (show ¬ (false = true) by decide)] at H; exact H
    clear H; have H := H1; clear H1; have H' := am_ H; clear H
    go_wp2
    go_loopg [25] kj2 (fun kq v25 w' => ∃ (x25_2 : Int), v25 = .int .i64 x25_2 ∧ Aside0 (sift_Passes.l0 kq l1 l1 (l1.length : Int) x25_2 l0_0 a0_1 l0_2 a0_3 a0_4 a0_5 = some r) ∧ Aside0 (kq ≤ kj2) ∧ Aside0 (w'.heap[gb151]? = some (.cells #[(.slice A0_0 l0_0.length c0_0), .int .i64 a0_1, (.slice A0_2 l0_2.length c0_2), .int .i64 a0_3, .int .i64 a0_4, .bool a0_5] 50 (0, 0))) ∧ Aside0 (Below w.heap.size w w'))
    case atStart => exact ⟨(0), (rs_), H', ⟨Nat.le_refl _⟩, ⟨bk_ BK151.out⟩, ⟨bl_⟩⟩
    case round =>
     clear H'; (try clear c1); (try clear c2); (try clear p2); (try clear c5); (try clear c5b0); (try clear c5b1); (try clear c8); (try clear c14); (try clear hcz11_0); (try clear hcz11_1); (try clear hcz11_2); (try clear hcz11_3); (try clear hcz11_4); (try clear hcz11_5); (try clear hcz12_0); (try clear hcz12_1); (try clear hcz12_2); (try clear hcz12_3); (try clear hcz12_4); (try clear hcz12_5); (try clear hcz6_0); (try clear hcz6_1); (try clear hcz6_2); (try clear hcz6_3); (try clear hcz6_4); (try clear hcz6_5); (try clear hcz9_0); (try clear hcz9_1); (try clear hcz9_2); (try clear hcz9_3); (try clear hcz9_4); (try clear hcz9_5); (try clear hfz11_0); (try clear hfz11_1); (try clear hfz11_2); (try clear hfz11_3); (try clear hfz11_4); (try clear hfz11_5); (try clear hfz12_0); (try clear hfz12_1); (try clear hfz12_2); (try clear hfz12_3); (try clear hfz12_4); (try clear hfz12_5); (try clear hfz6_0); (try clear hfz6_1); (try clear hfz6_2); (try clear hfz6_3); (try clear hfz6_4); (try clear hfz6_5); (try clear hfz9_0); (try clear hfz9_1); (try clear hfz9_2); (try clear hfz9_3); (try clear hfz9_4); (try clear hfz9_5); (try clear p2); obtain ⟨x25_2, rfl, HA, HK2, BK151, HB⟩ := hrel
     cases gk with
     | zero => exact absurd HA.out (by simp [sift_Passes.l0])
     | succ k2 =>
      have H := HA.out; clear HA; simp only [sift_Passes.l0] at H
      by_cases c15 : x25_2 < (l1.length : Int)
      ·rw [if_pos c15] at H
       have c15b0 : decide (x25_2 < (l1.length : Int)) = true := decide_eq_true c15; clear c15
       by_cases c16 : 0 ≤ x25_2
       ·rw [if_pos c16] at H
        have c16b0 : decide (0 ≤ x25_2) = true := decide_eq_true c16; clear c16
        by_cases c17 : x25_2 < (l1.length : Int)
        ·rw [if_pos c17] at H
         have c17b0 : decide (x25_2 < (l1.length : Int)) = true := decide_eq_true c17; clear c17
         by_cases c18 : x25_2 < (l0_2.length : Int)
         ·rw [if_pos c18] at H
          have c18b0 : decide (x25_2 < (l0_2.length : Int)) = true := decide_eq_true c18; clear c18; replace H := Option.bind_eq_some_iff.mp H; obtain ⟨t156, A190, H⟩ := H; replace H : (if t156 = true then (sift_Passes.l0 k2 l1 l1 (l1.length : Int) (wrap64 (x25_2 + 1)) l0_0 a0_1 l0_2 a0_3 a0_4 a0_5) else (some false)) = some r := H; have A19 := am_ A190; clear A190
          by_cases c20 : t156 = true
          ·subst c20
           have H1 : (sift_Passes.l0 k2 l1 l1 (l1.length : Int) (wrap64 (x25_2 + 1)) l0_0 a0_1 l0_2 a0_3 a0_4 a0_5) = some r := by rw [if_pos rfl] at H; exact H
           clear H; have H := H1; clear H1; have H' := am_ H; clear H; have p153 : 0 ≤ (x25_2 : Int) := of_decide_eq_true (as_); have q153 : x25_2 < (l1.length : Int) := of_decide_eq_true (as_); obtain ⟨ad153, e153, hx153_0, hx153_1, hx153_2⟩ := at_T23 HR1.out x25_2 p153 q153; cases e153; replace hx153_0 := (HB.out.cell (World.block_lt_of_cell? w _ hx153_0)).trans hx153_0; replace hx153_1 := (HB.out.cell (World.block_lt_of_cell? w _ hx153_1)).trans hx153_1; replace hx153_2 := (HB.out.cell (World.block_lt_of_cell? w _ hx153_2)).trans hx153_2; replace p153 := eq_true p153; replace q153 := eq_true q153
           try go_wp2_with (first | ((with_reducible refine gate_dst (N := 6) rfl ?_); (try (refine gate_guard (by rfl) ?_; dsimp only)); refine box_event ?hg (N := 6) ?hd (cs := #[.int .i64 0, .int .i64 0, .string (⟨#[]⟩ : ByteArray)]) (t := 23) ?hr ?_; (case hd => rfl); (case hg => rfl); (case hr => first | (go_simp; done) | (go_simp; rfl)); intro gb154 hg w21 hbox hb; have n0_ := am_ (blk_below (bk_ BK151.out) hb); have n1_ := am_ (below_step (bl_) hb); have n2_ := am_ (hbox); have n3_ := am_ ((by rw [hg]; exact (below_size (bl_)) : w.heap.size ≤ gb154)); have n4_ := am_ ((by rw [hg]; exact (below_size (bl_)) : w.heap.size ≤ gb154)); have n5_ := am_ ((by rw [hg]; exact Nat.ne_of_lt (blk_lt (g := gb151) (o := .cells #[.slice A0_0 l0_0.length c0_0, .int .i64 a0_1, .slice A0_2 l0_2.length c0_2, .int .i64 a0_3, .int .i64 a0_4, .bool a0_5] 50 (0, 0)) (bk_ BK151.out)) : gb151 ≠ gb154)); have n6_ := am_ ((by rw [hg]; exact Nat.ne_of_gt (blk_lt (g := gb151) (o := .cells #[.slice A0_0 l0_0.length c0_0, .int .i64 a0_1, .slice A0_2 l0_2.length c0_2, .int .i64 a0_3, .int .i64 a0_4, .bool a0_5] 50 (0, 0)) (bk_ BK151.out)) : gb154 ≠ gb151)); clear BK151; clear HB; have BK151 := n0_; have HB := n1_; have BK154 := n2_; have GW154 := n3_; have GE154 := n4_; have NB151_154 := n5_; have NB154_151 := n6_; clear n0_ n1_ n2_ n3_ n4_ n5_ n6_; clear hb hbox hg; have hnb22 := NB154_151.out; have hnc22 := NB151_154.out; obtain ⟨hcz23_0, hcz23_1, hcz23_2, hfz23_0, hfz23_1, hfz23_2⟩ := bw3_ BK154.out))
           have n0_ : Aside0 ((((w21.setCell ⟨gb154, 0, none⟩ (.int .i64 ((rd_T23 l1 x25_2).f0))).setCell ⟨gb154, 1, none⟩ (.int .i64 ((rd_T23 l1 x25_2).f1))).setCell ⟨gb154, 2, none⟩ (.string ((rd_T23 l1 x25_2).f2))).heap[gb151]? = some (.cells #[.slice A0_0 l0_0.length c0_0, .int .i64 a0_1, .slice A0_2 l0_2.length c0_2, .int .i64 a0_3, .int .i64 a0_4, .bool a0_5] 50 (0, 0))) := ⟨by refine bp_ ?_; refine blk_far ?_ NB151_154.out _; refine bp_ ?_; refine blk_far ?_ NB151_154.out _; refine bp_ ?_; refine blk_far ?_ NB151_154.out _; refine bp_ ?_; exact BK151.out⟩; have n1_ : Aside0 ((((w21.setCell ⟨gb154, 0, none⟩ (.int .i64 ((rd_T23 l1 x25_2).f0))).setCell ⟨gb154, 1, none⟩ (.int .i64 ((rd_T23 l1 x25_2).f1))).setCell ⟨gb154, 2, none⟩ (.string ((rd_T23 l1 x25_2).f2))).heap[gb154]? = some (.cells #[.int .i64 ((rd_T23 l1 x25_2).f0), .int .i64 ((rd_T23 l1 x25_2).f1), .string ((rd_T23 l1 x25_2).f2)] 23 (0, 0))) := ⟨by refine bp_ ?_; refine blk_put (cs := #[.int .i64 ((rd_T23 l1 x25_2).f0), .int .i64 ((rd_T23 l1 x25_2).f1), .string (⟨#[]⟩ : ByteArray)]) ?_ 2 _ rfl; refine bp_ ?_; refine blk_put (cs := #[.int .i64 ((rd_T23 l1 x25_2).f0), .int .i64 0, .string (⟨#[]⟩ : ByteArray)]) ?_ 1 _ rfl; refine bp_ ?_; refine blk_put (cs := #[.int .i64 0, .int .i64 0, .string (⟨#[]⟩ : ByteArray)]) ?_ 0 _ rfl; refine bp_ ?_; exact BK154.out⟩; have n2_ : Aside0 (Below w.heap.size w (((w21.setCell ⟨gb154, 0, none⟩ (.int .i64 ((rd_T23 l1 x25_2).f0))).setCell ⟨gb154, 1, none⟩ (.int .i64 ((rd_T23 l1 x25_2).f1))).setCell ⟨gb154, 2, none⟩ (.string ((rd_T23 l1 x25_2).f2)))) := ⟨bl_⟩; (try clear BK151); (try clear BK154); (try clear HB)
           generalize (((w21.setCell ⟨gb154, 0, none⟩ (.int .i64 ((rd_T23 l1 x25_2).f0))).setCell ⟨gb154, 1, none⟩ (.int .i64 ((rd_T23 l1 x25_2).f1))).setCell ⟨gb154, 2, none⟩ (.string ((rd_T23 l1 x25_2).f2))) = w24 at n0_ n1_ n2_ ⊢
           have BK151 := n0_; have BK154 := n1_; have HB := n2_; clear n0_ n1_ n2_; have n0_ := am_ (blk_drew BK151.out); have n1_ := am_ (blk_drew BK154.out); have n2_ := am_ (below_drew1 HB.out); clear BK151; clear BK154; clear HB; have BK151 := n0_; have BK154 := n1_; have HB := n2_; clear n0_ n1_ n2_; have p155 : 0 ≤ (x25_2 : Int) := of_decide_eq_true (as_); have q155 : x25_2 < (l0_2.length : Int) := of_decide_eq_true (as_); obtain ⟨ad155, e155, hx155_0, hx155_1, hx155_2, hx155_3, hx155_4, hx155_5, hx155_6, hx155_7⟩ := at_T106 HR0_2.out x25_2 p155 q155; have hw155_7 := hx155_7; have hw155_6 := hx155_6; have hw155_5 := hx155_5; have hw155_4 := hx155_4; have hw155_3 := hx155_3; have hw155_2 := hx155_2; have hw155_1 := hx155_1; have hw155_0 := hx155_0; cases e155; replace hx155_0 := (HB.out.cell (World.block_lt_of_cell? w _ hx155_0)).trans hx155_0; replace hx155_1 := (HB.out.cell (World.block_lt_of_cell? w _ hx155_1)).trans hx155_1; replace hx155_2 := (HB.out.cell (World.block_lt_of_cell? w _ hx155_2)).trans hx155_2; replace hx155_3 := (HB.out.cell (World.block_lt_of_cell? w _ hx155_3)).trans hx155_3; replace hx155_4 := (HB.out.cell (World.block_lt_of_cell? w _ hx155_4)).trans hx155_4; replace hx155_5 := (HB.out.cell (World.block_lt_of_cell? w _ hx155_5)).trans hx155_5; replace hx155_6 := (HB.out.cell (World.block_lt_of_cell? w _ hx155_6)).trans hx155_6; replace hx155_7 := (HB.out.cell (World.block_lt_of_cell? w _ hx155_7)).trans hx155_7; replace p155 := eq_true p155; replace q155 := eq_true q155
           refine start_ (n := 8) (S := fun w' => w'.cell? ⟨gb151, 0, none⟩ = some (.slice A0_0 l0_0.length c0_0) ∧ w'.cell? ⟨gb151, 1, none⟩ = some (.int .i64 a0_1) ∧ w'.cell? ⟨gb151, 2, none⟩ = some (.slice (some ad155) l0_2.length c0_2) ∧ w'.cell? ⟨gb151, 3, none⟩ = some (.int .i64 a0_3) ∧ w'.cell? ⟨gb151, 4, none⟩ = some (.int .i64 a0_4) ∧ w'.cell? ⟨gb151, 5, none⟩ = some (.bool a0_5) ∧ w'.cell? ⟨gb154, 0, none⟩ = some (.int .i64 ((rd_T23 l1 x25_2).f0)) ∧ w'.cell? ⟨gb154, 1, none⟩ = some (.int .i64 ((rd_T23 l1 x25_2).f1)) ∧ w'.cell? ⟨gb154, 2, none⟩ = some (.string ((rd_T23 l1 x25_2).f2)) ∧ w'.cell? (ad155.add ((x25_2).toNat * 8)) = some (.int .i64 ((rd_T106 l0_2 x25_2).f0.f0)) ∧ w'.cell? ⟨(ad155.add ((x25_2).toNat * 8)).block, (ad155.add ((x25_2).toNat * 8)).off + 1, none⟩ = some (.int .i64 ((rd_T106 l0_2 x25_2).f0.f1)) ∧ w'.cell? ⟨(ad155.add ((x25_2).toNat * 8)).block, (ad155.add ((x25_2).toNat * 8)).off + 2, none⟩ = some (.string ((rd_T106 l0_2 x25_2).f0.f2)) ∧ w'.cell? ⟨(ad155.add ((x25_2).toNat * 8)).block, (ad155.add ((x25_2).toNat * 8)).off + 3, none⟩ = some (.int .i64 ((rd_T106 l0_2 x25_2).f1.f0)) ∧ w'.cell? ⟨(ad155.add ((x25_2).toNat * 8)).block, (ad155.add ((x25_2).toNat * 8)).off + 4, none⟩ = some (.int .i64 ((rd_T106 l0_2 x25_2).f1.f1)) ∧ w'.cell? ⟨(ad155.add ((x25_2).toNat * 8)).block, (ad155.add ((x25_2).toNat * 8)).off + 5, none⟩ = some (.string ((rd_T106 l0_2 x25_2).f1.f2)) ∧ w'.cell? ⟨(ad155.add ((x25_2).toNat * 8)).block, (ad155.add ((x25_2).toNat * 8)).off + 6, none⟩ = some (.int .i64 ((rd_T106 l0_2 x25_2).f2)) ∧ w'.cell? ⟨(ad155.add ((x25_2).toNat * 8)).block, (ad155.add ((x25_2).toNat * 8)).off + 7, none⟩ = some (.int .i64 ((rd_T106 l0_2 x25_2).f3))) (ds := []) #[false, false, false, false, false, false, false, false] (by kernel_rfl) rfl rfl ⟨bc_ BK151.out 0, bc_ BK151.out 1, bc_ BK151.out 2, bc_ BK151.out 3, bc_ BK151.out 4, bc_ BK151.out 5, bc_ BK154.out 0, bc_ BK154.out 1, bc_ BK154.out 2, ((HB.out.cell (World.block_lt_of_cell? w _ hw155_0)).trans hw155_0), ((HB.out.cell (World.block_lt_of_cell? w _ hw155_1)).trans hw155_1), ((HB.out.cell (World.block_lt_of_cell? w _ hw155_2)).trans hw155_2), ((HB.out.cell (World.block_lt_of_cell? w _ hw155_3)).trans hw155_3), ((HB.out.cell (World.block_lt_of_cell? w _ hw155_4)).trans hw155_4), ((HB.out.cell (World.block_lt_of_cell? w _ hw155_5)).trans hw155_5), ((HB.out.cell (World.block_lt_of_cell? w _ hw155_6)).trans hw155_6), ((HB.out.cell (World.block_lt_of_cell? w _ hw155_7)).trans hw155_7)⟩ (fun hHeld => ?_); refine with_tabW sift_Passes.tab6 sift_Passes.bits6 (fun HT_ HW_ => ?_)
           generalize w24.drew = w25 at BK151 BK154 HB hx155_0 hx155_1 hx155_2 hx155_3 hx155_4 hx155_5 hx155_6 hx155_7 hHeld ⊢
           refine pure_ (i := 0) (N := some 30) (v := ?_) (a' := ?_) #[true, false, false, false, false, false, false, false] rfl rfl (any_of HT_.out (by kernel_rfl)) (fun _ _ _ h => h) (Or.inl ⟨by rfl, ?_⟩) ?_ ?_; rotate_left
           ·intro w'
            go_simp; (with_reducible rfl)
           rotate_left
           ·simp only [Act.put, sa_, sz_, ss_, i64_w, i32_w]
            rfl
           refine pure_ (i := 2) (N := some 32) (v := ?_) (a' := ?_) #[true, false, true, false, false, false, false, false] rfl rfl (any_of HT_.out (by kernel_rfl)) (fun _ _ _ h => h) (Or.inl ⟨by rfl, ?_⟩) ?_ ?_; rotate_left
           ·intro w'
            go_simp; (with_reducible rfl)
           rotate_left
           ·simp only [Act.put, sa_, sz_, ss_, i64_w, i32_w]
            rfl
           refine take_ (i := 1) (N := some 31) (v := ?_) (a' := ?_) #[true, true, true, false, false, false, false, false] rfl rfl (take_ofW HT_.out HW_.out (by kernel_rfl)) (fun _ _ _ h => h) (Or.inl ⟨by rfl, ?_⟩) hHeld ?_ ?_; rotate_left
           ·rintro w' ⟨s0, s1, s2, s3, s4, s5, s6, s7, s8, s9, s10, s11, s12, s13, s14, s15, s16⟩
            go_simp; (with_reducible rfl)
           rotate_left
           ·simp only [Act.put, sa_, sz_, ss_, i64_w, i32_w]
            rfl
           refine pure_ (i := 3) (N := some 33) (v := ?_) (a' := ?_) #[true, true, true, true, false, false, false, false] rfl rfl (any_of HT_.out (by kernel_rfl)) (fun _ _ _ h => h) (Or.inl ⟨by rfl, ?_⟩) ?_ ?_; rotate_left
           ·intro w'
            go_simp; (with_reducible rfl)
           rotate_left
           ·simp only [Act.put, sa_, sz_, ss_, i64_w, i32_w]
            rfl
           refine take_ (i := 4) (N := some 34) (v := ?_) (a' := ?_) #[true, true, true, true, true, false, false, false] rfl rfl (take_ofW HT_.out HW_.out (by kernel_rfl)) (fun _ _ _ h => h) (Or.inl ⟨by rfl, ?_⟩) hHeld ?_ ?_; rotate_left
           ·rintro w' ⟨s0, s1, s2, s3, s4, s5, s6, s7, s8, s9, s10, s11, s12, s13, s14, s15, s16⟩
            go_simp; (with_reducible rfl)
           rotate_left
           ·simp only [Act.put, sa_, sz_, ss_, i64_w, i32_w]
            rfl
           refine take_ (i := 5) (N := some 35) (v := ?_) (a' := ?_) #[true, true, true, true, true, true, false, false] rfl rfl (take_ofW HT_.out HW_.out (by kernel_rfl)) (fun _ _ _ h => h) (Or.inl ⟨by rfl, ?_⟩) hHeld ?_ ?_; rotate_left
           ·rintro w' ⟨s0, s1, s2, s3, s4, s5, s6, s7, s8, s9, s10, s11, s12, s13, s14, s15, s16⟩
            go_simp; (with_reducible rfl)
           rotate_left
           ·simp only [Act.put, sa_, sz_, ss_, i64_w, i32_w]
            rfl
           refine one_ (i := 6) (N := some 36) #[true, true, true, true, true, true, true, false] rfl rfl (one_of HT_.out (by kernel_rfl)) (by decide) (fun K hK => ?_); refine goes_ Tryd.func68 (by kernel_rfl) rfl #[.agg #[.int .i64 ((rd_T106 l0_2 x25_2).f0.f0), .int .i64 ((rd_T106 l0_2 x25_2).f0.f1), .string ((rd_T106 l0_2 x25_2).f0.f2), .int .i64 ((rd_T106 l0_2 x25_2).f1.f0), .int .i64 ((rd_T106 l0_2 x25_2).f1.f1), .string ((rd_T106 l0_2 x25_2).f1.f2), .int .i64 ((rd_T106 l0_2 x25_2).f2), .int .i64 ((rd_T106 l0_2 x25_2).f3)], .agg #[.int .i64 ((rd_T23 l1 x25_2).f0), .int .i64 ((rd_T23 l1 x25_2).f1), .string ((rd_T23 l1 x25_2).f2)]] (by rfl) rfl rfl (by (try simp only [List.map_toArray, List.map_cons, List.map_nil]); first | done | rfl | (simp only [List.length_drop, List.length_take]; rfl)) ?_; (with_reducible refine (span_Has.calls k2 ((rd_T106 l0_2 x25_2).f0.f0) ((rd_T106 l0_2 x25_2).f0.f1) ((rd_T106 l0_2 x25_2).f0.f2) ((rd_T106 l0_2 x25_2).f1.f0) ((rd_T106 l0_2 x25_2).f1.f1) ((rd_T106 l0_2 x25_2).f1.f2) ((rd_T106 l0_2 x25_2).f2) ((rd_T106 l0_2 x25_2).f3) ((rd_T23 l1 x25_2).f0) ((rd_T23 l1 x25_2).f1) ((rd_T23 l1 x25_2).f2) true _ A19.out).mono ?_); rintro e w26 ⟨rfl, hb⟩; refine ⟨_, rfl, ?_⟩; have n0_ := am_ (blk_below (bk_ BK151.out) hb); have n1_ := am_ (blk_below (bk_ BK154.out) hb); have n2_ := am_ (below_step (bl_) hb); clear BK151; clear BK154; clear HB; have BK151 := n0_; have BK154 := n1_; have HB := n2_; clear n0_ n1_ n2_; (try clear hb); (try clear hb2); (try clear hk); (try clear hi); refine hK.out _ _ ⟨bc_ BK151.out 0, bc_ BK151.out 1, bc_ BK151.out 2, bc_ BK151.out 3, bc_ BK151.out 4, bc_ BK151.out 5, bc_ BK154.out 0, bc_ BK154.out 1, bc_ BK154.out 2, ((HB.out.cell (World.block_lt_of_cell? w _ hw155_0)).trans hw155_0), ((HB.out.cell (World.block_lt_of_cell? w _ hw155_1)).trans hw155_1), ((HB.out.cell (World.block_lt_of_cell? w _ hw155_2)).trans hw155_2), ((HB.out.cell (World.block_lt_of_cell? w _ hw155_3)).trans hw155_3), ((HB.out.cell (World.block_lt_of_cell? w _ hw155_4)).trans hw155_4), ((HB.out.cell (World.block_lt_of_cell? w _ hw155_5)).trans hw155_5), ((HB.out.cell (World.block_lt_of_cell? w _ hw155_6)).trans hw155_6), ((HB.out.cell (World.block_lt_of_cell? w _ hw155_7)).trans hw155_7)⟩ (fun hHeld => ?_); clear hK K; refine norm_ (a' := ?_) ?_ ?_; rotate_left
           ·show Act.put _ (some 36) _ = _
            simp only [Act.put, sa_, sz_, ss_, i64_w, i32_w]; rfl
           refine pure_ (i := 7) (N := some 37) (v := ?_) (a' := ?_) #[true, true, true, true, true, true, true, true] rfl rfl (any_of HT_.out (by kernel_rfl)) (fun _ _ _ h => h) (Or.inl ⟨by rfl, ?_⟩) ?_ ?_; rotate_left
           ·intro w'
            go_simp; (with_reducible rfl)
           rotate_left
           ·simp only [Act.put, sa_, sz_, ss_, i64_w, i32_w]
            rfl
           refine done_ (done_of HT_.out (by kernel_rfl)) ?_
           try go_wp2
           go_roundg k2
           case measure => have := HJ2.out; have := HK2.out; omega
           case rel => exact ⟨(wrap64 (x25_2 + 1)), (rs_), H', ⟨by have := HJ2.out; have := HK2.out; omega⟩, ⟨bk_ BK151.out⟩, ⟨bl_⟩⟩
          ·replace c20 := Bool.eq_false_iff.mpr c20
           subst c20
           have H1 : (some false) = some r := by rw [if_neg (show ¬ (false = true) by decide)] at H; exact H
           clear H; have H := H1; clear H1; obtain rfl := Option.some.inj H; have p153 : 0 ≤ (x25_2 : Int) := of_decide_eq_true (as_); have q153 : x25_2 < (l1.length : Int) := of_decide_eq_true (as_); obtain ⟨ad153, e153, hx153_0, hx153_1, hx153_2⟩ := at_T23 HR1.out x25_2 p153 q153; cases e153; replace hx153_0 := (HB.out.cell (World.block_lt_of_cell? w _ hx153_0)).trans hx153_0; replace hx153_1 := (HB.out.cell (World.block_lt_of_cell? w _ hx153_1)).trans hx153_1; replace hx153_2 := (HB.out.cell (World.block_lt_of_cell? w _ hx153_2)).trans hx153_2; replace p153 := eq_true p153; replace q153 := eq_true q153
           try go_wp2_with (first | ((with_reducible refine gate_dst (N := 6) rfl ?_); (try (refine gate_guard (by rfl) ?_; dsimp only)); refine box_event ?hg (N := 6) ?hd (cs := #[.int .i64 0, .int .i64 0, .string (⟨#[]⟩ : ByteArray)]) (t := 23) ?hr ?_; (case hd => rfl); (case hg => rfl); (case hr => first | (go_simp; done) | (go_simp; rfl)); intro gb154 hg w27 hbox hb; have n0_ := am_ (blk_below (bk_ BK151.out) hb); have n1_ := am_ (below_step (bl_) hb); have n2_ := am_ (hbox); have n3_ := am_ ((by rw [hg]; exact (below_size (bl_)) : w.heap.size ≤ gb154)); have n4_ := am_ ((by rw [hg]; exact (below_size (bl_)) : w.heap.size ≤ gb154)); have n5_ := am_ ((by rw [hg]; exact Nat.ne_of_lt (blk_lt (g := gb151) (o := .cells #[.slice A0_0 l0_0.length c0_0, .int .i64 a0_1, .slice A0_2 l0_2.length c0_2, .int .i64 a0_3, .int .i64 a0_4, .bool a0_5] 50 (0, 0)) (bk_ BK151.out)) : gb151 ≠ gb154)); have n6_ := am_ ((by rw [hg]; exact Nat.ne_of_gt (blk_lt (g := gb151) (o := .cells #[.slice A0_0 l0_0.length c0_0, .int .i64 a0_1, .slice A0_2 l0_2.length c0_2, .int .i64 a0_3, .int .i64 a0_4, .bool a0_5] 50 (0, 0)) (bk_ BK151.out)) : gb154 ≠ gb151)); clear BK151; clear HB; have BK151 := n0_; have HB := n1_; have BK154 := n2_; have GW154 := n3_; have GE154 := n4_; have NB151_154 := n5_; have NB154_151 := n6_; clear n0_ n1_ n2_ n3_ n4_ n5_ n6_; clear hb hbox hg; have hnb28 := NB154_151.out; have hnc28 := NB151_154.out; obtain ⟨hcz29_0, hcz29_1, hcz29_2, hfz29_0, hfz29_1, hfz29_2⟩ := bw3_ BK154.out))
           have n0_ : Aside0 ((((w27.setCell ⟨gb154, 0, none⟩ (.int .i64 ((rd_T23 l1 x25_2).f0))).setCell ⟨gb154, 1, none⟩ (.int .i64 ((rd_T23 l1 x25_2).f1))).setCell ⟨gb154, 2, none⟩ (.string ((rd_T23 l1 x25_2).f2))).heap[gb151]? = some (.cells #[.slice A0_0 l0_0.length c0_0, .int .i64 a0_1, .slice A0_2 l0_2.length c0_2, .int .i64 a0_3, .int .i64 a0_4, .bool a0_5] 50 (0, 0))) := ⟨by refine bp_ ?_; refine blk_far ?_ NB151_154.out _; refine bp_ ?_; refine blk_far ?_ NB151_154.out _; refine bp_ ?_; refine blk_far ?_ NB151_154.out _; refine bp_ ?_; exact BK151.out⟩; have n1_ : Aside0 ((((w27.setCell ⟨gb154, 0, none⟩ (.int .i64 ((rd_T23 l1 x25_2).f0))).setCell ⟨gb154, 1, none⟩ (.int .i64 ((rd_T23 l1 x25_2).f1))).setCell ⟨gb154, 2, none⟩ (.string ((rd_T23 l1 x25_2).f2))).heap[gb154]? = some (.cells #[.int .i64 ((rd_T23 l1 x25_2).f0), .int .i64 ((rd_T23 l1 x25_2).f1), .string ((rd_T23 l1 x25_2).f2)] 23 (0, 0))) := ⟨by refine bp_ ?_; refine blk_put (cs := #[.int .i64 ((rd_T23 l1 x25_2).f0), .int .i64 ((rd_T23 l1 x25_2).f1), .string (⟨#[]⟩ : ByteArray)]) ?_ 2 _ rfl; refine bp_ ?_; refine blk_put (cs := #[.int .i64 ((rd_T23 l1 x25_2).f0), .int .i64 0, .string (⟨#[]⟩ : ByteArray)]) ?_ 1 _ rfl; refine bp_ ?_; refine blk_put (cs := #[.int .i64 0, .int .i64 0, .string (⟨#[]⟩ : ByteArray)]) ?_ 0 _ rfl; refine bp_ ?_; exact BK154.out⟩; have n2_ : Aside0 (Below w.heap.size w (((w27.setCell ⟨gb154, 0, none⟩ (.int .i64 ((rd_T23 l1 x25_2).f0))).setCell ⟨gb154, 1, none⟩ (.int .i64 ((rd_T23 l1 x25_2).f1))).setCell ⟨gb154, 2, none⟩ (.string ((rd_T23 l1 x25_2).f2)))) := ⟨bl_⟩; (try clear BK151); (try clear BK154); (try clear HB)
           generalize (((w27.setCell ⟨gb154, 0, none⟩ (.int .i64 ((rd_T23 l1 x25_2).f0))).setCell ⟨gb154, 1, none⟩ (.int .i64 ((rd_T23 l1 x25_2).f1))).setCell ⟨gb154, 2, none⟩ (.string ((rd_T23 l1 x25_2).f2))) = w30 at n0_ n1_ n2_ ⊢
           have BK151 := n0_; have BK154 := n1_; have HB := n2_; clear n0_ n1_ n2_; have n0_ := am_ (blk_drew BK151.out); have n1_ := am_ (blk_drew BK154.out); have n2_ := am_ (below_drew1 HB.out); clear BK151; clear BK154; clear HB; have BK151 := n0_; have BK154 := n1_; have HB := n2_; clear n0_ n1_ n2_; have p155 : 0 ≤ (x25_2 : Int) := of_decide_eq_true (as_); have q155 : x25_2 < (l0_2.length : Int) := of_decide_eq_true (as_); obtain ⟨ad155, e155, hx155_0, hx155_1, hx155_2, hx155_3, hx155_4, hx155_5, hx155_6, hx155_7⟩ := at_T106 HR0_2.out x25_2 p155 q155; have hw155_7 := hx155_7; have hw155_6 := hx155_6; have hw155_5 := hx155_5; have hw155_4 := hx155_4; have hw155_3 := hx155_3; have hw155_2 := hx155_2; have hw155_1 := hx155_1; have hw155_0 := hx155_0; cases e155; replace hx155_0 := (HB.out.cell (World.block_lt_of_cell? w _ hx155_0)).trans hx155_0; replace hx155_1 := (HB.out.cell (World.block_lt_of_cell? w _ hx155_1)).trans hx155_1; replace hx155_2 := (HB.out.cell (World.block_lt_of_cell? w _ hx155_2)).trans hx155_2; replace hx155_3 := (HB.out.cell (World.block_lt_of_cell? w _ hx155_3)).trans hx155_3; replace hx155_4 := (HB.out.cell (World.block_lt_of_cell? w _ hx155_4)).trans hx155_4; replace hx155_5 := (HB.out.cell (World.block_lt_of_cell? w _ hx155_5)).trans hx155_5; replace hx155_6 := (HB.out.cell (World.block_lt_of_cell? w _ hx155_6)).trans hx155_6; replace hx155_7 := (HB.out.cell (World.block_lt_of_cell? w _ hx155_7)).trans hx155_7; replace p155 := eq_true p155; replace q155 := eq_true q155
           refine start_ (n := 8) (S := fun w' => w'.cell? ⟨gb151, 0, none⟩ = some (.slice A0_0 l0_0.length c0_0) ∧ w'.cell? ⟨gb151, 1, none⟩ = some (.int .i64 a0_1) ∧ w'.cell? ⟨gb151, 2, none⟩ = some (.slice (some ad155) l0_2.length c0_2) ∧ w'.cell? ⟨gb151, 3, none⟩ = some (.int .i64 a0_3) ∧ w'.cell? ⟨gb151, 4, none⟩ = some (.int .i64 a0_4) ∧ w'.cell? ⟨gb151, 5, none⟩ = some (.bool a0_5) ∧ w'.cell? ⟨gb154, 0, none⟩ = some (.int .i64 ((rd_T23 l1 x25_2).f0)) ∧ w'.cell? ⟨gb154, 1, none⟩ = some (.int .i64 ((rd_T23 l1 x25_2).f1)) ∧ w'.cell? ⟨gb154, 2, none⟩ = some (.string ((rd_T23 l1 x25_2).f2)) ∧ w'.cell? (ad155.add ((x25_2).toNat * 8)) = some (.int .i64 ((rd_T106 l0_2 x25_2).f0.f0)) ∧ w'.cell? ⟨(ad155.add ((x25_2).toNat * 8)).block, (ad155.add ((x25_2).toNat * 8)).off + 1, none⟩ = some (.int .i64 ((rd_T106 l0_2 x25_2).f0.f1)) ∧ w'.cell? ⟨(ad155.add ((x25_2).toNat * 8)).block, (ad155.add ((x25_2).toNat * 8)).off + 2, none⟩ = some (.string ((rd_T106 l0_2 x25_2).f0.f2)) ∧ w'.cell? ⟨(ad155.add ((x25_2).toNat * 8)).block, (ad155.add ((x25_2).toNat * 8)).off + 3, none⟩ = some (.int .i64 ((rd_T106 l0_2 x25_2).f1.f0)) ∧ w'.cell? ⟨(ad155.add ((x25_2).toNat * 8)).block, (ad155.add ((x25_2).toNat * 8)).off + 4, none⟩ = some (.int .i64 ((rd_T106 l0_2 x25_2).f1.f1)) ∧ w'.cell? ⟨(ad155.add ((x25_2).toNat * 8)).block, (ad155.add ((x25_2).toNat * 8)).off + 5, none⟩ = some (.string ((rd_T106 l0_2 x25_2).f1.f2)) ∧ w'.cell? ⟨(ad155.add ((x25_2).toNat * 8)).block, (ad155.add ((x25_2).toNat * 8)).off + 6, none⟩ = some (.int .i64 ((rd_T106 l0_2 x25_2).f2)) ∧ w'.cell? ⟨(ad155.add ((x25_2).toNat * 8)).block, (ad155.add ((x25_2).toNat * 8)).off + 7, none⟩ = some (.int .i64 ((rd_T106 l0_2 x25_2).f3))) (ds := []) #[false, false, false, false, false, false, false, false] (by kernel_rfl) rfl rfl ⟨bc_ BK151.out 0, bc_ BK151.out 1, bc_ BK151.out 2, bc_ BK151.out 3, bc_ BK151.out 4, bc_ BK151.out 5, bc_ BK154.out 0, bc_ BK154.out 1, bc_ BK154.out 2, ((HB.out.cell (World.block_lt_of_cell? w _ hw155_0)).trans hw155_0), ((HB.out.cell (World.block_lt_of_cell? w _ hw155_1)).trans hw155_1), ((HB.out.cell (World.block_lt_of_cell? w _ hw155_2)).trans hw155_2), ((HB.out.cell (World.block_lt_of_cell? w _ hw155_3)).trans hw155_3), ((HB.out.cell (World.block_lt_of_cell? w _ hw155_4)).trans hw155_4), ((HB.out.cell (World.block_lt_of_cell? w _ hw155_5)).trans hw155_5), ((HB.out.cell (World.block_lt_of_cell? w _ hw155_6)).trans hw155_6), ((HB.out.cell (World.block_lt_of_cell? w _ hw155_7)).trans hw155_7)⟩ (fun hHeld => ?_); refine with_tabW sift_Passes.tab6 sift_Passes.bits6 (fun HT_ HW_ => ?_)
           generalize w30.drew = w31 at BK151 BK154 HB hx155_0 hx155_1 hx155_2 hx155_3 hx155_4 hx155_5 hx155_6 hx155_7 hHeld ⊢
           refine pure_ (i := 0) (N := some 30) (v := ?_) (a' := ?_) #[true, false, false, false, false, false, false, false] rfl rfl (any_of HT_.out (by kernel_rfl)) (fun _ _ _ h => h) (Or.inl ⟨by rfl, ?_⟩) ?_ ?_; rotate_left
           ·intro w'
            go_simp; (with_reducible rfl)
           rotate_left
           ·simp only [Act.put, sa_, sz_, ss_, i64_w, i32_w]
            rfl
           refine pure_ (i := 2) (N := some 32) (v := ?_) (a' := ?_) #[true, false, true, false, false, false, false, false] rfl rfl (any_of HT_.out (by kernel_rfl)) (fun _ _ _ h => h) (Or.inl ⟨by rfl, ?_⟩) ?_ ?_; rotate_left
           ·intro w'
            go_simp; (with_reducible rfl)
           rotate_left
           ·simp only [Act.put, sa_, sz_, ss_, i64_w, i32_w]
            rfl
           refine take_ (i := 1) (N := some 31) (v := ?_) (a' := ?_) #[true, true, true, false, false, false, false, false] rfl rfl (take_ofW HT_.out HW_.out (by kernel_rfl)) (fun _ _ _ h => h) (Or.inl ⟨by rfl, ?_⟩) hHeld ?_ ?_; rotate_left
           ·rintro w' ⟨s0, s1, s2, s3, s4, s5, s6, s7, s8, s9, s10, s11, s12, s13, s14, s15, s16⟩
            go_simp; (with_reducible rfl)
           rotate_left
           ·simp only [Act.put, sa_, sz_, ss_, i64_w, i32_w]
            rfl
           refine pure_ (i := 3) (N := some 33) (v := ?_) (a' := ?_) #[true, true, true, true, false, false, false, false] rfl rfl (any_of HT_.out (by kernel_rfl)) (fun _ _ _ h => h) (Or.inl ⟨by rfl, ?_⟩) ?_ ?_; rotate_left
           ·intro w'
            go_simp; (with_reducible rfl)
           rotate_left
           ·simp only [Act.put, sa_, sz_, ss_, i64_w, i32_w]
            rfl
           refine take_ (i := 4) (N := some 34) (v := ?_) (a' := ?_) #[true, true, true, true, true, false, false, false] rfl rfl (take_ofW HT_.out HW_.out (by kernel_rfl)) (fun _ _ _ h => h) (Or.inl ⟨by rfl, ?_⟩) hHeld ?_ ?_; rotate_left
           ·rintro w' ⟨s0, s1, s2, s3, s4, s5, s6, s7, s8, s9, s10, s11, s12, s13, s14, s15, s16⟩
            go_simp; (with_reducible rfl)
           rotate_left
           ·simp only [Act.put, sa_, sz_, ss_, i64_w, i32_w]
            rfl
           refine take_ (i := 5) (N := some 35) (v := ?_) (a' := ?_) #[true, true, true, true, true, true, false, false] rfl rfl (take_ofW HT_.out HW_.out (by kernel_rfl)) (fun _ _ _ h => h) (Or.inl ⟨by rfl, ?_⟩) hHeld ?_ ?_; rotate_left
           ·rintro w' ⟨s0, s1, s2, s3, s4, s5, s6, s7, s8, s9, s10, s11, s12, s13, s14, s15, s16⟩
            go_simp; (with_reducible rfl)
           rotate_left
           ·simp only [Act.put, sa_, sz_, ss_, i64_w, i32_w]
            rfl
           refine one_ (i := 6) (N := some 36) #[true, true, true, true, true, true, true, false] rfl rfl (one_of HT_.out (by kernel_rfl)) (by decide) (fun K hK => ?_); refine goes_ Tryd.func68 (by kernel_rfl) rfl #[.agg #[.int .i64 ((rd_T106 l0_2 x25_2).f0.f0), .int .i64 ((rd_T106 l0_2 x25_2).f0.f1), .string ((rd_T106 l0_2 x25_2).f0.f2), .int .i64 ((rd_T106 l0_2 x25_2).f1.f0), .int .i64 ((rd_T106 l0_2 x25_2).f1.f1), .string ((rd_T106 l0_2 x25_2).f1.f2), .int .i64 ((rd_T106 l0_2 x25_2).f2), .int .i64 ((rd_T106 l0_2 x25_2).f3)], .agg #[.int .i64 ((rd_T23 l1 x25_2).f0), .int .i64 ((rd_T23 l1 x25_2).f1), .string ((rd_T23 l1 x25_2).f2)]] (by rfl) rfl rfl (by (try simp only [List.map_toArray, List.map_cons, List.map_nil]); first | done | rfl | (simp only [List.length_drop, List.length_take]; rfl)) ?_; (with_reducible refine (span_Has.calls k2 ((rd_T106 l0_2 x25_2).f0.f0) ((rd_T106 l0_2 x25_2).f0.f1) ((rd_T106 l0_2 x25_2).f0.f2) ((rd_T106 l0_2 x25_2).f1.f0) ((rd_T106 l0_2 x25_2).f1.f1) ((rd_T106 l0_2 x25_2).f1.f2) ((rd_T106 l0_2 x25_2).f2) ((rd_T106 l0_2 x25_2).f3) ((rd_T23 l1 x25_2).f0) ((rd_T23 l1 x25_2).f1) ((rd_T23 l1 x25_2).f2) false _ A19.out).mono ?_); rintro e w32 ⟨rfl, hb⟩; refine ⟨_, rfl, ?_⟩; have n0_ := am_ (blk_below (bk_ BK151.out) hb); have n1_ := am_ (blk_below (bk_ BK154.out) hb); have n2_ := am_ (below_step (bl_) hb); clear BK151; clear BK154; clear HB; have BK151 := n0_; have BK154 := n1_; have HB := n2_; clear n0_ n1_ n2_; (try clear hb); (try clear hb2); (try clear hk); (try clear hi); refine hK.out _ _ ⟨bc_ BK151.out 0, bc_ BK151.out 1, bc_ BK151.out 2, bc_ BK151.out 3, bc_ BK151.out 4, bc_ BK151.out 5, bc_ BK154.out 0, bc_ BK154.out 1, bc_ BK154.out 2, ((HB.out.cell (World.block_lt_of_cell? w _ hw155_0)).trans hw155_0), ((HB.out.cell (World.block_lt_of_cell? w _ hw155_1)).trans hw155_1), ((HB.out.cell (World.block_lt_of_cell? w _ hw155_2)).trans hw155_2), ((HB.out.cell (World.block_lt_of_cell? w _ hw155_3)).trans hw155_3), ((HB.out.cell (World.block_lt_of_cell? w _ hw155_4)).trans hw155_4), ((HB.out.cell (World.block_lt_of_cell? w _ hw155_5)).trans hw155_5), ((HB.out.cell (World.block_lt_of_cell? w _ hw155_6)).trans hw155_6), ((HB.out.cell (World.block_lt_of_cell? w _ hw155_7)).trans hw155_7)⟩ (fun hHeld => ?_); clear hK K; refine norm_ (a' := ?_) ?_ ?_; rotate_left
           ·show Act.put _ (some 36) _ = _
            simp only [Act.put, sa_, sz_, ss_, i64_w, i32_w]; rfl
           refine pure_ (i := 7) (N := some 37) (v := ?_) (a' := ?_) #[true, true, true, true, true, true, true, true] rfl rfl (any_of HT_.out (by kernel_rfl)) (fun _ _ _ h => h) (Or.inl ⟨by rfl, ?_⟩) ?_ ?_; rotate_left
           ·intro w'
            go_simp; (with_reducible rfl)
           rotate_left
           ·simp only [Act.put, sa_, sz_, ss_, i64_w, i32_w]
            rfl
           refine done_ (done_of HT_.out (by kernel_rfl)) ?_
           try go_wp2
           go_ret
           exact ⟨ew_, bl_⟩
         ·rw [if_neg c18] at H
          exact absurd H (by simp)
        ·rw [if_neg c17] at H
         exact absurd H (by simp)
       ·rw [if_neg c16] at H
        exact absurd H (by simp)
      ·rw [if_neg c15] at H
       have c15b0 : decide (x25_2 < (l1.length : Int)) = false := decide_eq_false c15; clear c15; replace H := Option.bind_eq_some_iff.mp H; obtain ⟨t157, A330, H⟩ := H; replace H : ((bloom_Has.f k2 l0_0 a0_1 t157).bind fun t158 => (some t158)) = some r := H; have A33 := am_ A330; clear A330; replace H := Option.bind_eq_some_iff.mp H; obtain ⟨t158, A340, H⟩ := H; replace H : (some t158) = some r := H; have A34 := am_ A340; clear A340; obtain rfl := Option.some.inj H
       try go_wp2
       have n0_ := am_ (blk_drew BK151.out); have n1_ := am_ (below_drew1 HB.out); clear BK151; clear HB; have BK151 := n0_; have HB := n1_; clear n0_ n1_
       refine start_ (n := 8) (S := fun w' => w'.cell? ⟨gb151, 0, none⟩ = some (.slice A0_0 l0_0.length c0_0) ∧ w'.cell? ⟨gb151, 1, none⟩ = some (.int .i64 a0_1) ∧ w'.cell? ⟨gb151, 2, none⟩ = some (.slice A0_2 l0_2.length c0_2) ∧ w'.cell? ⟨gb151, 3, none⟩ = some (.int .i64 a0_3) ∧ w'.cell? ⟨gb151, 4, none⟩ = some (.int .i64 a0_4) ∧ w'.cell? ⟨gb151, 5, none⟩ = some (.bool a0_5)) (ds := []) #[false, false, false, false, false, false, false, false] (by kernel_rfl) rfl rfl ⟨bc_ BK151.out 0, bc_ BK151.out 1, bc_ BK151.out 2, bc_ BK151.out 3, bc_ BK151.out 4, bc_ BK151.out 5⟩ (fun hHeld => ?_); refine with_tabW sift_Passes.tab9 sift_Passes.bits9 (fun HT_ HW_ => ?_)
       generalize wr.drew = w35 at BK151 HB hHeld ⊢
       refine pure_ (i := 0) (N := some 39) (v := ?_) (a' := ?_) #[true, false, false, false, false, false, false, false] rfl rfl (any_of HT_.out (by kernel_rfl)) (fun _ _ _ h => h) (Or.inl ⟨by rfl, ?_⟩) ?_ ?_; rotate_left
       ·intro w'
        go_simp; (with_reducible rfl)
       rotate_left
       ·simp only [Act.put, sa_, sz_, ss_, i64_w, i32_w]
        rfl
       refine pure_ (i := 2) (N := some 41) (v := ?_) (a' := ?_) #[true, false, true, false, false, false, false, false] rfl rfl (any_of HT_.out (by kernel_rfl)) (fun _ _ _ h => h) (Or.inl ⟨by rfl, ?_⟩) ?_ ?_; rotate_left
       ·intro w'
        go_simp; (with_reducible rfl)
       rotate_left
       ·simp only [Act.put, sa_, sz_, ss_, i64_w, i32_w]
        rfl
       refine pure_ (i := 4) (N := some 43) (v := ?_) (a' := ?_) #[true, false, true, false, true, false, false, false] rfl rfl (any_of HT_.out (by kernel_rfl)) (fun _ _ _ h => h) (Or.inl ⟨by rfl, ?_⟩) ?_ ?_; rotate_left
       ·intro w'
        go_simp; (with_reducible rfl)
       rotate_left
       ·simp only [Act.put, sa_, sz_, ss_, i64_w, i32_w]
        rfl
       refine take_ (i := 1) (N := some 40) (v := ?_) (a' := ?_) #[true, true, true, false, true, false, false, false] rfl rfl (take_ofW HT_.out HW_.out (by kernel_rfl)) (fun _ _ _ h => h) (Or.inl ⟨by rfl, ?_⟩) hHeld ?_ ?_; rotate_left
       ·rintro w' ⟨s0, s1, s2, s3, s4, s5⟩
        go_simp; (with_reducible rfl)
       rotate_left
       ·simp only [Act.put, sa_, sz_, ss_, i64_w, i32_w]
        rfl
       refine take_ (i := 3) (N := some 42) (v := ?_) (a' := ?_) #[true, true, true, true, true, false, false, false] rfl rfl (take_ofW HT_.out HW_.out (by kernel_rfl)) (fun _ _ _ h => h) (Or.inl ⟨by rfl, ?_⟩) hHeld ?_ ?_; rotate_left
       ·rintro w' ⟨s0, s1, s2, s3, s4, s5⟩
        go_simp; (with_reducible rfl)
       rotate_left
       ·simp only [Act.put, sa_, sz_, ss_, i64_w, i32_w]
        rfl
       refine one_ (i := 5) (N := some 44) #[true, true, true, true, true, true, false, false] rfl rfl (one_of HT_.out (by kernel_rfl)) (by decide) (fun K hK => ?_); refine goes_ Tryd.func15 (by kernel_rfl) rfl #[.int .i64 a0_3, .slice A1 l1.length c1] (by rfl) rfl rfl (by (try simp only [List.map_toArray, List.map_cons, List.map_nil]); first | done | rfl | (simp only [List.length_drop, List.length_take]; rfl)) ?_; (with_reducible refine (hash_Row.calls k2 a0_3 _ _ l1 t157 _ ?side1 ?side2 A33.out (by first | with_reducible exact HT | exact ⟨TabOK.below HT.out (bl_)⟩)).mono ?_); (case side1 => repeat (first | exact (Kd.C_below HR1.out HB.out) | (with_reducible refine Kd.C_alloc ?_ _) | (with_reducible refine Kd.C_drewN ?_ _) | (with_reducible refine Kd.C_drew ?_))); (case side2 => exact HC1.out); rintro e w36 ⟨rfl, hb⟩; refine ⟨_, rfl, ?_⟩; have n0_ := am_ (blk_below (bk_ BK151.out) hb); have n1_ := am_ (below_step (bl_) hb); clear BK151; clear HB; have BK151 := n0_; have HB := n1_; clear n0_ n1_; (try clear hb); (try clear hb2); (try clear hk); (try clear hi); refine hK.out _ _ ⟨bc_ BK151.out 0, bc_ BK151.out 1, bc_ BK151.out 2, bc_ BK151.out 3, bc_ BK151.out 4, bc_ BK151.out 5⟩ (fun hHeld => ?_); clear hK K; refine norm_ (a' := ?_) ?_ ?_; rotate_left
       ·show Act.put _ (some 44) _ = _
        simp only [Act.put, sa_, sz_, ss_, i64_w, i32_w]; rfl
       refine one_ (i := 6) (N := some 45) #[true, true, true, true, true, true, true, false] rfl rfl (one_of HT_.out (by kernel_rfl)) (by decide) (fun K hK => ?_); refine goes_ Tryd.func69 (by kernel_rfl) rfl #[.agg #[.slice A0_0 l0_0.length c0_0, .int .i64 a0_1], .int .u64 t157] (by rfl) rfl rfl (by (try simp only [List.map_toArray, List.map_cons, List.map_nil]); first | done | rfl | (simp only [List.length_drop, List.length_take]; rfl)) ?_; (with_reducible refine (bloom_Has.calls k2 _ _ l0_0 a0_1 t157 t158 _ ?side1 ?side2 A34.out).mono ?_); (case side1 => repeat (first | exact (Kd.C_below HR0_0.out HB.out) | (with_reducible refine Kd.C_alloc ?_ _) | (with_reducible refine Kd.C_drewN ?_ _) | (with_reducible refine Kd.C_drew ?_))); (case side2 => exact HC0_0.out); rintro e w37 ⟨rfl, hb⟩; refine ⟨_, rfl, ?_⟩; have n0_ := am_ (blk_below (bk_ BK151.out) hb); have n1_ := am_ (below_step (bl_) hb); clear BK151; clear HB; have BK151 := n0_; have HB := n1_; clear n0_ n1_; (try clear hb); (try clear hb2); (try clear hk); (try clear hi); refine hK.out _ _ ⟨bc_ BK151.out 0, bc_ BK151.out 1, bc_ BK151.out 2, bc_ BK151.out 3, bc_ BK151.out 4, bc_ BK151.out 5⟩ (fun hHeld => ?_); clear hK K; refine norm_ (a' := ?_) ?_ ?_; rotate_left
       ·show Act.put _ (some 45) _ = _
        simp only [Act.put, sa_, sz_, ss_, i64_w, i32_w]; rfl
       refine pure_ (i := 7) (N := some 4) (v := ?_) (a' := ?_) #[true, true, true, true, true, true, true, true] rfl rfl (any_of HT_.out (by kernel_rfl)) (fun _ _ _ h => h) (Or.inl ⟨by rfl, ?_⟩) ?_ ?_; rotate_left
       ·intro w'
        go_simp; (with_reducible rfl)
       rotate_left
       ·simp only [Act.put, sa_, sz_, ss_, i64_w, i32_w]
        rfl
       refine done_ (done_of HT_.out (by kernel_rfl)) ?_
       try go_wp2
       go_ret
       exact ⟨ew_, bl_⟩

def span_Span.f (l0 : List (S106)) : Option ((List (S106))) := (some (([] : List (S106)) : List (S106))).bind fun y159 => (if y159.length + l0.length < 1759218604441 then (some (y159 ++ l0)) else (none))
theorem span_Span.calls (A0 : Option Addr) (c0 : Nat) (l0 : List (S106)) (r : List (S106)) (w : World) (hr0 : Kd.C k106 w A0 l0.length l0) (hc0 : l0.length ≤ c0) (h : span_Span.f l0 = some r) :
  Calls Tryd.prog 70 #[.slice A0 l0.length c0] w fun e w' => ∃ v0_ : Value, e = .returned (v0_) ∧ Kd.R k106 106 w' w.heap.size (fun _ => True) v0_ r ∧ Below w.heap.size w w' := by
 cases A0 with
 | none =>
  obtain rfl : l0 = [] := by
   rcases l0 with _ | ⟨x_, l_⟩
   ·rfl
   ·(first | (obtain ⟨ad_, e_, _⟩ := hr0.2.2 (by simp)) | (obtain ⟨ad_, e_, _⟩ := (Kd.V_reads' hs0).2.2.2.2 (by simp)))
    cases e_
  obtain rfl : r = [] := by
   unfold span_Span.f at h
   simpa using h.symm
  have hn_ : ∀ (W_ : World) (n_ c_ : Nat), (binOp .eql 48 (.slice none n_ c_) (.slice none 0 0)).run Tryd.prog W_ = .ok (.bool true) W_ := fun W_ n_ c_ => Lib.run_eql_slice_nil W_ 48 106 none n_ c_ 0 0 Tryd.underlying48
  go_enter Tryd.func70, Tryd.ntmps70
  go_wp2
  go_ret
  exact ⟨_, rfl, by first | exact Kd.R_nil _ _ _ _ _ | exact Kd.S_nil _ _ _ _ _ | exact Kd.N_nil _ _ _ _ _, Below.refl _ _⟩
 | some ad0 =>
 have hn_ : ∀ (W_ : World) (n_ c_ : Nat), (binOp .eql 48 (.slice (some ad0) n_ c_) (.slice none 0 0)).run Tryd.prog W_ = .ok (.bool false) W_ := fun W_ n_ c_ => Lib.run_eql_slice_nil W_ 48 106 (some ad0) n_ c_ 0 0 Tryd.underlying48
 have HR0 := am_ hr0; have HC0 := am_ hc0; clear hr0 hc0; have HB := am_ (Below.refl w.heap.size w); have H : ((some (([] : List (S106)) : List (S106))).bind fun y159 => (if y159.length + l0.length < 1759218604441 then (some (y159 ++ l0)) else (none))) = some r := h; clear h
 obtain ⟨y159, hy159⟩ : ∃ y_ : List (S106), y_ = (([] : List (S106))) := ⟨_, rfl⟩
 replace H : (if y159.length + l0.length < 1759218604441 then (some (y159 ++ l0)) else (none)) = some r := by first | (rw [hy159]; with_reducible exact H) | (have H2_ := (Option.bind_some _ _).symm.trans H; rw [hy159]; with_reducible exact H2_) | (have H2_ := (Option.bind_some _ _).symm.trans H; with_reducible exact H2_) | with_reducible exact H | (rw [hy159]; exact H) | exact H
 have Ny159 := am_ hy159; clear hy159
 by_cases c2 : y159.length + l0.length < 1759218604441
 ·rw [if_pos c2] at H
  have LMc2 := am_ c2; clear c2
  obtain ⟨y162, hy162⟩ : ∃ y_ : List (S106), y_ = (y159 ++ l0) := ⟨_, rfl⟩
  replace H : (some y162) = some r := by first | (rw [hy162]; with_reducible exact H) | (have H2_ := (Option.bind_some _ _).symm.trans H; rw [hy162]; with_reducible exact H2_) | (have H2_ := (Option.bind_some _ _).symm.trans H; with_reducible exact H2_) | with_reducible exact H | (rw [hy162]; exact H) | exact H
  have Ny162 := am_ hy162; clear hy162; obtain rfl := Option.some.inj H
  go_enter Tryd.func70, Tryd.ntmps70
  go_wp2_with (first | ((with_reducible refine gate_dst (N := 5) rfl ?_); refine Kd.R_lit k106 _ 106 ?hg (N := 5) ?hd (xs := ([] : List (S106))) (inner := []) (ok := fun _ => True) (okp := fun _ => True) ?hr ?hp (fun _ hk => hk) trivial (Below.refl _ _) (Nat.le_refl _) (by simp) ?_; (case hd => rfl); (case hg => rfl); (case hr => first | (go_simp; done) | (go_simp; rfl)); (case hp => exact (Reps.none _ _)); intro v160 w3 ho4 hb hg_ hnew_; clear hg_ hnew_; (first | rw [← Ny159.out] at ho4 | (simp only [Int.reduceToNat] at ho4; rw [← Ny159.out] at ho4)); have HO161 := am_ (Kd.R_lower ho4 (below_size (bl_))); replace HB := am_ (below_step (bl_) hb); clear hb ho4) | ((with_reducible refine gate_builtin (b := .append) (xs := #[.tmp 5, .tmp 6]) rfl ?_); at_builtin; refine Kd.R_append_rows k106 (w0 := w) w.heap.size rfl (.tmp 5) (.tmp 6) 48 106 (.agg #[(.int .i64 0), (.int .i64 0), (.string ⟨#[]⟩), (.int .i64 0), (.int .i64 0), (.string ⟨#[]⟩), (.int .i64 0), (.int .i64 0)]) 80 rfl Tryd.underlying48 info106 rfl (by decide) (by omega) v160 y159 l0 _ _ _ (fun _ => True) (fun _ => False) rfl rfl ?aO ?aR (fun _ _ h => h) (fun _ h => h.elim) ?aF ?aB ?aS ?aL ?_; (case aR => repeat (first | exact (Kd.C_below HR0.out HB.out) | (with_reducible refine Kd.C_alloc ?_ _) | (with_reducible refine Kd.C_drewN ?_ _) | (with_reducible refine Kd.C_drew ?_))); (case aB => exact (bl_)); (case aF => exact (fun _ _ => trivial)); (case aO => exact (kr_ HO161.out)); (case aS => exact (below_size (bl_))); (case aL => have := LMc2.out; omega); intro v163 w5 ho hb hg hat; rw [← Ny162.out] at ho; have HO164 := am_ (ho); replace HB := am_ (hb); clear HO161; clear ho hb hg hat))
  go_ret
  exact ⟨_, ew_, kr_ HO164.out, bl_⟩
 ·rw [if_neg c2] at H
  exact absurd H (by simp)

end Go.Proofs.YtcfgjaggccnoaaaDoor.PSiftKeeps
