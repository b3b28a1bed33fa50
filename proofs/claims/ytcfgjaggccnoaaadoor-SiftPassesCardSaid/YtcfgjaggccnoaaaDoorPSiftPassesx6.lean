import Derived.Test.YtcfgjaggccnoaaaDoorPSiftPassesx0
import Derived.Test.YtcfgjaggccnoaaaDoorPSiftPassesx1
import Derived.Test.YtcfgjaggccnoaaaDoorPSiftPassesx3
import Derived.Test.YtcfgjaggccnoaaaDoorPSiftPassesx5
namespace Go.Proofs.YtcfgjaggccnoaaaDoor.PSiftPasses
open Go.RowKit Go.Proofs.YtcfgjaggccnoaaaDoorW.PrintWords Go.Proofs.YtcfgjaggccnoaaaDoorW.PrintLast Go.Proofs.YtcfgjaggccnoaaaDoorW.PrintMore
attribute [local go_sem] max2_int min2_int max_two min_two max_three min_three max_four min_four
set_option linter.unusedVariables false
set_option linter.unusedSimpArgs false
set_option maxRecDepth 100000

mutual
def sift_Add.l0 : Nat → List Int → List (List (S23)) → Int → Int → List Int → Int → List (S106) → Int → Int → Bool → Option (List Int × Int × (List (S106)) × Int × Int × Bool)
 | 0, _, _, _, _, _, _, _, _, _, _ => none
 | k + 1, x5, x18, x19, x20, x211000, x211001, x211002, x211003, x211004, x211005 => if x20 < x19 then (if 0 ≤ x20 then (if x20 < (x18.length : Int) then ((sift_Whole.f k (rd_L6 x18 x20)).bind fun t220 => (if t220 = true then (sift_Add.l1 k x5 (rd_L6 x18 x20) x18 x19 x20 x211000 x211001 x211002 x211003 x211004 x211005) else (sift_Add.l0 k x5 x18 x19 (wrap64 (x20 + 1)) x211000 x211001 x211002 x211003 x211004 x211005))) else (none)) else (none)) else ((bloom_Add.f k x211000 x211001 x5).bind fun bt215 => (some (bt215.1, bt215.2, x211002, x211003, x211004, x211005)))
def sift_Add.l1 : Nat → List Int → List (S23) → List (List (S23)) → Int → Int → List Int → Int → List (S106) → Int → Int → Bool → Option (List Int × Int × (List (S106)) × Int × Int × Bool)
 | 0, _, _, _, _, _, _, _, _, _, _, _ => none
 | k + 1, x5, x7, x18, x19, x20, x211000, x211001, x211002, x211003, x211004, x211005 => if (x211002.length : Int) < (x7.length : Int) then (if x211002.length < 1759218604441 then (sift_Add.l1 k x5 x7 x18 x19 x20 x211000 x211001 (x211002 ++ [(⟨(⟨0, 0, (⟨#[]⟩ : ByteArray)⟩ : S23), (⟨0, 0, (⟨#[]⟩ : ByteArray)⟩ : S23), 0, 0⟩ : S106)]) x211003 x211004 x211005) else (none)) else (sift_Add.l2 k x5 x7 x18 x19 x20 x7 (x7.length : Int) 0 x211000 x211001 x211002 x211003 x211004 x211005)
def sift_Add.l2 : Nat → List Int → List (S23) → List (List (S23)) → Int → Int → List (S23) → Int → Int → List Int → Int → List (S106) → Int → Int → Bool → Option (List Int × Int × (List (S106)) × Int × Int × Bool)
 | 0, _, _, _, _, _, _, _, _, _, _, _, _, _, _ => none
 | k + 1, x5, x7, x18, x19, x20, x39, x40, x41, x211000, x211001, x211002, x211003, x211004, x211005 => if x41 < x40 then (if 0 ≤ x41 then (if x41 < (x39.length : Int) then (if x41 < (x211002.length : Int) then ((span_Add.f k ((rd_T106 x211002 x41).f0.f0) ((rd_T106 x211002 x41).f0.f1) ((rd_T106 x211002 x41).f0.f2) ((rd_T106 x211002 x41).f1.f0) ((rd_T106 x211002 x41).f1.f1) ((rd_T106 x211002 x41).f1.f2) ((rd_T106 x211002 x41).f2) ((rd_T106 x211002 x41).f3) (([(⟨(rd_T23 x39 x41).f0, (rd_T23 x39 x41).f1, (rd_T23 x39 x41).f2⟩ : S23)] : List (S23)))).bind fun bt230 => (sift_Add.l2 k x5 x7 x18 x19 x20 x39 x40 (wrap64 (x41 + 1)) x211000 x211001 (x211002.set (x41 : Int).toNat (⟨(⟨bt230.1, bt230.2.1, bt230.2.2.1⟩ : S23), (⟨bt230.2.2.2.1, bt230.2.2.2.2.1, bt230.2.2.2.2.2.1⟩ : S23), bt230.2.2.2.2.2.2.1, bt230.2.2.2.2.2.2.2⟩ : S106)) x211003 x211004 x211005)) else (none)) else (none)) else (none)) else ((hash_Row.f k x211003 x7).bind fun t239 => (if x5.length < 17592186044416 then (sift_Add.l0 k (x5 ++ [t239]) x18 x19 (wrap64 (x20 + 1)) x211000 x211001 x211002 x211003 (wrap64 (x211004 + 1)) x211005) else (none)))
end
def sift_Add.f (k : Nat) (l0_0 : List Int) (a0_1 : Int) (l0_2 : List (S106)) (a0_3 : Int) (a0_4 : Int) (a0_5 : Bool) (l1 : List (List (S23))) : Option (List Int × Int × (List (S106)) × Int × Int × Bool) := if a0_5 = true then ((span_Span.f l0_2).bind fun t212 => (sift_Add.l0 k ([] : List Int) l1 (l1.length : Int) 0 l0_0 a0_1 t212 a0_3 a0_4 a0_5)) else (some (l0_0, a0_1, l0_2, a0_3, a0_4, a0_5))
theorem sift_Add.mono_l : ∀ k, (∀ y0 y1 y2 y3 y4 y5 y6 y7 y8 y9, LeO (sift_Add.l0 k y0 y1 y2 y3 y4 y5 y6 y7 y8 y9) (sift_Add.l0 (k + 1) y0 y1 y2 y3 y4 y5 y6 y7 y8 y9)) ∧ (∀ y0 y1 y2 y3 y4 y5 y6 y7 y8 y9 y10, LeO (sift_Add.l1 k y0 y1 y2 y3 y4 y5 y6 y7 y8 y9 y10) (sift_Add.l1 (k + 1) y0 y1 y2 y3 y4 y5 y6 y7 y8 y9 y10)) ∧ (∀ y0 y1 y2 y3 y4 y5 y6 y7 y8 y9 y10 y11 y12 y13, LeO (sift_Add.l2 k y0 y1 y2 y3 y4 y5 y6 y7 y8 y9 y10 y11 y12 y13) (sift_Add.l2 (k + 1) y0 y1 y2 y3 y4 y5 y6 y7 y8 y9 y10 y11 y12 y13))
 | 0 => ⟨fun _ _ _ _ _ _ _ _ _ _ r h => by simp [sift_Add.l0] at h, fun _ _ _ _ _ _ _ _ _ _ _ r h => by simp [sift_Add.l1] at h, fun _ _ _ _ _ _ _ _ _ _ _ _ _ _ r h => by simp [sift_Add.l2] at h⟩
 | k + 1 => by
  obtain ⟨ih0, ih1, ih2⟩ := sift_Add.mono_l k
  refine ⟨?_, ?_, ?_⟩
  ·intro y0 y1 y2 y3 y4 y5 y6 y7 y8 y9
   unfold sift_Add.l0
   repeat' first
   | (with_reducible exact ih0 _ _ _ _ _ _ _ _ _ _)
   | (with_reducible exact ih1 _ _ _ _ _ _ _ _ _ _ _)
   | (with_reducible exact ih2 _ _ _ _ _ _ _ _ _ _ _ _ _ _)
   | (with_reducible exact bloom_Add.mono _ _ _ _)
   | (with_reducible exact hash_Row.mono _ _ _)
   | (with_reducible exact sift_Whole.mono _ _)
   | (with_reducible exact span_Add.mono _ _ _ _ _ _ _ _ _ _)
   | (with_reducible exact LeO.refl _)
   | (with_reducible exact LeO.none _)
   | (with_reducible refine LeO.ite ?_ ?_)
   | (with_reducible refine LeO.bind ?_ (fun _ => ?_))
   | exact ih0 _ _ _ _ _ _ _ _ _ _
   | exact ih1 _ _ _ _ _ _ _ _ _ _ _
   | exact ih2 _ _ _ _ _ _ _ _ _ _ _ _ _ _
   | exact bloom_Add.mono _ _ _ _
   | exact hash_Row.mono _ _ _
   | exact sift_Whole.mono _ _
   | exact span_Add.mono _ _ _ _ _ _ _ _ _ _
   | exact LeO.none _
   | refine LeO.ite ?_ ?_
   | refine LeO.bind ?_ (fun _ => ?_)
  ·intro y0 y1 y2 y3 y4 y5 y6 y7 y8 y9 y10
   unfold sift_Add.l1
   repeat' first
   | (with_reducible exact ih0 _ _ _ _ _ _ _ _ _ _)
   | (with_reducible exact ih1 _ _ _ _ _ _ _ _ _ _ _)
   | (with_reducible exact ih2 _ _ _ _ _ _ _ _ _ _ _ _ _ _)
   | (with_reducible exact bloom_Add.mono _ _ _ _)
   | (with_reducible exact hash_Row.mono _ _ _)
   | (with_reducible exact sift_Whole.mono _ _)
   | (with_reducible exact span_Add.mono _ _ _ _ _ _ _ _ _ _)
   | (with_reducible exact LeO.refl _)
   | (with_reducible exact LeO.none _)
   | (with_reducible refine LeO.ite ?_ ?_)
   | (with_reducible refine LeO.bind ?_ (fun _ => ?_))
   | exact ih0 _ _ _ _ _ _ _ _ _ _
   | exact ih1 _ _ _ _ _ _ _ _ _ _ _
   | exact ih2 _ _ _ _ _ _ _ _ _ _ _ _ _ _
   | exact bloom_Add.mono _ _ _ _
   | exact hash_Row.mono _ _ _
   | exact sift_Whole.mono _ _
   | exact span_Add.mono _ _ _ _ _ _ _ _ _ _
   | exact LeO.none _
   | refine LeO.ite ?_ ?_
   | refine LeO.bind ?_ (fun _ => ?_)
  ·intro y0 y1 y2 y3 y4 y5 y6 y7 y8 y9 y10 y11 y12 y13
   unfold sift_Add.l2
   repeat' first
   | (with_reducible exact ih0 _ _ _ _ _ _ _ _ _ _)
   | (with_reducible exact ih1 _ _ _ _ _ _ _ _ _ _ _)
   | (with_reducible exact ih2 _ _ _ _ _ _ _ _ _ _ _ _ _ _)
   | (with_reducible exact bloom_Add.mono _ _ _ _)
   | (with_reducible exact hash_Row.mono _ _ _)
   | (with_reducible exact sift_Whole.mono _ _)
   | (with_reducible exact span_Add.mono _ _ _ _ _ _ _ _ _ _)
   | (with_reducible exact LeO.refl _)
   | (with_reducible exact LeO.none _)
   | (with_reducible refine LeO.ite ?_ ?_)
   | (with_reducible refine LeO.bind ?_ (fun _ => ?_))
   | exact ih0 _ _ _ _ _ _ _ _ _ _
   | exact ih1 _ _ _ _ _ _ _ _ _ _ _
   | exact ih2 _ _ _ _ _ _ _ _ _ _ _ _ _ _
   | exact bloom_Add.mono _ _ _ _
   | exact hash_Row.mono _ _ _
   | exact sift_Whole.mono _ _
   | exact span_Add.mono _ _ _ _ _ _ _ _ _ _
   | exact LeO.none _
   | refine LeO.ite ?_ ?_
   | refine LeO.bind ?_ (fun _ => ?_)
theorem sift_Add.mono : ∀ a0 a1 a2 a3 a4 a5 a6 k, LeO (sift_Add.f k a0 a1 a2 a3 a4 a5 a6) (sift_Add.f (k + 1) a0 a1 a2 a3 a4 a5 a6) := by
 intro a0 a1 a2 a3 a4 a5 a6 k
 obtain ⟨ih0, ih1, ih2⟩ := sift_Add.mono_l k
 unfold sift_Add.f
 repeat' first
   | (with_reducible exact ih0 _ _ _ _ _ _ _ _ _ _)
   | (with_reducible exact ih1 _ _ _ _ _ _ _ _ _ _ _)
   | (with_reducible exact ih2 _ _ _ _ _ _ _ _ _ _ _ _ _ _)
   | (with_reducible exact bloom_Add.mono _ _ _ _)
   | (with_reducible exact hash_Row.mono _ _ _)
   | (with_reducible exact sift_Whole.mono _ _)
   | (with_reducible exact span_Add.mono _ _ _ _ _ _ _ _ _ _)
   | (with_reducible exact LeO.refl _)
   | (with_reducible exact LeO.none _)
   | (with_reducible refine LeO.ite ?_ ?_)
   | (with_reducible refine LeO.bind ?_ (fun _ => ?_))
   | exact ih0 _ _ _ _ _ _ _ _ _ _
   | exact ih1 _ _ _ _ _ _ _ _ _ _ _
   | exact ih2 _ _ _ _ _ _ _ _ _ _ _ _ _ _
   | exact bloom_Add.mono _ _ _ _
   | exact hash_Row.mono _ _ _
   | exact sift_Whole.mono _ _
   | exact span_Add.mono _ _ _ _ _ _ _ _ _ _
   | exact LeO.none _
   | refine LeO.ite ?_ ?_
   | refine LeO.bind ?_ (fun _ => ?_)
def sift_Add.T14 : Bool × List (List Nat × List Nat) := (true, [([], []), ([0], [0]), ([], []), ([], []), ([3], [3]), ([], []), ([4, 5], [4, 5]), ([6], [6]), ([], []), ([8], [8]), ([7, 9], [7, 9]), ([1, 2, 0, 1, 2, 3, 4, 5, 6, 7, 8, 9, 10], [1, 2]), ([11, 10, 10, 0, 1, 2, 3, 4, 5, 6, 7, 8, 9, 10], [10, 11])])
def sift_Add.B14 : List Nat := [0, 1, 0, 0, 8, 0, 56, 120, 0, 256, 1016, 2047, 4095]
theorem sift_Add.tab14 : rtab .any (opsOf Tryd.f29 14) = sift_Add.T14 := by kernel_rfl
theorem sift_Add.bits14 : waitsOk sift_Add.T14.2 sift_Add.B14 = true := by kernel_rfl
set_option maxHeartbeats 8000000 in
set_option maxRecDepth 100000 in
theorem sift_Add.calls (k : Nat) (P0_0_ : Nat → Prop) (A0_0 : Option Addr) (c0_0 : Nat) (l0_0 : List Int) (a0_1 : Int) (P0_2_ : Nat → Prop) (A0_2 : Option Addr) (c0_2 : Nat) (l0_2 : List (S106)) (a0_3 : Int) (a0_4 : Int) (a0_5 : Bool) (A1 : Option Addr) (c1 : Nat) (l1 : List (List (S23))) (r1 : List Int) (r2 : Int) (r3 : List (S106)) (r4 : Int) (r5 : Int) (r6 : Bool) (w : World) (hs0_0 : Kd.V (Kd.int .u64) 28 w w.heap.size (fun k_ => P0_0_ k_) (.slice A0_0 l0_0.length c0_0) l0_0) (hs0_2 : Kd.V k106 106 w w.heap.size (fun k_ => P0_2_ k_) (.slice A0_2 l0_2.length c0_2) l0_2) (hr1 : Kd.C (Kd.slice 23 k23) w A1 l1.length l1) (hc1 : l1.length ≤ c1) (h : sift_Add.f k l0_0 a0_1 l0_2 a0_3 a0_4 a0_5 l1 = some (r1, r2, r3, r4, r5, r6)) (HT : Aside0 (TabOK w)) :
  Calls Tryd.prog 29 #[.agg #[.slice A0_0 l0_0.length c0_0, .int .i64 a0_1, .slice A0_2 l0_2.length c0_2, .int .i64 a0_3, .int .i64 a0_4, .bool a0_5], .slice A1 l1.length c1] w fun e w' => ∃ v0_ v2_ : Value, e = .returned (.agg #[v0_, .int .i64 r2, v2_, .int .i64 r4, .int .i64 r5, .bool r6]) ∧ Kd.V (Kd.int .u64) 28 w' w.heap.size (fun k_ => ((P0_0_ k_ ∨ P0_2_ k_) ∨ w.heap.size ≤ k_)) v0_ r1 ∧ Kd.V k106 106 w' w.heap.size (fun k_ => ((P0_0_ k_ ∨ P0_2_ k_) ∨ w.heap.size ≤ k_)) v2_ r3 ∧ Below w.heap.size w w' := by
 have hu50 := Tryd.underlying50
 have hu106 := Tryd.underlying106
 have hu23 := Tryd.underlying23
 have hu47 := Tryd.underlying47
 have HO0_0 := am_ (show Kd.V (Kd.int .u64) 28 w w.heap.size (fun k_ => ((P0_0_ k_ ∨ P0_2_ k_) ∨ w.heap.size ≤ k_)) (.slice A0_0 l0_0.length c0_0) l0_0 from Kd.V_mono hs0_0 (fun k_ hk => .inl (.inl hk)))
 have HO0_2 := am_ (show Kd.V k106 106 w w.heap.size (fun k_ => ((P0_0_ k_ ∨ P0_2_ k_) ∨ w.heap.size ≤ k_)) (.slice A0_2 l0_2.length c0_2) l0_2 from Kd.V_mono hs0_2 (fun k_ hk => .inl (.inr hk)))
 have HR1 := am_ hr1
 have HC1 := am_ hc1
 clear hr1 hc1
 have HB := am_ (Below.refl w.heap.size w)
 have H : (if a0_5 = true then ((span_Span.f l0_2).bind fun t212 => (sift_Add.l0 k ([] : List Int) l1 (l1.length : Int) 0 l0_0 a0_1 t212 a0_3 a0_4 a0_5)) else (some (l0_0, a0_1, l0_2, a0_3, a0_4, a0_5))) = some (r1, r2, r3, r4, r5, r6) := h
 clear h
 by_cases c3 : a0_5 = true
 ·subst c3
  have H1 : ((span_Span.f l0_2).bind fun t212 => (sift_Add.l0 k ([] : List Int) l1 (l1.length : Int) 0 l0_0 a0_1 t212 a0_3 a0_4 true)) = some (r1, r2, r3, r4, r5, r6) := by rw [if_pos rfl] at H; exact H
  clear H
  have H := H1
  clear H1
  replace H := Option.bind_eq_some_iff.mp H
  obtain ⟨t212, A40, H⟩ := H
  replace H : (sift_Add.l0 k ([] : List Int) l1 (l1.length : Int) 0 l0_0 a0_1 t212 a0_3 a0_4 true) = some (r1, r2, r3, r4, r5, r6) := H
  have A4 := am_ A40
  clear A40
  have H' := am_ H
  clear H
  go_enter Tryd.func29, Tryd.ntmps29
  go_wp2_with (first | ((with_reducible refine gate_dst (N := 2) rfl ?_); refine box_event ?hg (N := 2) ?hd (cs := #[.slice A0_0 l0_0.length c0_0, .int .i64 a0_1, .slice A0_2 l0_2.length c0_2, .int .i64 a0_3, .int .i64 a0_4, .bool true]) (t := 50) ?hr ?_; (case hd => rfl); (case hg => rfl); (case hr => first | (go_simp; done) | (go_simp; rfl)); intro gb210 hg w5 hbox hb; replace HO0_0 := am_ (Kd.V_below (Kd.V_elderB (kv_ HO0_0.out) gb210 (Nat.le_of_eq hg.symm)) hb); replace HO0_2 := am_ (Kd.V_below (Kd.V_elderB (kv_ HO0_2.out) gb210 (Nat.le_of_eq hg.symm)) hb); have BK210 := am_ (hbox); have GW210 := am_ ((by rw [hg]; exact (below_size (bl_)) : w.heap.size ≤ gb210)); have GE210 := am_ ((by rw [hg]; exact (below_size (bl_)) : w.heap.size ≤ gb210)); replace HB := am_ (below_step (bl_) hb); clear hb hbox hg) | ((with_reducible refine gate_dst (N := 4) rfl ?_); refine box_event ?hg (N := 4) ?hd (cs := #[.slice none 0 0, .int .i64 0, .slice none 0 0, .int .i64 0, .int .i64 0, .bool false]) (t := 50) ?hr ?_; (case hd => rfl); (case hg => rfl); (case hr => first | (go_simp; done) | (go_simp; rfl)); intro gb211 hg w6 hbox hb; have n0_ := am_ (Kd.V_below (Kd.V_elderB (kv_ HO0_0.out) gb211 (Nat.le_of_eq hg.symm)) hb); have n1_ := am_ (Kd.V_below (Kd.V_elderB (kv_ HO0_2.out) gb211 (Nat.le_of_eq hg.symm)) hb); have n2_ := am_ (blk_below (g := gb210) (o := .cells #[.slice A0_0 l0_0.length c0_0, .int .i64 a0_1, .slice A0_2 l0_2.length c0_2, .int .i64 a0_3, .int .i64 a0_4, .bool true] 50 (0, 0)) (bk_ BK210.out) hb); have n3_ := am_ (below_step (bl_) hb); have n4_ := am_ (hbox); have n5_ := am_ ((by rw [hg]; exact (below_size (bl_)) : w.heap.size ≤ gb211)); have n6_ := am_ ((by rw [hg]; exact (below_size (bl_)) : w.heap.size ≤ gb211)); have n7_ := am_ ((by rw [hg]; exact Nat.ne_of_lt (blk_lt (g := gb210) (o := .cells #[.slice A0_0 l0_0.length c0_0, .int .i64 a0_1, .slice A0_2 l0_2.length c0_2, .int .i64 a0_3, .int .i64 a0_4, .bool true] 50 (0, 0)) (bk_ BK210.out)) : gb210 ≠ gb211)); have n8_ := am_ ((by rw [hg]; exact Nat.ne_of_gt (blk_lt (g := gb210) (o := .cells #[.slice A0_0 l0_0.length c0_0, .int .i64 a0_1, .slice A0_2 l0_2.length c0_2, .int .i64 a0_3, .int .i64 a0_4, .bool true] 50 (0, 0)) (bk_ BK210.out)) : gb211 ≠ gb210)); clear HO0_0; clear HO0_2; clear BK210; clear HB; have HO0_0 := n0_; have HO0_2 := n1_; have BK210 := n2_; have HB := n3_; have BK211 := n4_; have GW211 := n5_; have GE211 := n6_; have NB210_211 := n7_; have NB211_210 := n8_; clear n0_ n1_ n2_ n3_ n4_ n5_ n6_ n7_ n8_; clear hb hbox hg; have hnb7 := NB210_211.out; have hnc7 := NB211_210.out; have hcz8_0 : w6.cell? ⟨gb210, 0, none⟩ = some (.slice A0_0 l0_0.length c0_0) := (blk_cell BK210.out 0).trans rfl; have hcz8_1 : w6.cell? ⟨gb210, 1, none⟩ = some (.int .i64 a0_1) := (blk_cell BK210.out 1).trans rfl; have hcz8_2 : w6.cell? ⟨gb210, 2, none⟩ = some (.slice A0_2 l0_2.length c0_2) := (blk_cell BK210.out 2).trans rfl; have hcz8_3 : w6.cell? ⟨gb210, 3, none⟩ = some (.int .i64 a0_3) := (blk_cell BK210.out 3).trans rfl; have hcz8_4 : w6.cell? ⟨gb210, 4, none⟩ = some (.int .i64 a0_4) := (blk_cell BK210.out 4).trans rfl; have hcz8_5 : w6.cell? ⟨gb210, 5, none⟩ = some (.bool true) := (blk_cell BK210.out 5).trans rfl; have hfz8_0 := blk_frozen BK210.out 0; have hfz8_1 := blk_frozen BK210.out 1; have hfz8_2 := blk_frozen BK210.out 2; have hfz8_3 := blk_frozen BK210.out 3; have hfz8_4 := blk_frozen BK210.out 4; have hfz8_5 := blk_frozen BK210.out 5) | ((with_reducible refine gate_callee (f := 70) rfl ?_); refine goesL_ (some 16) rfl rfl Tryd.func70 (by kernel_rfl) rfl #[.slice A0_2 l0_2.length c0_2] rfl (by (try simp only [List.map_toArray, List.map_cons, List.map_nil]); first | done | rfl | (simp only [List.length_drop, List.length_take]; rfl)) ?_; (with_reducible refine (span_Span.calls _ _ l0_2 t212 _ ?side1 ?side2 A4.out).mono ?_); (case side1 => repeat (first | exact (Kd.V_reads' HO0_2.out).2.2 | (with_reducible refine Kd.C_alloc ?_ _) | (with_reducible refine Kd.C_drewN ?_ _) | (with_reducible refine Kd.C_drew ?_))); (case side2 => exact (Kd.V_reads' HO0_2.out).2.1); rintro e w9 ⟨v213, rfl, ho0, hb⟩; refine ⟨_, rfl, ?_⟩; replace HO0_0 := am_ (Kd.V_elder' (kv_ HO0_0.out) (Kd.R_base ho0) hb); replace HO0_2 := am_ (Kd.V_elder' (kv_ HO0_2.out) (Kd.R_base ho0) hb); have HO214 := am_ (Kd.R_lower (Kd.R_newM (M := fun k_ => (w.heap.size ≤ k_)) ho0 (below_size (bl_)) (fun k_ h_ => h_)) (below_size (bl_))); replace BK210 := am_ (blk_below (g := gb210) (o := .cells #[.slice A0_0 l0_0.length c0_0, .int .i64 a0_1, .slice A0_2 l0_2.length c0_2, .int .i64 a0_3, .int .i64 a0_4, .bool true] 50 (0, 0)) (bk_ BK210.out) hb); replace BK211 := am_ (blk_below (g := gb211) (o := .cells #[.slice none 0 0, .int .i64 0, .slice none 0 0, .int .i64 0, .int .i64 0, .bool false] 50 (0, 0)) (bk_ BK211.out) hb); replace HB := am_ (below_step (bl_) hb); (try clear hb); (try clear hb2); (try clear hk); (try clear hi); (try clear ho0); obtain ⟨Ao10, co10, eo10⟩ := Kd.R_slice HO214.out; subst eo10; have hcz11_0 : w9.cell? ⟨gb210, 0, none⟩ = some (.slice A0_0 l0_0.length c0_0) := (blk_cell BK210.out 0).trans rfl; have hcz11_1 : w9.cell? ⟨gb210, 1, none⟩ = some (.int .i64 a0_1) := (blk_cell BK210.out 1).trans rfl; have hcz11_2 : w9.cell? ⟨gb210, 2, none⟩ = some (.slice A0_2 l0_2.length c0_2) := (blk_cell BK210.out 2).trans rfl; have hcz11_3 : w9.cell? ⟨gb210, 3, none⟩ = some (.int .i64 a0_3) := (blk_cell BK210.out 3).trans rfl; have hcz11_4 : w9.cell? ⟨gb210, 4, none⟩ = some (.int .i64 a0_4) := (blk_cell BK210.out 4).trans rfl; have hcz11_5 : w9.cell? ⟨gb210, 5, none⟩ = some (.bool true) := (blk_cell BK210.out 5).trans rfl; have hfz11_0 := blk_frozen BK210.out 0; have hfz11_1 := blk_frozen BK210.out 1; have hfz11_2 := blk_frozen BK210.out 2; have hfz11_3 := blk_frozen BK210.out 3; have hfz11_4 := blk_frozen BK210.out 4; have hfz11_5 := blk_frozen BK210.out 5))
  go_loopg [5, 20] k (fun kq v5 v20 w' => ∃ (x5_1 : List Int) (x20_1 : Int) (x211002_1 : List (S106)) (x211004_1 : Int) (u211002 : Value), v20 = .int .i64 x20_1 ∧ Aside0 (sift_Add.l0 kq x5_1 l1 (l1.length : Int) x20_1 l0_0 a0_1 x211002_1 a0_3 x211004_1 true = some (r1, r2, r3, r4, r5, r6)) ∧ Aside0 (kq ≤ k) ∧ Aside0 (Kd.R (Kd.int .u64) 28 w' w.heap.size (fun k_ => (w.heap.size ≤ k_)) v5 x5_1) ∧ Aside0 (Kd.V (Kd.int .u64) 28 w' w.heap.size (fun k_ => ((P0_0_ k_ ∨ P0_2_ k_) ∨ w.heap.size ≤ k_) ∧ some k_ ≠ (v5 : Value).ownBlock ∧ some k_ ≠ (u211002 : Value).ownBlock ∧ k_ ≠ gb210 ∧ k_ ≠ gb211) (.slice A0_0 l0_0.length c0_0) l0_0) ∧ Aside0 (Kd.R k106 106 w' w.heap.size (fun k_ => (w.heap.size ≤ k_)) u211002 x211002_1) ∧ Aside0 (w'.heap[gb210]? = some (.cells #[(.slice A0_0 l0_0.length c0_0), .int .i64 a0_1, u211002, .int .i64 a0_3, .int .i64 x211004_1, .bool true] 50 (0, 0))) ∧ Aside0 (w'.heap[gb211]? = some (.cells #[(.slice none 0 0), .int .i64 0, (.slice none 0 0), .int .i64 0, .int .i64 0, .bool false] 50 (0, 0))) ∧ Aside0 (Below w.heap.size w w'))
  case atStart => exact ⟨(([] : List Int)), (0), (t212), (a0_4), (.slice Ao10 t212.length co10), (rs_), H', ⟨Nat.le_refl _⟩, ⟨by first | exact Kd.R_nil _ _ _ _ _ | exact Kd.N_nil _ _ _ _ _ | exact Kd.V_nil _ _ _ _ _ | exact Kd.Q_nil _ _ _ _ _ | exact Kd.S_nil _ _ _ _ _⟩, ⟨by (with_reducible repeat (first | apply Kd.V_alloc | apply Kd.V_drewN | apply Kd.V_drew)); exact Kd.V_mono (Kd.V_far (p := ⟨gb210, 2, none⟩) (Kd.V_mono HO0_0.out (fun k_ hk => (⟨hk, hk.1.1.2⟩ : _ ∧ k_ ≠ gb210))) (fun _ hk => hk.2) (.slice Ao10 t212.length co10)) (fun _ hk => ⟨hk.1.1.1.1, ⟨(by simp [Value.ownBlock]), ⟨hk.1.2, ⟨hk.1.1.1.2, hk.1.1.2⟩⟩⟩⟩)⟩, ⟨by (with_reducible repeat (first | apply Kd.R_alloc | apply Kd.R_drewN | apply Kd.R_drew)); exact Kd.R_mono (Kd.R_far (p := ⟨gb210, 2, none⟩) (Kd.R_types HO214.out BK210.out (by decide)) (fun _ hk => hk.2) (.slice Ao10 t212.length co10)) (fun _ hk => hk.1.1)⟩, ⟨by refine bp_ ?_; refine blk_put (cs := #[.slice A0_0 l0_0.length c0_0, .int .i64 a0_1, .slice A0_2 l0_2.length c0_2, .int .i64 a0_3, .int .i64 a0_4, .bool true]) ?_ 2 _ rfl; refine bp_ ?_; exact BK210.out⟩, ⟨by refine bp_ ?_; refine blk_far ?_ NB211_210.out _; refine bp_ ?_; exact BK211.out⟩, ⟨bl_⟩⟩
  case round =>
   clear H'
   try clear c1
   try clear c2
   try clear p2
   try clear c3
   try clear c7
   try clear hcz11_0
   try clear hcz11_1
   try clear hcz11_2
   try clear hcz11_3
   try clear hcz11_4
   try clear hcz11_5
   try clear hcz8_0
   try clear hcz8_1
   try clear hcz8_2
   try clear hcz8_3
   try clear hcz8_4
   try clear hcz8_5
   try clear hfz11_0
   try clear hfz11_1
   try clear hfz11_2
   try clear hfz11_3
   try clear hfz11_4
   try clear hfz11_5
   try clear hfz8_0
   try clear hfz8_1
   try clear hfz8_2
   try clear hfz8_3
   try clear hfz8_4
   try clear hfz8_5
   obtain ⟨x5_1, x20_1, x211002_1, x211004_1, u211002, rfl, HA, HK1, HO_5, HO_211000, HO_211002, BK210, BK211, HB⟩ := hrel
   cases gk with
   | zero => exact absurd HA.out (by simp [sift_Add.l0])
   | succ k1 =>
    have H := HA.out
    clear HA
    simp only [sift_Add.l0] at H
    by_cases c12 : x20_1 < (l1.length : Int)
    ·rw [if_pos c12] at H
     have c12b0 : decide (x20_1 < (l1.length : Int)) = true := decide_eq_true c12
     clear c12
     by_cases c13 : 0 ≤ x20_1
     ·rw [if_pos c13] at H
      have c13b0 : decide (0 ≤ x20_1) = true := decide_eq_true c13
      clear c13
      by_cases c14 : x20_1 < (l1.length : Int)
      ·rw [if_pos c14] at H
       have c14b0 : decide (x20_1 < (l1.length : Int)) = true := decide_eq_true c14
       clear c14
       replace H := Option.bind_eq_some_iff.mp H
       obtain ⟨t220, A150, H⟩ := H
       replace H : (if t220 = true then (sift_Add.l1 k1 x5_1 (rd_L6 l1 x20_1) l1 (l1.length : Int) x20_1 l0_0 a0_1 x211002_1 a0_3 x211004_1 true) else (sift_Add.l0 k1 x5_1 l1 (l1.length : Int) (wrap64 (x20_1 + 1)) l0_0 a0_1 x211002_1 a0_3 x211004_1 true)) = some (r1, r2, r3, r4, r5, r6) := H
       have A15 := am_ A150
       clear A150
       by_cases c16 : t220 = true
       ·subst c16
        have H1 : (sift_Add.l1 k1 x5_1 (rd_L6 l1 x20_1) l1 (l1.length : Int) x20_1 l0_0 a0_1 x211002_1 a0_3 x211004_1 true) = some (r1, r2, r3, r4, r5, r6) := by rw [if_pos rfl] at H; exact H
        clear H
        have H := H1
        clear H1
        have H' := am_ H
        clear H
        have p219 : 0 ≤ (x20_1 : Int) := of_decide_eq_true (as_)
        have q219 : x20_1 < (l1.length : Int) := of_decide_eq_true (as_)
        obtain ⟨ad219, A219_0, c219_0, e219, hx219_0, hl219_0, hi219_0⟩ := at_L6 HR1.out x20_1 p219 q219
        cases e219
        replace hx219_0 := (HB.out.cell (World.block_lt_of_cell? w _ hx219_0)).trans hx219_0
        have HR219_0 := am_ hi219_0
        have HC219_0 := am_ hl219_0
        clear hi219_0 hl219_0
        replace p219 := eq_true p219
        replace q219 := eq_true q219
        go_wp2_with (first | ((with_reducible refine gate_callee (f := 49) rfl ?_); refine goesL_ (some 25) rfl rfl Tryd.func49 (by kernel_rfl) rfl #[.slice A219_0 (rd_L6 l1 x20_1).length c219_0] rfl (by (try simp only [List.map_toArray, List.map_cons, List.map_nil]); first | done | rfl | (simp only [List.length_drop, List.length_take]; rfl)) ?_; (with_reducible refine (sift_Whole.calls k1 _ _ (rd_L6 l1 x20_1) true _ ?side1 ?side2 A15.out).mono ?_); (case side1 => repeat (first | exact (Kd.C_below HR219_0.out HB.out) | (with_reducible refine Kd.C_alloc ?_ _) | (with_reducible refine Kd.C_drewN ?_ _) | (with_reducible refine Kd.C_drew ?_))); (case side2 => exact HC219_0.out); rintro e w17 ⟨rfl, hb⟩; refine ⟨_, rfl, ?_⟩; replace HO_5 := am_ (Kd.R_below (kr_ HO_5.out) hb); replace HO_211000 := am_ (Kd.V_below (kv_ HO_211000.out) hb); replace HO_211002 := am_ (Kd.R_below (kr_ HO_211002.out) hb); replace BK210 := am_ (blk_below (g := gb210) (o := .cells #[.slice A0_0 l0_0.length c0_0, .int .i64 a0_1, u211002, .int .i64 a0_3, .int .i64 x211004_1, .bool true] 50 (0, 0)) (bk_ BK210.out) hb); replace BK211 := am_ (blk_below (g := gb211) (o := .cells #[.slice none 0 0, .int .i64 0, .slice none 0 0, .int .i64 0, .int .i64 0, .bool false] 50 (0, 0)) (bk_ BK211.out) hb); replace HB := am_ (below_step (bl_) hb); (try clear hb); (try clear hb2); (try clear hk); (try clear hi)))
        go_loopg [] k1 (fun kq w' => ∃ (x211002_2 : List (S106)) (u211002 : Value), Aside0 (sift_Add.l1 kq x5_1 (rd_L6 l1 x20_1) l1 (l1.length : Int) x20_1 l0_0 a0_1 x211002_2 a0_3 x211004_1 true = some (r1, r2, r3, r4, r5, r6)) ∧ Aside0 (kq ≤ k1) ∧ Aside0 (Kd.R (Kd.int .u64) 28 w' w.heap.size (fun k_ => (w.heap.size ≤ k_)) u5 x5_1) ∧ Aside0 (Kd.V (Kd.int .u64) 28 w' w.heap.size (fun k_ => ((P0_0_ k_ ∨ P0_2_ k_) ∨ w.heap.size ≤ k_) ∧ some k_ ≠ (u5 : Value).ownBlock ∧ some k_ ≠ (u211002 : Value).ownBlock ∧ k_ ≠ gb210 ∧ k_ ≠ gb211) (.slice A0_0 l0_0.length c0_0) l0_0) ∧ Aside0 (Kd.R k106 106 w' w.heap.size (fun k_ => (w.heap.size ≤ k_)) u211002 x211002_2) ∧ Aside0 (w'.heap[gb210]? = some (.cells #[(.slice A0_0 l0_0.length c0_0), .int .i64 a0_1, u211002, .int .i64 a0_3, .int .i64 x211004_1, .bool true] 50 (0, 0))) ∧ Aside0 (w'.heap[gb211]? = some (.cells #[(.slice none 0 0), .int .i64 0, (.slice none 0 0), .int .i64 0, .int .i64 0, .bool false] 50 (0, 0))) ∧ Aside0 (Below w.heap.size w w'))
        case atStart => exact ⟨(x211002_1), (u211002), H', ⟨Nat.le_refl _⟩, ⟨kr_ HO_5.out⟩, ⟨kv_ HO_211000.out⟩, ⟨kr_ HO_211002.out⟩, ⟨bk_ BK210.out⟩, ⟨bk_ BK211.out⟩, ⟨bl_⟩⟩
        case round =>
         clear H'
         try clear c1
         try clear c2
         try clear p2
         try clear q2
         try clear hx2
         try clear c3
         try clear c4
         try clear p6
         try clear c7
         try clear c12
         try clear c12b0
         try clear c13
         try clear c13b0
         try clear c14
         try clear c14b0
         try clear c16
         try clear hcz11_0
         try clear hcz11_1
         try clear hcz11_2
         try clear hcz11_3
         try clear hcz11_4
         try clear hcz11_5
         try clear hcz8_0
         try clear hcz8_1
         try clear hcz8_2
         try clear hcz8_3
         try clear hcz8_4
         try clear hcz8_5
         try clear hfz11_0
         try clear hfz11_1
         try clear hfz11_2
         try clear hfz11_3
         try clear hfz11_4
         try clear hfz11_5
         try clear hfz8_0
         try clear hfz8_1
         try clear hfz8_2
         try clear hfz8_3
         try clear hfz8_4
         try clear hfz8_5
         try clear hx219_0
         try clear p2
         try clear p219
         try clear q219
         obtain ⟨x211002_2, u211002, HA, HK2, HO_5, HO_211000, HO_211002, BK210, BK211, HB⟩ := hrel
         cases gk with
         | zero => exact absurd HA.out (by simp [sift_Add.l1])
         | succ k2 =>
          have H := HA.out
          clear HA
          simp only [sift_Add.l1] at H
          by_cases c18 : (x211002_2.length : Int) < ((rd_L6 l1 x20_1).length : Int)
          ·rw [if_pos c18] at H
           have c18b0 : decide ((x211002_2.length : Int) < ((rd_L6 l1 x20_1).length : Int)) = true := decide_eq_true c18
           have c18b1 : decide (x211002_2.length < (rd_L6 l1 x20_1).length) = true := decide_eq_true (Int.ofNat_lt.mp c18)
           clear c18
           by_cases c19 : x211002_2.length < 1759218604441
           ·rw [if_pos c19] at H
            have LMc19 := am_ c19
            clear c19
            obtain ⟨y221, hy221⟩ : ∃ y_ : List (S106), y_ = (x211002_2 ++ [(⟨(⟨0, 0, (⟨#[]⟩ : ByteArray)⟩ : S23), (⟨0, 0, (⟨#[]⟩ : ByteArray)⟩ : S23), 0, 0⟩ : S106)]) := ⟨_, rfl⟩
            replace H : (sift_Add.l1 k2 x5_1 (rd_L6 l1 x20_1) l1 (l1.length : Int) x20_1 l0_0 a0_1 y221 a0_3 x211004_1 true) = some (r1, r2, r3, r4, r5, r6) := by first | (rw [hy221]; with_reducible exact H) | (have H2_ := (Option.bind_some _ _).symm.trans H; rw [hy221]; with_reducible exact H2_) | (have H2_ := (Option.bind_some _ _).symm.trans H; with_reducible exact H2_) | with_reducible exact H | (rw [hy221]; exact H) | exact H
            have Ny221 := am_ hy221
            clear hy221
            have H' := am_ H
            clear H
            have hnb20 := NB210_211.out
            have hnc20 := NB211_210.out
            have hcz21_0 : wr.cell? ⟨gb210, 0, none⟩ = some (.slice A0_0 l0_0.length c0_0) := (blk_cell BK210.out 0).trans rfl
            have hcz21_1 : wr.cell? ⟨gb210, 1, none⟩ = some (.int .i64 a0_1) := (blk_cell BK210.out 1).trans rfl
            have hcz21_2 : wr.cell? ⟨gb210, 2, none⟩ = some (u211002) := (blk_cell BK210.out 2).trans rfl
            have hcz21_3 : wr.cell? ⟨gb210, 3, none⟩ = some (.int .i64 a0_3) := (blk_cell BK210.out 3).trans rfl
            have hcz21_4 : wr.cell? ⟨gb210, 4, none⟩ = some (.int .i64 x211004_1) := (blk_cell BK210.out 4).trans rfl
            have hcz21_5 : wr.cell? ⟨gb210, 5, none⟩ = some (.bool true) := (blk_cell BK210.out 5).trans rfl
            have hfz21_0 := blk_frozen BK210.out 0
            have hfz21_1 := blk_frozen BK210.out 1
            have hfz21_2 := blk_frozen BK210.out 2
            have hfz21_3 := blk_frozen BK210.out 3
            have hfz21_4 := blk_frozen BK210.out 4
            have hfz21_5 := blk_frozen BK210.out 5
            obtain ⟨Ao22, co22, eo22⟩ := Kd.R_slice HO_211002.out
            subst eo22
            go_wp2_with (first | ((with_reducible refine gate_builtin (b := .append) (xs := #[.tmp 34, .tmp 36]) rfl ?_); at_builtin; refine Kd.R_append k106 (w0 := w) w.heap.size rfl (.tmp 34) (.tmp 36) 48 106 (.agg #[(.int .i64 0), (.int .i64 0), (.string ⟨#[]⟩), (.int .i64 0), (.int .i64 0), (.string ⟨#[]⟩), (.int .i64 0), (.int .i64 0)]) 80 rfl Tryd.underlying48 info106 rfl (by decide) (by omega) (.slice Ao22 x211002_2.length co22) x211002_2 (⟨(⟨0, 0, (⟨#[]⟩ : ByteArray)⟩ : S23), (⟨0, 0, (⟨#[]⟩ : ByteArray)⟩ : S23), 0, 0⟩ : S106) [.int .i64 0, .int .i64 0, .string (⟨#[]⟩ : ByteArray), .int .i64 0, .int .i64 0, .string (⟨#[]⟩ : ByteArray), .int .i64 0, .int .i64 0] (fun k_ => (w.heap.size ≤ k_)) (fun _ => False) rfl rfl ?aP (fun _ hk => hk.elim) ?aF ?aO ?aB ?aS ?aL ?_; (case aP => exact k106_mkM _ _ _ (⟨(⟨0, 0, (⟨#[]⟩ : ByteArray)⟩ : S23), (⟨0, 0, (⟨#[]⟩ : ByteArray)⟩ : S23), 0, 0⟩ : S106)); (case aB => exact (bl_)); (case aF => exact (fun k_ hk => (Nat.le_trans (below_size (bl_)) hk))); (case aO => exact (kr_ HO_211002.out)); (case aS => exact (below_size (bl_))); (case aL => have := LMc19.out; omega); intro v222 w23 ho hb hg hat; rw [← Ny221.out] at ho; replace HO_5 := am_ (Kd.R_over' (kr_ HO_5.out) (Kd.R_typed (kr_ HO_211002.out)) (by decide) hg); replace HO_211000 := am_ (Kd.V_afterv (ok := (fun k_ => ((P0_0_ k_ ∨ P0_2_ k_) ∨ w.heap.size ≤ k_) ∧ some k_ ≠ (u5 : Value).ownBlock ∧ k_ ≠ gb210 ∧ k_ ≠ gb211)) (by (with_reducible repeat (first | apply Kd.V_alloc | apply Kd.V_drewN | apply Kd.V_drew)); exact Kd.V_mono HO_211000.out (fun _ hk => ⟨⟨hk.1, ⟨hk.2.1, ⟨hk.2.2.2.1, hk.2.2.2.2⟩⟩⟩, hk.2.2.1⟩)) hg hat); replace BK210 := am_ (blk_grown (g := gb210) (o := .cells #[.slice A0_0 l0_0.length c0_0, .int .i64 a0_1, .slice Ao22 x211002_2.length co22, .int .i64 a0_3, .int .i64 x211004_1, .bool true] 50 (0, 0)) (bk_ BK210.out) hg (Kd.R_ne HO_211002.out BK210.out (by decide))); replace BK211 := am_ (blk_grown (g := gb211) (o := .cells #[.slice none 0 0, .int .i64 0, .slice none 0 0, .int .i64 0, .int .i64 0, .bool false] 50 (0, 0)) (bk_ BK211.out) hg (Kd.R_ne HO_211002.out BK211.out (by decide))); have HO223 := am_ (ho); replace HB := am_ (hb); clear HO_211002; clear ho hb hg hat; obtain ⟨Ao24, co24, eo24⟩ := Kd.R_slice HO223.out; subst eo24; have hcz25_0 : w23.cell? ⟨gb210, 0, none⟩ = some (.slice A0_0 l0_0.length c0_0) := (blk_cell BK210.out 0).trans rfl; have hcz25_1 : w23.cell? ⟨gb210, 1, none⟩ = some (.int .i64 a0_1) := (blk_cell BK210.out 1).trans rfl; have hcz25_2 : w23.cell? ⟨gb210, 2, none⟩ = some (.slice Ao22 x211002_2.length co22) := (blk_cell BK210.out 2).trans rfl; have hcz25_3 : w23.cell? ⟨gb210, 3, none⟩ = some (.int .i64 a0_3) := (blk_cell BK210.out 3).trans rfl; have hcz25_4 : w23.cell? ⟨gb210, 4, none⟩ = some (.int .i64 x211004_1) := (blk_cell BK210.out 4).trans rfl; have hcz25_5 : w23.cell? ⟨gb210, 5, none⟩ = some (.bool true) := (blk_cell BK210.out 5).trans rfl; have hfz25_0 := blk_frozen BK210.out 0; have hfz25_1 := blk_frozen BK210.out 1; have hfz25_2 := blk_frozen BK210.out 2; have hfz25_3 := blk_frozen BK210.out 3; have hfz25_4 := blk_frozen BK210.out 4; have hfz25_5 := blk_frozen BK210.out 5))
            go_roundg k2
            case measure => have := HK1.out; have := HK2.out; omega
            case rel => exact ⟨(y221), (.slice Ao24 y221.length co24), H', ⟨by have := HK1.out; have := HK2.out; omega⟩, ⟨by (with_reducible repeat (first | apply Kd.R_alloc | apply Kd.R_drewN | apply Kd.R_drew)); exact Kd.R_mono (Kd.R_far (p := ⟨gb210, 2, none⟩) (Kd.R_types HO_5.out BK210.out (by decide)) (fun _ hk => hk.2) (.slice Ao24 y221.length co24)) (fun _ hk => hk.1)⟩, ⟨by (with_reducible repeat (first | apply Kd.V_alloc | apply Kd.V_drewN | apply Kd.V_drew)); exact Kd.V_mono (Kd.V_far (p := ⟨gb210, 2, none⟩) (Kd.V_mono HO_211000.out (fun k_ hk => (⟨hk, hk.1.2.2.1⟩ : _ ∧ k_ ≠ gb210))) (fun _ hk => hk.2) (.slice Ao24 y221.length co24)) (fun _ hk => ⟨hk.1.1.1, ⟨hk.1.1.2.1, ⟨hk.1.2, ⟨hk.1.1.2.2.1, hk.1.1.2.2.2⟩⟩⟩⟩)⟩, ⟨by (with_reducible repeat (first | apply Kd.R_alloc | apply Kd.R_drewN | apply Kd.R_drew)); exact Kd.R_mono (Kd.R_far (p := ⟨gb210, 2, none⟩) (Kd.R_types HO223.out BK210.out (by decide)) (fun _ hk => hk.2) (.slice Ao24 y221.length co24)) (fun _ hk => hk.1)⟩, ⟨by refine bp_ ?_; refine blk_put (cs := #[.slice A0_0 l0_0.length c0_0, .int .i64 a0_1, .slice Ao22 x211002_2.length co22, .int .i64 a0_3, .int .i64 x211004_1, .bool true]) ?_ 2 _ rfl; refine bp_ ?_; exact BK210.out⟩, ⟨by refine bp_ ?_; refine blk_far ?_ NB211_210.out _; refine bp_ ?_; exact BK211.out⟩, ⟨bl_⟩⟩
           ·rw [if_neg c19] at H
            exact absurd H (by simp)
          ·rw [if_neg c18] at H
           have c18b0 : decide ((x211002_2.length : Int) < ((rd_L6 l1 x20_1).length : Int)) = false := decide_eq_false c18
           have c18b1 : decide (x211002_2.length < (rd_L6 l1 x20_1).length) = false := decide_eq_false (fun h => c18 (Int.ofNat_lt.mpr h))
           clear c18
           have H' := am_ H
           clear H
           have hnb26 := NB210_211.out
           have hnc26 := NB211_210.out
           have hcz27_0 : wr.cell? ⟨gb210, 0, none⟩ = some (.slice A0_0 l0_0.length c0_0) := (blk_cell BK210.out 0).trans rfl
           have hcz27_1 : wr.cell? ⟨gb210, 1, none⟩ = some (.int .i64 a0_1) := (blk_cell BK210.out 1).trans rfl
           have hcz27_2 : wr.cell? ⟨gb210, 2, none⟩ = some (u211002) := (blk_cell BK210.out 2).trans rfl
           have hcz27_3 : wr.cell? ⟨gb210, 3, none⟩ = some (.int .i64 a0_3) := (blk_cell BK210.out 3).trans rfl
           have hcz27_4 : wr.cell? ⟨gb210, 4, none⟩ = some (.int .i64 x211004_1) := (blk_cell BK210.out 4).trans rfl
           have hcz27_5 : wr.cell? ⟨gb210, 5, none⟩ = some (.bool true) := (blk_cell BK210.out 5).trans rfl
           have hfz27_0 := blk_frozen BK210.out 0
           have hfz27_1 := blk_frozen BK210.out 1
           have hfz27_2 := blk_frozen BK210.out 2
           have hfz27_3 := blk_frozen BK210.out 3
           have hfz27_4 := blk_frozen BK210.out 4
           have hfz27_5 := blk_frozen BK210.out 5
           obtain ⟨Ao28, co28, eo28⟩ := Kd.R_slice HO_211002.out
           subst eo28
           go_wp2
           go_loopg [41] k2 (fun kq v41 w' => ∃ (x41_3 : Int) (x211002_3 : List (S106)) (u211002 : Value), v41 = .int .i64 x41_3 ∧ Aside0 (sift_Add.l2 kq x5_1 (rd_L6 l1 x20_1) l1 (l1.length : Int) x20_1 (rd_L6 l1 x20_1) ((rd_L6 l1 x20_1).length : Int) x41_3 l0_0 a0_1 x211002_3 a0_3 x211004_1 true = some (r1, r2, r3, r4, r5, r6)) ∧ Aside0 (kq ≤ k2) ∧ Aside0 (Kd.R (Kd.int .u64) 28 w' w.heap.size (fun k_ => (w.heap.size ≤ k_)) u5 x5_1) ∧ Aside0 (Kd.V (Kd.int .u64) 28 w' w.heap.size (fun k_ => ((P0_0_ k_ ∨ P0_2_ k_) ∨ w.heap.size ≤ k_) ∧ some k_ ≠ (u5 : Value).ownBlock ∧ some k_ ≠ (u211002 : Value).ownBlock ∧ k_ ≠ gb210 ∧ k_ ≠ gb211) (.slice A0_0 l0_0.length c0_0) l0_0) ∧ Aside0 (Kd.R k106 106 w' w.heap.size (fun k_ => (w.heap.size ≤ k_)) u211002 x211002_3) ∧ Aside0 (w'.heap[gb210]? = some (.cells #[(.slice A0_0 l0_0.length c0_0), .int .i64 a0_1, u211002, .int .i64 a0_3, .int .i64 x211004_1, .bool true] 50 (0, 0))) ∧ Aside0 (w'.heap[gb211]? = some (.cells #[(.slice none 0 0), .int .i64 0, (.slice none 0 0), .int .i64 0, .int .i64 0, .bool false] 50 (0, 0))) ∧ Aside0 (Below w.heap.size w w'))
           case atStart => exact ⟨(0), (x211002_2), (.slice Ao28 x211002_2.length co28), (rs_), H', ⟨Nat.le_refl _⟩, ⟨kr_ HO_5.out⟩, ⟨kv_ HO_211000.out⟩, ⟨kr_ HO_211002.out⟩, ⟨bk_ BK210.out⟩, ⟨bk_ BK211.out⟩, ⟨bl_⟩⟩
           case round =>
            clear H'
            try clear c1
            try clear c2
            try clear p2
            try clear q2
            try clear hx2
            try clear c3
            try clear c4
            try clear p6
            try clear c7
            try clear c12
            try clear c12b0
            try clear c13
            try clear c13b0
            try clear c14
            try clear c14b0
            try clear c16
            try clear c18
            try clear c18b0
            try clear c18b1
            try clear c19
            try clear c20
            try clear c21
            try clear p21
            try clear q21
            try clear hx21
            try clear c26
            try clear hcz11_0
            try clear hcz11_1
            try clear hcz11_2
            try clear hcz11_3
            try clear hcz11_4
            try clear hcz11_5
            try clear hcz21_0
            try clear hcz21_1
            try clear hcz21_2
            try clear hcz21_3
            try clear hcz21_4
            try clear hcz21_5
            try clear hcz25_0
            try clear hcz25_1
            try clear hcz25_2
            try clear hcz25_3
            try clear hcz25_4
            try clear hcz25_5
            try clear hcz27_0
            try clear hcz27_1
            try clear hcz27_2
            try clear hcz27_3
            try clear hcz27_4
            try clear hcz27_5
            try clear hcz8_0
            try clear hcz8_1
            try clear hcz8_2
            try clear hcz8_3
            try clear hcz8_4
            try clear hcz8_5
            try clear hfz11_0
            try clear hfz11_1
            try clear hfz11_2
            try clear hfz11_3
            try clear hfz11_4
            try clear hfz11_5
            try clear hfz21_0
            try clear hfz21_1
            try clear hfz21_2
            try clear hfz21_3
            try clear hfz21_4
            try clear hfz21_5
            try clear hfz25_0
            try clear hfz25_1
            try clear hfz25_2
            try clear hfz25_3
            try clear hfz25_4
            try clear hfz25_5
            try clear hfz27_0
            try clear hfz27_1
            try clear hfz27_2
            try clear hfz27_3
            try clear hfz27_4
            try clear hfz27_5
            try clear hfz8_0
            try clear hfz8_1
            try clear hfz8_2
            try clear hfz8_3
            try clear hfz8_4
            try clear hfz8_5
            try clear hx219_0
            try clear p2
            try clear p219
            try clear p6
            try clear q2
            try clear q219
            obtain ⟨x41_3, x211002_3, u211002, rfl, HA, HK3, HO_5, HO_211000, HO_211002, BK210, BK211, HB⟩ := hrel
            cases gk with
            | zero => exact absurd HA.out (by simp [sift_Add.l2])
            | succ k3 =>
             have H := HA.out
             clear HA
             simp only [sift_Add.l2] at H
             by_cases c29 : x41_3 < ((rd_L6 l1 x20_1).length : Int)
             ·rw [if_pos c29] at H
              have c29b0 : decide (x41_3 < ((rd_L6 l1 x20_1).length : Int)) = true := decide_eq_true c29
              clear c29
              by_cases c30 : 0 ≤ x41_3
              ·rw [if_pos c30] at H
               have c30b0 : decide (0 ≤ x41_3) = true := decide_eq_true c30
               clear c30
               by_cases c31 : x41_3 < ((rd_L6 l1 x20_1).length : Int)
               ·rw [if_pos c31] at H
                have c31b0 : decide (x41_3 < ((rd_L6 l1 x20_1).length : Int)) = true := decide_eq_true c31
                clear c31
                by_cases c32 : x41_3 < (x211002_3.length : Int)
                ·rw [if_pos c32] at H
                 have c32b0 : decide (x41_3 < (x211002_3.length : Int)) = true := decide_eq_true c32
                 clear c32
                 obtain ⟨y227, hy227⟩ : ∃ y_ : List (S23), y_ = (([(⟨(rd_T23 (rd_L6 l1 x20_1) x41_3).f0, (rd_T23 (rd_L6 l1 x20_1) x41_3).f1, (rd_T23 (rd_L6 l1 x20_1) x41_3).f2⟩ : S23)] : List (S23))) := ⟨_, rfl⟩
                 replace H : ((span_Add.f k3 ((rd_T106 x211002_3 x41_3).f0.f0) ((rd_T106 x211002_3 x41_3).f0.f1) ((rd_T106 x211002_3 x41_3).f0.f2) ((rd_T106 x211002_3 x41_3).f1.f0) ((rd_T106 x211002_3 x41_3).f1.f1) ((rd_T106 x211002_3 x41_3).f1.f2) ((rd_T106 x211002_3 x41_3).f2) ((rd_T106 x211002_3 x41_3).f3) y227).bind fun bt230 => (sift_Add.l2 k3 x5_1 (rd_L6 l1 x20_1) l1 (l1.length : Int) x20_1 (rd_L6 l1 x20_1) ((rd_L6 l1 x20_1).length : Int) (wrap64 (x41_3 + 1)) l0_0 a0_1 (x211002_3.set (x41_3 : Int).toNat (⟨(⟨bt230.1, bt230.2.1, bt230.2.2.1⟩ : S23), (⟨bt230.2.2.2.1, bt230.2.2.2.2.1, bt230.2.2.2.2.2.1⟩ : S23), bt230.2.2.2.2.2.2.1, bt230.2.2.2.2.2.2.2⟩ : S106)) a0_3 x211004_1 true)) = some (r1, r2, r3, r4, r5, r6) := by first | (rw [hy227]; with_reducible exact H) | (have H2_ := (Option.bind_some _ _).symm.trans H; rw [hy227]; with_reducible exact H2_) | (have H2_ := (Option.bind_some _ _).symm.trans H; with_reducible exact H2_) | with_reducible exact H | (rw [hy227]; exact H) | exact H
                 have Ny227 := am_ hy227
                 clear hy227
                 replace H := Option.bind_eq_some_iff.mp H
                 obtain ⟨⟨t230, t231, t232, t233, t234, t235, t236, t237⟩, A330, H⟩ := H
                 replace H : (sift_Add.l2 k3 x5_1 (rd_L6 l1 x20_1) l1 (l1.length : Int) x20_1 (rd_L6 l1 x20_1) ((rd_L6 l1 x20_1).length : Int) (wrap64 (x41_3 + 1)) l0_0 a0_1 (x211002_3.set (x41_3 : Int).toNat (⟨(⟨t230, t231, t232⟩ : S23), (⟨t233, t234, t235⟩ : S23), t236, t237⟩ : S106)) a0_3 x211004_1 true) = some (r1, r2, r3, r4, r5, r6) := H
                 have A33 := am_ A330
                 clear A330
                 obtain ⟨y238, hy238⟩ : ∃ y_ : List (S106), y_ = (x211002_3.set (x41_3 : Int).toNat (⟨(⟨t230, t231, t232⟩ : S23), (⟨t233, t234, t235⟩ : S23), t236, t237⟩ : S106)) := ⟨_, rfl⟩
                 replace H : (sift_Add.l2 k3 x5_1 (rd_L6 l1 x20_1) l1 (l1.length : Int) x20_1 (rd_L6 l1 x20_1) ((rd_L6 l1 x20_1).length : Int) (wrap64 (x41_3 + 1)) l0_0 a0_1 y238 a0_3 x211004_1 true) = some (r1, r2, r3, r4, r5, r6) := by first | (rw [hy238]; with_reducible exact H) | (have H2_ := (Option.bind_some _ _).symm.trans H; rw [hy238]; with_reducible exact H2_) | (have H2_ := (Option.bind_some _ _).symm.trans H; with_reducible exact H2_) | with_reducible exact H | (rw [hy238]; exact H) | exact H
                 have Ny238 := am_ hy238
                 clear hy238
                 have H' := am_ H
                 clear H
                 have p224 : 0 ≤ (x41_3 : Int) := of_decide_eq_true (as_)
                 have q224 : x41_3 < ((rd_L6 l1 x20_1).length : Int) := of_decide_eq_true (as_)
                 obtain ⟨ad224, e224, hx224_0, hx224_1, hx224_2⟩ := at_T23 HR219_0.out x41_3 p224 q224
                 cases e224
                 replace hx224_0 := (HB.out.cell (World.block_lt_of_cell? w _ hx224_0)).trans hx224_0
                 replace hx224_1 := (HB.out.cell (World.block_lt_of_cell? w _ hx224_1)).trans hx224_1
                 replace hx224_2 := (HB.out.cell (World.block_lt_of_cell? w _ hx224_2)).trans hx224_2
                 replace p224 := eq_true p224
                 replace q224 := eq_true q224
                 try go_wp2_with (first | ((with_reducible refine gate_dst (N := 9) rfl ?_); refine box_event ?hg (N := 9) ?hd (cs := #[.int .i64 0, .int .i64 0, .string (⟨#[]⟩ : ByteArray)]) (t := 23) ?hr ?_; (case hd => rfl); (case hg => rfl); (case hr => first | (go_simp; done) | (go_simp; rfl)); intro gb225 hg w35 hbox hb; have n0_ := am_ (Kd.R_below (kr_ HO_5.out) hb); have n1_ := am_ (Kd.V_below (Kd.V_elderB (kv_ HO_211000.out) gb225 (Nat.le_of_eq hg.symm)) hb); have n2_ := am_ (Kd.R_below (kr_ HO_211002.out) hb); have n3_ := am_ (blk_below (g := gb210) (o := .cells #[.slice A0_0 l0_0.length c0_0, .int .i64 a0_1, u211002, .int .i64 a0_3, .int .i64 x211004_1, .bool true] 50 (0, 0)) (bk_ BK210.out) hb); have n4_ := am_ (blk_below (g := gb211) (o := .cells #[.slice none 0 0, .int .i64 0, .slice none 0 0, .int .i64 0, .int .i64 0, .bool false] 50 (0, 0)) (bk_ BK211.out) hb); have n5_ := am_ (below_step (bl_) hb); have n6_ := am_ (hbox); have n7_ := am_ ((by rw [hg]; exact (below_size (bl_)) : w.heap.size ≤ gb225)); have n8_ := am_ ((by rw [hg]; exact (below_size (bl_)) : w.heap.size ≤ gb225)); have n9_ := am_ ((by rw [hg]; exact Nat.ne_of_lt (blk_lt (g := gb210) (o := .cells #[.slice A0_0 l0_0.length c0_0, .int .i64 a0_1, u211002, .int .i64 a0_3, .int .i64 x211004_1, .bool true] 50 (0, 0)) (bk_ BK210.out)) : gb210 ≠ gb225)); have n10_ := am_ ((by rw [hg]; exact Nat.ne_of_gt (blk_lt (g := gb210) (o := .cells #[.slice A0_0 l0_0.length c0_0, .int .i64 a0_1, u211002, .int .i64 a0_3, .int .i64 x211004_1, .bool true] 50 (0, 0)) (bk_ BK210.out)) : gb225 ≠ gb210)); have n11_ := am_ ((by rw [hg]; exact Nat.ne_of_lt (blk_lt (g := gb211) (o := .cells #[.slice none 0 0, .int .i64 0, .slice none 0 0, .int .i64 0, .int .i64 0, .bool false] 50 (0, 0)) (bk_ BK211.out)) : gb211 ≠ gb225)); have n12_ := am_ ((by rw [hg]; exact Nat.ne_of_gt (blk_lt (g := gb211) (o := .cells #[.slice none 0 0, .int .i64 0, .slice none 0 0, .int .i64 0, .int .i64 0, .bool false] 50 (0, 0)) (bk_ BK211.out)) : gb225 ≠ gb211)); clear HO_5; clear HO_211000; clear HO_211002; clear BK210; clear BK211; clear HB; have HO_5 := n0_; have HO_211000 := n1_; have HO_211002 := n2_; have BK210 := n3_; have BK211 := n4_; have HB := n5_; have BK225 := n6_; have GW225 := n7_; have GE225 := n8_; have NB210_225 := n9_; have NB225_210 := n10_; have NB211_225 := n11_; have NB225_211 := n12_; clear n0_ n1_ n2_ n3_ n4_ n5_ n6_ n7_ n8_ n9_ n10_ n11_ n12_; clear hb hbox hg; have hnb36 := NB225_210.out; have hnc36 := NB210_225.out; have hnb37 := NB225_211.out; have hnc37 := NB211_225.out; have hcz38_0 : w35.cell? ⟨gb225, 0, none⟩ = some (.int .i64 0) := (blk_cell BK225.out 0).trans rfl; have hcz38_1 : w35.cell? ⟨gb225, 1, none⟩ = some (.int .i64 0) := (blk_cell BK225.out 1).trans rfl; have hcz38_2 : w35.cell? ⟨gb225, 2, none⟩ = some (.string (⟨#[]⟩ : ByteArray)) := (blk_cell BK225.out 2).trans rfl; have hfz38_0 := blk_frozen BK225.out 0; have hfz38_1 := blk_frozen BK225.out 1; have hfz38_2 := blk_frozen BK225.out 2))
                 have n0_ : Aside0 (Kd.R (Kd.int .u64) 28 (((w35.setCell ⟨gb225, 0, none⟩ (.int .i64 ((rd_T23 (rd_L6 l1 x20_1) x41_3).f0))).setCell ⟨gb225, 1, none⟩ (.int .i64 ((rd_T23 (rd_L6 l1 x20_1) x41_3).f1))).setCell ⟨gb225, 2, none⟩ (.string ((rd_T23 (rd_L6 l1 x20_1) x41_3).f2))) w.heap.size (fun k_ => (w.heap.size ≤ k_)) u5 x5_1) := ⟨by (with_reducible repeat (first | apply Kd.R_alloc | apply Kd.R_drewN | apply Kd.R_drew)); exact Kd.R_mono (Kd.R_far (p := ⟨gb225, 2, none⟩) (Kd.R_far (p := ⟨gb225, 1, none⟩) (Kd.R_far (p := ⟨gb225, 0, none⟩) (Kd.R_types HO_5.out BK225.out (by decide)) (fun _ hk => hk.2) (.int .i64 ((rd_T23 (rd_L6 l1 x20_1) x41_3).f0))) (fun _ hk => hk.2) (.int .i64 ((rd_T23 (rd_L6 l1 x20_1) x41_3).f1))) (fun _ hk => hk.2) (.string ((rd_T23 (rd_L6 l1 x20_1) x41_3).f2))) (fun _ hk => hk.1)⟩
                 have n1_ : Aside0 (Kd.V (Kd.int .u64) 28 (((w35.setCell ⟨gb225, 0, none⟩ (.int .i64 ((rd_T23 (rd_L6 l1 x20_1) x41_3).f0))).setCell ⟨gb225, 1, none⟩ (.int .i64 ((rd_T23 (rd_L6 l1 x20_1) x41_3).f1))).setCell ⟨gb225, 2, none⟩ (.string ((rd_T23 (rd_L6 l1 x20_1) x41_3).f2))) w.heap.size (fun k_ => ((P0_0_ k_ ∨ P0_2_ k_) ∨ w.heap.size ≤ k_) ∧ some k_ ≠ (u5 : Value).ownBlock ∧ some k_ ≠ (u211002 : Value).ownBlock ∧ k_ ≠ gb210 ∧ k_ ≠ gb211 ∧ k_ ≠ gb225) (.slice A0_0 l0_0.length c0_0) l0_0) := ⟨by (with_reducible repeat (first | apply Kd.V_alloc | apply Kd.V_drewN | apply Kd.V_drew)); exact Kd.V_mono (Kd.V_far (p := ⟨gb225, 2, none⟩) (Kd.V_far (p := ⟨gb225, 1, none⟩) (Kd.V_far (p := ⟨gb225, 0, none⟩) (Kd.V_mono HO_211000.out (fun k_ hk => (⟨hk, hk.2⟩ : _ ∧ k_ ≠ gb225))) (fun _ hk => hk.2) (.int .i64 ((rd_T23 (rd_L6 l1 x20_1) x41_3).f0))) (fun _ hk => hk.2) (.int .i64 ((rd_T23 (rd_L6 l1 x20_1) x41_3).f1))) (fun _ hk => hk.2) (.string ((rd_T23 (rd_L6 l1 x20_1) x41_3).f2))) (fun _ hk => ⟨hk.1.1.1, ⟨hk.1.1.2.1, ⟨hk.1.1.2.2.1, ⟨hk.1.1.2.2.2.1, ⟨hk.1.1.2.2.2.2, hk.1.2⟩⟩⟩⟩⟩)⟩
                 have n2_ : Aside0 (Kd.R k106 106 (((w35.setCell ⟨gb225, 0, none⟩ (.int .i64 ((rd_T23 (rd_L6 l1 x20_1) x41_3).f0))).setCell ⟨gb225, 1, none⟩ (.int .i64 ((rd_T23 (rd_L6 l1 x20_1) x41_3).f1))).setCell ⟨gb225, 2, none⟩ (.string ((rd_T23 (rd_L6 l1 x20_1) x41_3).f2))) w.heap.size (fun k_ => (w.heap.size ≤ k_)) u211002 x211002_3) := ⟨by (with_reducible repeat (first | apply Kd.R_alloc | apply Kd.R_drewN | apply Kd.R_drew)); exact Kd.R_mono (Kd.R_far (p := ⟨gb225, 2, none⟩) (Kd.R_far (p := ⟨gb225, 1, none⟩) (Kd.R_far (p := ⟨gb225, 0, none⟩) (Kd.R_types HO_211002.out BK225.out (by decide)) (fun _ hk => hk.2) (.int .i64 ((rd_T23 (rd_L6 l1 x20_1) x41_3).f0))) (fun _ hk => hk.2) (.int .i64 ((rd_T23 (rd_L6 l1 x20_1) x41_3).f1))) (fun _ hk => hk.2) (.string ((rd_T23 (rd_L6 l1 x20_1) x41_3).f2))) (fun _ hk => hk.1)⟩
                 have n3_ : Aside0 ((((w35.setCell ⟨gb225, 0, none⟩ (.int .i64 ((rd_T23 (rd_L6 l1 x20_1) x41_3).f0))).setCell ⟨gb225, 1, none⟩ (.int .i64 ((rd_T23 (rd_L6 l1 x20_1) x41_3).f1))).setCell ⟨gb225, 2, none⟩ (.string ((rd_T23 (rd_L6 l1 x20_1) x41_3).f2))).heap[gb210]? = some (.cells #[.slice A0_0 l0_0.length c0_0, .int .i64 a0_1, u211002, .int .i64 a0_3, .int .i64 x211004_1, .bool true] 50 (0, 0))) := ⟨by refine bp_ ?_; refine blk_far ?_ NB210_225.out _; refine bp_ ?_; refine blk_far ?_ NB210_225.out _; refine bp_ ?_; refine blk_far ?_ NB210_225.out _; refine bp_ ?_; exact BK210.out⟩
                 have n4_ : Aside0 ((((w35.setCell ⟨gb225, 0, none⟩ (.int .i64 ((rd_T23 (rd_L6 l1 x20_1) x41_3).f0))).setCell ⟨gb225, 1, none⟩ (.int .i64 ((rd_T23 (rd_L6 l1 x20_1) x41_3).f1))).setCell ⟨gb225, 2, none⟩ (.string ((rd_T23 (rd_L6 l1 x20_1) x41_3).f2))).heap[gb211]? = some (.cells #[.slice none 0 0, .int .i64 0, .slice none 0 0, .int .i64 0, .int .i64 0, .bool false] 50 (0, 0))) := ⟨by refine bp_ ?_; refine blk_far ?_ NB211_225.out _; refine bp_ ?_; refine blk_far ?_ NB211_225.out _; refine bp_ ?_; refine blk_far ?_ NB211_225.out _; refine bp_ ?_; exact BK211.out⟩
                 have n5_ : Aside0 ((((w35.setCell ⟨gb225, 0, none⟩ (.int .i64 ((rd_T23 (rd_L6 l1 x20_1) x41_3).f0))).setCell ⟨gb225, 1, none⟩ (.int .i64 ((rd_T23 (rd_L6 l1 x20_1) x41_3).f1))).setCell ⟨gb225, 2, none⟩ (.string ((rd_T23 (rd_L6 l1 x20_1) x41_3).f2))).heap[gb225]? = some (.cells #[.int .i64 ((rd_T23 (rd_L6 l1 x20_1) x41_3).f0), .int .i64 ((rd_T23 (rd_L6 l1 x20_1) x41_3).f1), .string ((rd_T23 (rd_L6 l1 x20_1) x41_3).f2)] 23 (0, 0))) := ⟨by refine bp_ ?_; refine blk_put (cs := #[.int .i64 ((rd_T23 (rd_L6 l1 x20_1) x41_3).f0), .int .i64 ((rd_T23 (rd_L6 l1 x20_1) x41_3).f1), .string (⟨#[]⟩ : ByteArray)]) ?_ 2 _ rfl; refine bp_ ?_; refine blk_put (cs := #[.int .i64 ((rd_T23 (rd_L6 l1 x20_1) x41_3).f0), .int .i64 0, .string (⟨#[]⟩ : ByteArray)]) ?_ 1 _ rfl; refine bp_ ?_; refine blk_put (cs := #[.int .i64 0, .int .i64 0, .string (⟨#[]⟩ : ByteArray)]) ?_ 0 _ rfl; refine bp_ ?_; exact BK225.out⟩
                 have n6_ : Aside0 (Below w.heap.size w (((w35.setCell ⟨gb225, 0, none⟩ (.int .i64 ((rd_T23 (rd_L6 l1 x20_1) x41_3).f0))).setCell ⟨gb225, 1, none⟩ (.int .i64 ((rd_T23 (rd_L6 l1 x20_1) x41_3).f1))).setCell ⟨gb225, 2, none⟩ (.string ((rd_T23 (rd_L6 l1 x20_1) x41_3).f2)))) := ⟨bl_⟩
                 (try clear HO_5)
                 (try clear HO_211000)
                 (try clear HO_211002)
                 (try clear BK210)
                 (try clear BK211)
                 (try clear BK225)
                 (try clear HB)
                 generalize (((w35.setCell ⟨gb225, 0, none⟩ (.int .i64 ((rd_T23 (rd_L6 l1 x20_1) x41_3).f0))).setCell ⟨gb225, 1, none⟩ (.int .i64 ((rd_T23 (rd_L6 l1 x20_1) x41_3).f1))).setCell ⟨gb225, 2, none⟩ (.string ((rd_T23 (rd_L6 l1 x20_1) x41_3).f2))) = w39 at n0_ n1_ n2_ n3_ n4_ n5_ n6_ ⊢
                 have HO_5 := n0_
                 have HO_211000 := n1_
                 have HO_211002 := n2_
                 have BK210 := n3_
                 have BK211 := n4_
                 have BK225 := n5_
                 have HB := n6_
                 clear n0_ n1_ n2_ n3_ n4_ n5_ n6_
                 have n0_ := am_ (Kd.R_drew HO_5.out)
                 have n1_ := am_ (Kd.V_drew HO_211000.out)
                 have n2_ := am_ (Kd.R_drew HO_211002.out)
                 have n3_ := am_ (blk_drew BK210.out)
                 have n4_ := am_ (blk_drew BK211.out)
                 have n5_ := am_ (blk_drew BK225.out)
                 have n6_ := am_ (below_drew1 HB.out)
                 clear HO_5
                 clear HO_211000
                 clear HO_211002
                 clear BK210
                 clear BK211
                 clear BK225
                 clear HB
                 have HO_5 := n0_
                 have HO_211000 := n1_
                 have HO_211002 := n2_
                 have BK210 := n3_
                 have BK211 := n4_
                 have BK225 := n5_
                 have HB := n6_
                 clear n0_ n1_ n2_ n3_ n4_ n5_ n6_
                 obtain ⟨Ao41, co41, eo41⟩ := Kd.R_slice HO_211002.out
                 (first | subst eo41 | (injection eo41 with f1_ f2_ f3_; have f4_ := f1_.symm; have f5_ := f3_.symm; clear f1_ f2_ f3_; subst f4_; subst f5_))
                 have p226 : 0 ≤ (x41_3 : Int) := of_decide_eq_true (as_)
                 have q226 : x41_3 < (x211002_3.length : Int) := of_decide_eq_true (as_)
                 obtain ⟨ad226, e226, hx226_0, hx226_1, hx226_2, hx226_3, hx226_4, hx226_5, hx226_6, hx226_7⟩ := at_T106 (Kd.R_reads' HO_211002.out).2.2 x41_3 p226 q226
                 cases e226
                 replace p226 := eq_true p226
                 replace q226 := eq_true q226
                 refine start_ (n := 13) (S := fun w' => w'.cell? ⟨gb210, 0, none⟩ = some (.slice A0_0 l0_0.length c0_0) ∧ w'.cell? ⟨gb210, 1, none⟩ = some (.int .i64 a0_1) ∧ w'.cell? ⟨gb210, 2, none⟩ = some (.slice (some ad226) x211002_3.length co41) ∧ w'.cell? ⟨gb210, 3, none⟩ = some (.int .i64 a0_3) ∧ w'.cell? ⟨gb210, 4, none⟩ = some (.int .i64 x211004_1) ∧ w'.cell? ⟨gb210, 5, none⟩ = some (.bool true) ∧ w'.cell? ⟨gb225, 0, none⟩ = some (.int .i64 ((rd_T23 (rd_L6 l1 x20_1) x41_3).f0)) ∧ w'.cell? ⟨gb225, 1, none⟩ = some (.int .i64 ((rd_T23 (rd_L6 l1 x20_1) x41_3).f1)) ∧ w'.cell? ⟨gb225, 2, none⟩ = some (.string ((rd_T23 (rd_L6 l1 x20_1) x41_3).f2)) ∧ w'.cell? (ad226.add ((x41_3).toNat * 8)) = some (.int .i64 ((rd_T106 x211002_3 x41_3).f0.f0)) ∧ w'.cell? ⟨(ad226.add ((x41_3).toNat * 8)).block, (ad226.add ((x41_3).toNat * 8)).off + 1, none⟩ = some (.int .i64 ((rd_T106 x211002_3 x41_3).f0.f1)) ∧ w'.cell? ⟨(ad226.add ((x41_3).toNat * 8)).block, (ad226.add ((x41_3).toNat * 8)).off + 2, none⟩ = some (.string ((rd_T106 x211002_3 x41_3).f0.f2)) ∧ w'.cell? ⟨(ad226.add ((x41_3).toNat * 8)).block, (ad226.add ((x41_3).toNat * 8)).off + 3, none⟩ = some (.int .i64 ((rd_T106 x211002_3 x41_3).f1.f0)) ∧ w'.cell? ⟨(ad226.add ((x41_3).toNat * 8)).block, (ad226.add ((x41_3).toNat * 8)).off + 4, none⟩ = some (.int .i64 ((rd_T106 x211002_3 x41_3).f1.f1)) ∧ w'.cell? ⟨(ad226.add ((x41_3).toNat * 8)).block, (ad226.add ((x41_3).toNat * 8)).off + 5, none⟩ = some (.string ((rd_T106 x211002_3 x41_3).f1.f2)) ∧ w'.cell? ⟨(ad226.add ((x41_3).toNat * 8)).block, (ad226.add ((x41_3).toNat * 8)).off + 6, none⟩ = some (.int .i64 ((rd_T106 x211002_3 x41_3).f2)) ∧ w'.cell? ⟨(ad226.add ((x41_3).toNat * 8)).block, (ad226.add ((x41_3).toNat * 8)).off + 7, none⟩ = some (.int .i64 ((rd_T106 x211002_3 x41_3).f3))) (ds := [12]) #[false, false, false, false, false, false, false, false, false, false, false, false, false] (by kernel_rfl) rfl rfl ⟨(blk_cell BK210.out 0).trans rfl, (blk_cell BK210.out 1).trans rfl, (blk_cell BK210.out 2).trans rfl, (blk_cell BK210.out 3).trans rfl, (blk_cell BK210.out 4).trans rfl, (blk_cell BK210.out 5).trans rfl, (blk_cell BK225.out 0).trans rfl, (blk_cell BK225.out 1).trans rfl, (blk_cell BK225.out 2).trans rfl, hx226_0, hx226_1, hx226_2, hx226_3, hx226_4, hx226_5, hx226_6, hx226_7⟩ (fun hHeld => ?_); refine with_tabW sift_Add.tab14 sift_Add.bits14 (fun HT_ HW_ => ?_)
                 generalize w39.drew = w40 at HO_5 HO_211000 HO_211002 BK210 BK211 BK225 HB hx226_0 hx226_1 hx226_2 hx226_3 hx226_4 hx226_5 hx226_6 hx226_7 hHeld ⊢
                 refine pure_ (i := 0) (N := some 46) (v := ?_) (a' := ?_) #[true, false, false, false, false, false, false, false, false, false, false, false, false] rfl rfl (any_of HT_.out (by kernel_rfl)) (fun _ _ _ h => h) (Or.inl ⟨by rfl, ?_⟩) ?_ ?_
                 rotate_left
                 ·intro w'
                  go_simp
                  with_reducible rfl
                 rotate_left
                 ·simp only [Act.put, List.setIfInBounds_toArray, List.set_cons_zero, List.set_cons_succ, i64_w, i32_w]
                  rfl
                 refine pure_ (i := 2) (N := some 48) (v := ?_) (a' := ?_) #[true, false, true, false, false, false, false, false, false, false, false, false, false] rfl rfl (any_of HT_.out (by kernel_rfl)) (fun _ _ _ h => h) (Or.inl ⟨by rfl, ?_⟩) ?_ ?_
                 rotate_left
                 ·intro w'
                  go_simp
                  with_reducible rfl
                 rotate_left
                 ·simp only [Act.put, List.setIfInBounds_toArray, List.set_cons_zero, List.set_cons_succ, i64_w, i32_w]
                  rfl
                 refine pure_ (i := 3) (N := some 49) (v := ?_) (a' := ?_) #[true, false, true, true, false, false, false, false, false, false, false, false, false] rfl rfl (any_of HT_.out (by kernel_rfl)) (fun _ _ _ h => h) (Or.inl ⟨by rfl, ?_⟩) ?_ ?_
                 rotate_left
                 ·intro w'
                  go_simp
                  with_reducible rfl
                 rotate_left
                 ·simp only [Act.put, List.setIfInBounds_toArray, List.set_cons_zero, List.set_cons_succ, i64_w, i32_w]
                  rfl
                 refine pure_ (i := 5) (N := some 51) (v := ?_) (a' := ?_) #[true, false, true, true, false, true, false, false, false, false, false, false, false] rfl rfl (any_of HT_.out (by kernel_rfl)) (fun _ _ _ h => h) (Or.inl ⟨by rfl, ?_⟩) ?_ ?_
                 rotate_left
                 ·intro w'
                  go_simp
                  with_reducible rfl
                 rotate_left
                 ·simp only [Act.put, List.setIfInBounds_toArray, List.set_cons_zero, List.set_cons_succ, i64_w, i32_w]
                  rfl
                 refine take_ (i := 1) (N := some 47) (v := ?_) (a' := ?_) #[true, true, true, true, false, true, false, false, false, false, false, false, false] rfl rfl (take_ofW HT_.out HW_.out (by kernel_rfl)) (fun _ _ _ h => h) (Or.inl ⟨by rfl, ?_⟩) hHeld ?_ ?_
                 rotate_left
                 ·rintro w' ⟨s0, s1, s2, s3, s4, s5, s6, s7, s8, s9, s10, s11, s12, s13, s14, s15, s16⟩
                  go_simp
                  with_reducible rfl
                 rotate_left
                 ·simp only [Act.put, List.setIfInBounds_toArray, List.set_cons_zero, List.set_cons_succ, i64_w, i32_w]
                  rfl
                 refine take_ (i := 4) (N := some 50) (v := ?_) (a' := ?_) #[true, true, true, true, true, true, false, false, false, false, false, false, false] rfl rfl (take_ofW HT_.out HW_.out (by kernel_rfl)) (fun _ _ _ h => h) (Or.inl ⟨by rfl, ?_⟩) hHeld ?_ ?_
                 rotate_left
                 ·rintro w' ⟨s0, s1, s2, s3, s4, s5, s6, s7, s8, s9, s10, s11, s12, s13, s14, s15, s16⟩
                  go_simp
                  with_reducible rfl
                 rotate_left
                 ·simp only [Act.put, List.setIfInBounds_toArray, List.set_cons_zero, List.set_cons_succ, i64_w, i32_w]
                  rfl
                 refine pure_ (i := 6) (N := some 52) (v := ?_) (a' := ?_) #[true, true, true, true, true, true, true, false, false, false, false, false, false] rfl rfl (any_of HT_.out (by kernel_rfl)) (fun _ _ _ h => h) (Or.inl ⟨by rfl, ?_⟩) ?_ ?_
                 rotate_left
                 ·intro w'
                  go_simp
                  with_reducible rfl
                 rotate_left
                 ·simp only [Act.put, List.setIfInBounds_toArray, List.set_cons_zero, List.set_cons_succ, i64_w, i32_w]
                  rfl
                 refine take_ (i := 7) (N := some 53) (v := ?_) (a' := ?_) #[true, true, true, true, true, true, true, true, false, false, false, false, false] rfl rfl (take_ofW HT_.out HW_.out (by kernel_rfl)) (fun _ _ _ h => h) (Or.inl ⟨by rfl, ?_⟩) hHeld ?_ ?_
                 rotate_left
                 ·rintro w' ⟨s0, s1, s2, s3, s4, s5, s6, s7, s8, s9, s10, s11, s12, s13, s14, s15, s16⟩
                  go_simp
                  with_reducible rfl
                 rotate_left
                 ·simp only [Act.put, List.setIfInBounds_toArray, List.set_cons_zero, List.set_cons_succ, i64_w, i32_w]
                  rfl
                 refine take_ (i := 8) (N := some 54) (v := ?_) (a' := ?_) #[true, true, true, true, true, true, true, true, true, false, false, false, false] rfl rfl (take_ofW HT_.out HW_.out (by kernel_rfl)) (fun _ _ _ h => h) (Or.inl ⟨by rfl, ?_⟩) hHeld ?_ ?_
                 rotate_left
                 ·rintro w' ⟨s0, s1, s2, s3, s4, s5, s6, s7, s8, s9, s10, s11, s12, s13, s14, s15, s16⟩
                  go_simp
                  with_reducible rfl
                 rotate_left
                 ·simp only [Act.put, List.setIfInBounds_toArray, List.set_cons_zero, List.set_cons_succ, i64_w, i32_w]
                  rfl
                 refine one_ (i := 9) (N := some 55) #[true, true, true, true, true, true, true, true, true, true, false, false, false] rfl rfl (one_of HT_.out (by kernel_rfl)) (by decide) (fun K hK => ?_)
                 refine Kd.R_lit_step k23 _ 23 ?hg (N := 55) ?hd (xs := ([(⟨(rd_T23 (rd_L6 l1 x20_1) x41_3).f0, (rd_T23 (rd_L6 l1 x20_1) x41_3).f1, (rd_T23 (rd_L6 l1 x20_1) x41_3).f2⟩ : S23)] : List (S23))) (inner := [.int .i64 ((rd_T23 (rd_L6 l1 x20_1) x41_3).f0), .int .i64 ((rd_T23 (rd_L6 l1 x20_1) x41_3).f1), .string ((rd_T23 (rd_L6 l1 x20_1) x41_3).f2)]) (ok := fun _ => True) (okp := fun _ => True) ?hr ?hp (fun _ hk => hk) trivial (Below.refl _ _) (Nat.le_refl _) (by simp) ?_; (case hd => rfl); (case hg => rfl); (case hr => first | (go_simp; done) | (go_simp; rfl)); (case hp => exact (Reps.c3 (show Kd.M k23 _ _ _ (⟨(rd_T23 (rd_L6 l1 x20_1) x41_3).f0, (rd_T23 (rd_L6 l1 x20_1) x41_3).f1, (rd_T23 (rd_L6 l1 x20_1) x41_3).f2⟩ : S23) [.int .i64 ((rd_T23 (rd_L6 l1 x20_1) x41_3).f0), .int .i64 ((rd_T23 (rd_L6 l1 x20_1) x41_3).f1), .string ((rd_T23 (rd_L6 l1 x20_1) x41_3).f2)] from (k23_mkM _ _ _ (⟨(rd_T23 (rd_L6 l1 x20_1) x41_3).f0, (rd_T23 (rd_L6 l1 x20_1) x41_3).f1, (rd_T23 (rd_L6 l1 x20_1) x41_3).f2⟩ : S23) )) (Reps.none _ _)))
                 intro v228 w42 ho43 hb hg_ hnew_
                 have HS9_ := (hb.cell (World.block_lt_of_cell? _ _ (hHeld.2.2.2.2.2.2.2.2.2.1))).trans (hHeld.2.2.2.2.2.2.2.2.2.1)
                 have HS10_ := (hb.cell (World.block_lt_of_cell? _ _ (hHeld.2.2.2.2.2.2.2.2.2.2.1))).trans (hHeld.2.2.2.2.2.2.2.2.2.2.1)
                 have HS11_ := (hb.cell (World.block_lt_of_cell? _ _ (hHeld.2.2.2.2.2.2.2.2.2.2.2.1))).trans (hHeld.2.2.2.2.2.2.2.2.2.2.2.1)
                 have HS12_ := (hb.cell (World.block_lt_of_cell? _ _ (hHeld.2.2.2.2.2.2.2.2.2.2.2.2.1))).trans (hHeld.2.2.2.2.2.2.2.2.2.2.2.2.1)
                 have HS13_ := (hb.cell (World.block_lt_of_cell? _ _ (hHeld.2.2.2.2.2.2.2.2.2.2.2.2.2.1))).trans (hHeld.2.2.2.2.2.2.2.2.2.2.2.2.2.1)
                 have HS14_ := (hb.cell (World.block_lt_of_cell? _ _ (hHeld.2.2.2.2.2.2.2.2.2.2.2.2.2.2.1))).trans (hHeld.2.2.2.2.2.2.2.2.2.2.2.2.2.2.1)
                 have HS15_ := (hb.cell (World.block_lt_of_cell? _ _ (hHeld.2.2.2.2.2.2.2.2.2.2.2.2.2.2.2.1))).trans (hHeld.2.2.2.2.2.2.2.2.2.2.2.2.2.2.2.1)
                 have HS16_ := (hb.cell (World.block_lt_of_cell? _ _ (hHeld.2.2.2.2.2.2.2.2.2.2.2.2.2.2.2.2))).trans (hHeld.2.2.2.2.2.2.2.2.2.2.2.2.2.2.2.2)
                 clear hg_ hnew_
                 (first | rw [← Ny227.out] at ho43 | (simp only [Int.reduceToNat] at ho43; rw [← Ny227.out] at ho43))
                 have n0_ := am_ (Kd.R_below (kr_ HO_5.out) hb)
                 have n1_ := am_ (Kd.V_elder' (kv_ HO_211000.out) (Kd.R_base ho43) hb)
                 have n2_ := am_ (Kd.R_below (kr_ HO_211002.out) hb)
                 have n3_ := am_ (Kd.R_lower (Kd.R_newB (Kd.R_newM (M := fun k_ => (w.heap.size ≤ k_)) ho43 (below_size (bl_)) (fun k_ h_ => h_)) (g := gb225) (o := .cells #[.int .i64 ((rd_T23 (rd_L6 l1 x20_1) x41_3).f0), .int .i64 ((rd_T23 (rd_L6 l1 x20_1) x41_3).f1), .string ((rd_T23 (rd_L6 l1 x20_1) x41_3).f2)] 23 (0, 0)) (bk_ BK225.out)) (below_size (bl_)))
                 have n4_ := am_ (blk_below (g := gb210) (o := .cells #[.slice A0_0 l0_0.length c0_0, .int .i64 a0_1, .slice (some ad226) x211002_3.length co41, .int .i64 a0_3, .int .i64 x211004_1, .bool true] 50 (0, 0)) (bk_ BK210.out) hb)
                 have n5_ := am_ (blk_below (g := gb211) (o := .cells #[.slice none 0 0, .int .i64 0, .slice none 0 0, .int .i64 0, .int .i64 0, .bool false] 50 (0, 0)) (bk_ BK211.out) hb)
                 have n6_ := am_ (blk_below (g := gb225) (o := .cells #[.int .i64 ((rd_T23 (rd_L6 l1 x20_1) x41_3).f0), .int .i64 ((rd_T23 (rd_L6 l1 x20_1) x41_3).f1), .string ((rd_T23 (rd_L6 l1 x20_1) x41_3).f2)] 23 (0, 0)) (bk_ BK225.out) hb)
                 have n7_ := am_ (below_step (bl_) hb)
                 clear HO_5
                 clear HO_211000
                 clear HO_211002
                 clear BK210
                 clear BK211
                 clear BK225
                 clear HB
                 have HO_5 := n0_
                 have HO_211000 := n1_
                 have HO_211002 := n2_
                 have HO229 := n3_
                 have BK210 := n4_
                 have BK211 := n5_
                 have BK225 := n6_
                 have HB := n7_
                 clear n0_ n1_ n2_ n3_ n4_ n5_ n6_ n7_
                 clear hb ho43
                 obtain ⟨Ao44, co44, eo44⟩ := Kd.R_slice HO229.out
                 (first | subst eo44 | (injection eo44 with f1_ f2_ f3_; have f4_ := f1_.symm; have f5_ := f3_.symm; clear f1_ f2_ f3_; subst f4_; subst f5_))
                 refine hK.out _ _ ⟨(blk_cell BK210.out 0).trans rfl, (blk_cell BK210.out 1).trans rfl, (blk_cell BK210.out 2).trans rfl, (blk_cell BK210.out 3).trans rfl, (blk_cell BK210.out 4).trans rfl, (blk_cell BK210.out 5).trans rfl, (blk_cell BK225.out 0).trans rfl, (blk_cell BK225.out 1).trans rfl, (blk_cell BK225.out 2).trans rfl, HS9_, HS10_, HS11_, HS12_, HS13_, HS14_, HS15_, HS16_⟩ (fun hHeld => ?_)
                 clear hK K
                 refine norm_ (a' := ?_) ?_ ?_
                 rotate_left
                 ·show Act.put _ (some 55) _ = _
                  simp only [Act.put, List.setIfInBounds_toArray, List.set_cons_zero, List.set_cons_succ, i64_w, i32_w]
                  rfl
                 refine one_ (i := 10) (N := some 56) #[true, true, true, true, true, true, true, true, true, true, true, false, false] rfl rfl (one_of HT_.out (by kernel_rfl)) (by decide) (fun K hK => ?_)
                 refine goes_ Tryd.func71 (by kernel_rfl) rfl #[.agg #[.int .i64 ((rd_T106 x211002_3 x41_3).f0.f0), .int .i64 ((rd_T106 x211002_3 x41_3).f0.f1), .string ((rd_T106 x211002_3 x41_3).f0.f2), .int .i64 ((rd_T106 x211002_3 x41_3).f1.f0), .int .i64 ((rd_T106 x211002_3 x41_3).f1.f1), .string ((rd_T106 x211002_3 x41_3).f1.f2), .int .i64 ((rd_T106 x211002_3 x41_3).f2), .int .i64 ((rd_T106 x211002_3 x41_3).f3)], .slice Ao44 y227.length co44] (by rfl) rfl rfl (by (try simp only [List.map_toArray, List.map_cons, List.map_nil]); first | done | rfl | (simp only [List.length_drop, List.length_take]; rfl)) ?_
                 with_reducible refine (span_Add.calls k3 ((rd_T106 x211002_3 x41_3).f0.f0) ((rd_T106 x211002_3 x41_3).f0.f1) ((rd_T106 x211002_3 x41_3).f0.f2) ((rd_T106 x211002_3 x41_3).f1.f0) ((rd_T106 x211002_3 x41_3).f1.f1) ((rd_T106 x211002_3 x41_3).f1.f2) ((rd_T106 x211002_3 x41_3).f2) ((rd_T106 x211002_3 x41_3).f3) _ _ y227 t230 t231 t232 t233 t234 t235 t236 t237 _ ?side1 ?side2 A33.out).mono ?_
                 (case side1 => repeat (first | exact (Kd.R_reads' HO229.out).2.2 | (with_reducible refine Kd.C_alloc ?_ _) | (with_reducible refine Kd.C_drewN ?_ _) | (with_reducible refine Kd.C_drew ?_)))
                 (case side2 => exact (Kd.R_reads' HO229.out).2.1)
                 rintro e w45 ⟨rfl, hb⟩
                 have HS9_ := (hb.cell (World.block_lt_of_cell? _ _ (hHeld.2.2.2.2.2.2.2.2.2.1))).trans (hHeld.2.2.2.2.2.2.2.2.2.1)
                 have HS10_ := (hb.cell (World.block_lt_of_cell? _ _ (hHeld.2.2.2.2.2.2.2.2.2.2.1))).trans (hHeld.2.2.2.2.2.2.2.2.2.2.1)
                 have HS11_ := (hb.cell (World.block_lt_of_cell? _ _ (hHeld.2.2.2.2.2.2.2.2.2.2.2.1))).trans (hHeld.2.2.2.2.2.2.2.2.2.2.2.1)
                 have HS12_ := (hb.cell (World.block_lt_of_cell? _ _ (hHeld.2.2.2.2.2.2.2.2.2.2.2.2.1))).trans (hHeld.2.2.2.2.2.2.2.2.2.2.2.2.1)
                 have HS13_ := (hb.cell (World.block_lt_of_cell? _ _ (hHeld.2.2.2.2.2.2.2.2.2.2.2.2.2.1))).trans (hHeld.2.2.2.2.2.2.2.2.2.2.2.2.2.1)
                 have HS14_ := (hb.cell (World.block_lt_of_cell? _ _ (hHeld.2.2.2.2.2.2.2.2.2.2.2.2.2.2.1))).trans (hHeld.2.2.2.2.2.2.2.2.2.2.2.2.2.2.1)
                 have HS15_ := (hb.cell (World.block_lt_of_cell? _ _ (hHeld.2.2.2.2.2.2.2.2.2.2.2.2.2.2.2.1))).trans (hHeld.2.2.2.2.2.2.2.2.2.2.2.2.2.2.2.1)
                 have HS16_ := (hb.cell (World.block_lt_of_cell? _ _ (hHeld.2.2.2.2.2.2.2.2.2.2.2.2.2.2.2.2))).trans (hHeld.2.2.2.2.2.2.2.2.2.2.2.2.2.2.2.2)
                 refine ⟨_, rfl, ?_⟩
                 have n0_ := am_ (Kd.R_below (kr_ HO_5.out) hb)
                 have n1_ := am_ (Kd.V_below (kv_ HO_211000.out) hb)
                 have n2_ := am_ (Kd.R_below (kr_ HO_211002.out) hb)
                 have n3_ := am_ (Kd.R_below (kr_ HO229.out) hb)
                 have n4_ := am_ (blk_below (g := gb210) (o := .cells #[.slice A0_0 l0_0.length c0_0, .int .i64 a0_1, .slice (some ad226) x211002_3.length co41, .int .i64 a0_3, .int .i64 x211004_1, .bool true] 50 (0, 0)) (bk_ BK210.out) hb)
                 have n5_ := am_ (blk_below (g := gb211) (o := .cells #[.slice none 0 0, .int .i64 0, .slice none 0 0, .int .i64 0, .int .i64 0, .bool false] 50 (0, 0)) (bk_ BK211.out) hb)
                 have n6_ := am_ (blk_below (g := gb225) (o := .cells #[.int .i64 ((rd_T23 (rd_L6 l1 x20_1) x41_3).f0), .int .i64 ((rd_T23 (rd_L6 l1 x20_1) x41_3).f1), .string ((rd_T23 (rd_L6 l1 x20_1) x41_3).f2)] 23 (0, 0)) (bk_ BK225.out) hb)
                 have n7_ := am_ (below_step (bl_) hb)
                 clear HO_5
                 clear HO_211000
                 clear HO_211002
                 clear HO229
                 clear BK210
                 clear BK211
                 clear BK225
                 clear HB
                 have HO_5 := n0_
                 have HO_211000 := n1_
                 have HO_211002 := n2_
                 have HO229 := n3_
                 have BK210 := n4_
                 have BK211 := n5_
                 have BK225 := n6_
                 have HB := n7_
                 clear n0_ n1_ n2_ n3_ n4_ n5_ n6_ n7_
                 (try clear hb)
                 (try clear hb2)
                 (try clear hk)
                 (try clear hi)
                 have p34 : 0 ≤ (x41_3 : Int) := of_decide_eq_true (as_)
                 have q34 : (x41_3 : Int) < ((x211002_3.length : Int) : Int) := of_decide_eq_true (as_)
                 obtain ⟨go34, co34, eo34, gb34, gl34, cl34, HG34⟩ := Kd.R_form HO_211002.out (by omega)
                 (first | cases eo34 | (injection eo34 with ea_ en_ ec_; (first | subst ea_ | (injection ea_ with ea_; subst ea_)); subst ec_; clear en_))
                 have GB34 := am_ gb34
                 have GG34 := am_ HG34
                 clear gb34 gl34 HG34
                 (first | simp only [add_plain] at hx226_0 | skip)
                 (first | simp only [add_plain] at hx226_1 | skip)
                 (first | simp only [add_plain] at hx226_2 | skip)
                 (first | simp only [add_plain] at hx226_3 | skip)
                 (first | simp only [add_plain] at hx226_4 | skip)
                 (first | simp only [add_plain] at hx226_5 | skip)
                 (first | simp only [add_plain] at hx226_6 | skip)
                 (first | simp only [add_plain] at hx226_7 | skip)
                 obtain ⟨ce34, hcl34, hM34, hcc34, hfr34⟩ := Kd.R_elem HO_211002.out z106 (x41_3 : Int) p34 q34
                 obtain rfl := k106_openM hM34
                 have hx34_0 : World.cell? _ ⟨go34, (x41_3 : Int).toNat * 8, none⟩ = some (.int .i64 ((rd_T106 x211002_3 x41_3).f0.f0)) := hcc34 0 _ rfl
                 have hx34_1 : World.cell? _ ⟨go34, (x41_3 : Int).toNat * 8 + 1, none⟩ = some (.int .i64 ((rd_T106 x211002_3 x41_3).f0.f1)) := hcc34 1 _ rfl
                 have hx34_2 : World.cell? _ ⟨go34, (x41_3 : Int).toNat * 8 + 2, none⟩ = some (.string ((rd_T106 x211002_3 x41_3).f0.f2)) := hcc34 2 _ rfl
                 have hx34_3 : World.cell? _ ⟨go34, (x41_3 : Int).toNat * 8 + 3, none⟩ = some (.int .i64 ((rd_T106 x211002_3 x41_3).f1.f0)) := hcc34 3 _ rfl
                 have hx34_4 : World.cell? _ ⟨go34, (x41_3 : Int).toNat * 8 + 4, none⟩ = some (.int .i64 ((rd_T106 x211002_3 x41_3).f1.f1)) := hcc34 4 _ rfl
                 have hx34_5 : World.cell? _ ⟨go34, (x41_3 : Int).toNat * 8 + 5, none⟩ = some (.string ((rd_T106 x211002_3 x41_3).f1.f2)) := hcc34 5 _ rfl
                 have hx34_6 : World.cell? _ ⟨go34, (x41_3 : Int).toNat * 8 + 6, none⟩ = some (.int .i64 ((rd_T106 x211002_3 x41_3).f2)) := hcc34 6 _ rfl
                 have hx34_7 : World.cell? _ ⟨go34, (x41_3 : Int).toNat * 8 + 7, none⟩ = some (.int .i64 ((rd_T106 x211002_3 x41_3).f3)) := hcc34 7 _ rfl
                 have hf34_0 : World.frozen? _ ⟨go34, (x41_3 : Int).toNat * 8, none⟩ = false := hfr34 0
                 have hf34_1 : World.frozen? _ ⟨go34, (x41_3 : Int).toNat * 8 + 1, none⟩ = false := hfr34 1
                 have hf34_2 : World.frozen? _ ⟨go34, (x41_3 : Int).toNat * 8 + 2, none⟩ = false := hfr34 2
                 have hf34_3 : World.frozen? _ ⟨go34, (x41_3 : Int).toNat * 8 + 3, none⟩ = false := hfr34 3
                 have hf34_4 : World.frozen? _ ⟨go34, (x41_3 : Int).toNat * 8 + 4, none⟩ = false := hfr34 4
                 have hf34_5 : World.frozen? _ ⟨go34, (x41_3 : Int).toNat * 8 + 5, none⟩ = false := hfr34 5
                 have hf34_6 : World.frozen? _ ⟨go34, (x41_3 : Int).toNat * 8 + 6, none⟩ = false := hfr34 6
                 have hf34_7 : World.frozen? _ ⟨go34, (x41_3 : Int).toNat * 8 + 7, none⟩ = false := hfr34 7
                 clear hcl34 hcc34 hfr34 hM34
                 replace p34 := eq_true p34
                 replace q34 := eq_true q34
                 obtain ⟨ce46, hcl46, hM46, hcc46, hfr46⟩ := Kd.R_elem HO_211002.out z106 (x41_3 : Int) (of_decide_eq_true (as_)) (by have h_ : (x41_3 : Int) < ((x211002_3.length : Int) : Int) := of_decide_eq_true (as_); first | exact h_ | (have e_ := (Kd.R_reads' HO_211002.out).1; omega) | simpa using h_)
                 obtain rfl := k106_openM hM46
                 have HP46 := (Kd.R_seg HO_211002.out (x41_3 : Int) (of_decide_eq_true (as_)) (by have h_ : (x41_3 : Int) < ((x211002_3.length : Int) : Int) := of_decide_eq_true (as_); first | exact h_ | (have e_ := (Kd.R_reads' HO_211002.out).1; omega) | simpa using h_) (seg := [.int .i64 t230, .int .i64 t231, .string t232, .int .i64 t233, .int .i64 t234, .string t235, .int .i64 t236, .int .i64 t237]) (j := 0) hcl46 hcc46 (show 8 ≤ 8 from by decide) (x' := (⟨(⟨t230, t231, t232⟩ : S23), (⟨t233, t234, t235⟩ : S23), t236, t237⟩ : S106)) (k106_mkM _ _ _ (⟨(⟨t230, t231, t232⟩ : S23), (⟨t233, t234, t235⟩ : S23), t236, t237⟩ : S106) ) (fun _ hk => hk)).1
                 rw [← Ny238.out] at HP46
                 have HQ46 := am_ HP46
                 clear hcl46 hcc46 hfr46 hM46 HP46
                 refine hK.out _ _ ⟨(blk_cell BK210.out 0).trans rfl, (blk_cell BK210.out 1).trans rfl, (blk_cell BK210.out 2).trans rfl, (blk_cell BK210.out 3).trans rfl, (blk_cell BK210.out 4).trans rfl, (blk_cell BK210.out 5).trans rfl, (blk_cell BK225.out 0).trans rfl, (blk_cell BK225.out 1).trans rfl, (blk_cell BK225.out 2).trans rfl, HS9_, HS10_, HS11_, HS12_, HS13_, HS14_, HS15_, HS16_⟩ (fun hHeld => ?_)
                 clear hK K
                 refine norm_ (a' := ?_) ?_ ?_
                 rotate_left
                 ·show Act.put _ (some 56) _ = _
                  simp only [Act.put, List.setIfInBounds_toArray, List.set_cons_zero, List.set_cons_succ, i64_w, i32_w]
                  rfl
                 refine pure_ (i := 11) (N := some 57) (v := ?_) (a' := ?_) #[true, true, true, true, true, true, true, true, true, true, true, true, false] rfl rfl (any_of HT_.out (by kernel_rfl)) (fun _ _ _ h => h) (Or.inl ⟨by rfl, ?_⟩) ?_ ?_
                 rotate_left
                 ·intro w'
                  go_simp
                  with_reducible rfl
                 rotate_left
                 ·simp only [Act.put, List.setIfInBounds_toArray, List.set_cons_zero, List.set_cons_succ, i64_w, i32_w]
                  rfl
                 refine last_ (i := 12) (N := none) #[true, true, true, true, true, true, true, true, true, true, true, true, true] rfl rfl (one_of HT_.out (by kernel_rfl)) (by decide) (fun K hK => ?_)
                 refine skip_ (w1 := ?_) (by rfl) rfl ?_ ?_
                 rotate_left
                 ·go_simp
                  rfl
                 refine hK.out _ _ ?_
                 clear hK K
                 refine done_ (done_of HT_.out (by kernel_rfl)) ?_
                 try go_wp2
                 go_roundg k3
                 case measure => have := HK1.out; have := HK2.out; have := HK3.out; omega
                 case rel => exact ⟨(wrap64 (x41_3 + 1)), (y238), (.slice (some ⟨go34, 0, none⟩) x211002_3.length co41), (rs_), H', ⟨by have := HK1.out; have := HK2.out; have := HK3.out; omega⟩, ⟨by (with_reducible repeat (first | apply Kd.R_alloc | apply Kd.R_drewN | apply Kd.R_drew)); exact Kd.R_mono (Kd.R_far (p := ⟨go34, (x41_3 : Int).toNat * 8 + 7, none⟩) (Kd.R_far (p := ⟨go34, (x41_3 : Int).toNat * 8 + 6, none⟩) (Kd.R_far (p := ⟨go34, (x41_3 : Int).toNat * 8 + 5, none⟩) (Kd.R_far (p := ⟨go34, (x41_3 : Int).toNat * 8 + 4, none⟩) (Kd.R_far (p := ⟨go34, (x41_3 : Int).toNat * 8 + 3, none⟩) (Kd.R_far (p := ⟨go34, (x41_3 : Int).toNat * 8 + 2, none⟩) (Kd.R_far (p := ⟨go34, (x41_3 : Int).toNat * 8 + 1, none⟩) (Kd.R_far (p := ⟨go34, (x41_3 : Int).toNat * 8, none⟩) (Kd.R_types HO_5.out GG34.out (by decide)) (fun _ hk => hk.2) (.int .i64 t230)) (fun _ hk => hk.2) (.int .i64 t231)) (fun _ hk => hk.2) (.string t232)) (fun _ hk => hk.2) (.int .i64 t233)) (fun _ hk => hk.2) (.int .i64 t234)) (fun _ hk => hk.2) (.string t235)) (fun _ hk => hk.2) (.int .i64 t236)) (fun _ hk => hk.2) (.int .i64 t237)) (fun _ hk => hk.1)⟩, ⟨by (with_reducible repeat (first | apply Kd.V_alloc | apply Kd.V_drewN | apply Kd.V_drew)); exact Kd.V_mono (Kd.V_far (p := ⟨go34, (x41_3 : Int).toNat * 8 + 7, none⟩) (Kd.V_far (p := ⟨go34, (x41_3 : Int).toNat * 8 + 6, none⟩) (Kd.V_far (p := ⟨go34, (x41_3 : Int).toNat * 8 + 5, none⟩) (Kd.V_far (p := ⟨go34, (x41_3 : Int).toNat * 8 + 4, none⟩) (Kd.V_far (p := ⟨go34, (x41_3 : Int).toNat * 8 + 3, none⟩) (Kd.V_far (p := ⟨go34, (x41_3 : Int).toNat * 8 + 2, none⟩) (Kd.V_far (p := ⟨go34, (x41_3 : Int).toNat * 8 + 1, none⟩) (Kd.V_far (p := ⟨go34, (x41_3 : Int).toNat * 8, none⟩) (Kd.V_mono HO_211000.out (fun k_ hk => (⟨hk, fun e_ => hk.1.2.2.1 (by rw [e_]; rfl)⟩ : _ ∧ k_ ≠ go34))) (fun _ hk => hk.2) (.int .i64 t230)) (fun _ hk => hk.2) (.int .i64 t231)) (fun _ hk => hk.2) (.string t232)) (fun _ hk => hk.2) (.int .i64 t233)) (fun _ hk => hk.2) (.int .i64 t234)) (fun _ hk => hk.2) (.string t235)) (fun _ hk => hk.2) (.int .i64 t236)) (fun _ hk => hk.2) (.int .i64 t237)) (fun _ hk => ⟨hk.1.1.1, ⟨hk.1.1.2.1, ⟨hk.1.1.2.2.1, ⟨hk.1.1.2.2.2.1, hk.1.1.2.2.2.2.1⟩⟩⟩⟩)⟩, ⟨kr_ HQ46.out⟩, ⟨by refine bp_ ?_; refine blk_far ?_ (by have h_ := Kd.R_ne HO_211002.out BK210.out (by decide); intro e_; exact h_ (by rw [e_]; rfl)) _; refine bp_ ?_; refine blk_far ?_ (by have h_ := Kd.R_ne HO_211002.out BK210.out (by decide); intro e_; exact h_ (by rw [e_]; rfl)) _; refine bp_ ?_; refine blk_far ?_ (by have h_ := Kd.R_ne HO_211002.out BK210.out (by decide); intro e_; exact h_ (by rw [e_]; rfl)) _; refine bp_ ?_; refine blk_far ?_ (by have h_ := Kd.R_ne HO_211002.out BK210.out (by decide); intro e_; exact h_ (by rw [e_]; rfl)) _; refine bp_ ?_; refine blk_far ?_ (by have h_ := Kd.R_ne HO_211002.out BK210.out (by decide); intro e_; exact h_ (by rw [e_]; rfl)) _; refine bp_ ?_; refine blk_far ?_ (by have h_ := Kd.R_ne HO_211002.out BK210.out (by decide); intro e_; exact h_ (by rw [e_]; rfl)) _; refine bp_ ?_; refine blk_far ?_ (by have h_ := Kd.R_ne HO_211002.out BK210.out (by decide); intro e_; exact h_ (by rw [e_]; rfl)) _; refine bp_ ?_; refine blk_far ?_ (by have h_ := Kd.R_ne HO_211002.out BK210.out (by decide); intro e_; exact h_ (by rw [e_]; rfl)) _; refine bp_ ?_; exact BK210.out⟩, ⟨by refine bp_ ?_; refine blk_far ?_ (by have h_ := Kd.R_ne HO_211002.out BK211.out (by decide); intro e_; exact h_ (by rw [e_]; rfl)) _; refine bp_ ?_; refine blk_far ?_ (by have h_ := Kd.R_ne HO_211002.out BK211.out (by decide); intro e_; exact h_ (by rw [e_]; rfl)) _; refine bp_ ?_; refine blk_far ?_ (by have h_ := Kd.R_ne HO_211002.out BK211.out (by decide); intro e_; exact h_ (by rw [e_]; rfl)) _; refine bp_ ?_; refine blk_far ?_ (by have h_ := Kd.R_ne HO_211002.out BK211.out (by decide); intro e_; exact h_ (by rw [e_]; rfl)) _; refine bp_ ?_; refine blk_far ?_ (by have h_ := Kd.R_ne HO_211002.out BK211.out (by decide); intro e_; exact h_ (by rw [e_]; rfl)) _; refine bp_ ?_; refine blk_far ?_ (by have h_ := Kd.R_ne HO_211002.out BK211.out (by decide); intro e_; exact h_ (by rw [e_]; rfl)) _; refine bp_ ?_; refine blk_far ?_ (by have h_ := Kd.R_ne HO_211002.out BK211.out (by decide); intro e_; exact h_ (by rw [e_]; rfl)) _; refine bp_ ?_; refine blk_far ?_ (by have h_ := Kd.R_ne HO_211002.out BK211.out (by decide); intro e_; exact h_ (by rw [e_]; rfl)) _; refine bp_ ?_; exact BK211.out⟩, ⟨by repeat (first | (with_reducible first | exact HB.out | apply below_alloc | apply pw_below_drewN | apply below_drew1 | refine below_set ?_ GB34.out | refine below_set ?_ GB34.out | refine below_set ?_ GB34.out | refine below_set ?_ GB34.out | refine below_set ?_ GB34.out | refine below_set ?_ GB34.out | refine below_set ?_ GB34.out | refine below_set ?_ GB34.out | refine below_set ?_ GE210.out | refine below_set ?_ GE211.out | refine below_set ?_ GE225.out) | exact HB.out)⟩⟩
                ·rw [if_neg c32] at H
                 exact absurd H (by simp)
               ·rw [if_neg c31] at H
                exact absurd H (by simp)
              ·rw [if_neg c30] at H
               exact absurd H (by simp)
             ·rw [if_neg c29] at H
              have c29b0 : decide (x41_3 < ((rd_L6 l1 x20_1).length : Int)) = false := decide_eq_false c29
              clear c29
              replace H := Option.bind_eq_some_iff.mp H
              obtain ⟨t239, A470, H⟩ := H
              replace H : (if x5_1.length < 17592186044416 then (sift_Add.l0 k3 (x5_1 ++ [t239]) l1 (l1.length : Int) (wrap64 (x20_1 + 1)) l0_0 a0_1 x211002_3 a0_3 (wrap64 (x211004_1 + 1)) true) else (none)) = some (r1, r2, r3, r4, r5, r6) := H
              have A47 := am_ A470
              clear A470
              by_cases c48 : x5_1.length < 17592186044416
              ·rw [if_pos c48] at H
               have LMc48 := am_ c48
               clear c48
               obtain ⟨y240, hy240⟩ : ∃ y_ : List Int, y_ = (x5_1 ++ [t239]) := ⟨_, rfl⟩
               replace H : (sift_Add.l0 k3 y240 l1 (l1.length : Int) (wrap64 (x20_1 + 1)) l0_0 a0_1 x211002_3 a0_3 (wrap64 (x211004_1 + 1)) true) = some (r1, r2, r3, r4, r5, r6) := by first | (rw [hy240]; with_reducible exact H) | (have H2_ := (Option.bind_some _ _).symm.trans H; rw [hy240]; with_reducible exact H2_) | (have H2_ := (Option.bind_some _ _).symm.trans H; with_reducible exact H2_) | with_reducible exact H | (rw [hy240]; exact H) | exact H
               have Ny240 := am_ hy240
               clear hy240
               have H' := am_ H
               clear H
               have hnb49 := NB210_211.out
               have hnc49 := NB211_210.out
               have hcz50_0 : wr.cell? ⟨gb210, 0, none⟩ = some (.slice A0_0 l0_0.length c0_0) := (blk_cell BK210.out 0).trans rfl
               have hcz50_1 : wr.cell? ⟨gb210, 1, none⟩ = some (.int .i64 a0_1) := (blk_cell BK210.out 1).trans rfl
               have hcz50_2 : wr.cell? ⟨gb210, 2, none⟩ = some (u211002) := (blk_cell BK210.out 2).trans rfl
               have hcz50_3 : wr.cell? ⟨gb210, 3, none⟩ = some (.int .i64 a0_3) := (blk_cell BK210.out 3).trans rfl
               have hcz50_4 : wr.cell? ⟨gb210, 4, none⟩ = some (.int .i64 x211004_1) := (blk_cell BK210.out 4).trans rfl
               have hcz50_5 : wr.cell? ⟨gb210, 5, none⟩ = some (.bool true) := (blk_cell BK210.out 5).trans rfl
               have hfz50_0 := blk_frozen BK210.out 0
               have hfz50_1 := blk_frozen BK210.out 1
               have hfz50_2 := blk_frozen BK210.out 2
               have hfz50_3 := blk_frozen BK210.out 3
               have hfz50_4 := blk_frozen BK210.out 4
               have hfz50_5 := blk_frozen BK210.out 5
               go_wp2_with (first | ((with_reducible refine gate_callee (f := 15) rfl ?_); refine goesL_ (some 63) rfl rfl Tryd.func15 (by kernel_rfl) rfl #[.int .i64 a0_3, .slice A219_0 (rd_L6 l1 x20_1).length c219_0] rfl (by (try simp only [List.map_toArray, List.map_cons, List.map_nil]); first | done | rfl | (simp only [List.length_drop, List.length_take]; rfl)) ?_; (with_reducible refine (hash_Row.calls k3 a0_3 _ _ (rd_L6 l1 x20_1) t239 _ ?side1 ?side2 A47.out (by first | with_reducible exact HT | exact ⟨TabOK.below HT.out (bl_)⟩)).mono ?_); (case side1 => repeat (first | exact (Kd.C_below HR219_0.out HB.out) | (with_reducible refine Kd.C_alloc ?_ _) | (with_reducible refine Kd.C_drewN ?_ _) | (with_reducible refine Kd.C_drew ?_))); (case side2 => exact HC219_0.out); rintro e w51 ⟨rfl, hb⟩; refine ⟨_, rfl, ?_⟩; replace HO_5 := am_ (Kd.R_below (kr_ HO_5.out) hb); replace HO_211000 := am_ (Kd.V_below (kv_ HO_211000.out) hb); replace HO_211002 := am_ (Kd.R_below (kr_ HO_211002.out) hb); replace BK210 := am_ (blk_below (g := gb210) (o := .cells #[.slice A0_0 l0_0.length c0_0, .int .i64 a0_1, u211002, .int .i64 a0_3, .int .i64 x211004_1, .bool true] 50 (0, 0)) (bk_ BK210.out) hb); replace BK211 := am_ (blk_below (g := gb211) (o := .cells #[.slice none 0 0, .int .i64 0, .slice none 0 0, .int .i64 0, .int .i64 0, .bool false] 50 (0, 0)) (bk_ BK211.out) hb); replace HB := am_ (below_step (bl_) hb); (try clear hb); (try clear hb2); (try clear hk); (try clear hi)) | ((with_reducible refine gate_builtin (b := .append) (xs := #[.tmp 59, .tmp 64]) rfl ?_); at_builtin; refine Kd.R_append (Kd.int .u64) (w0 := w) w.heap.size rfl (.tmp 59) (.tmp 64) 45 28 (.int .u64 0) 8 rfl Tryd.underlying45 info28 rfl (by decide) (by omega) u5 x5_1 t239 [.int .u64 t239] (fun k_ => (w.heap.size ≤ k_)) (fun _ => False) rfl rfl ?aP (fun _ hk => hk.elim) ?aF ?aO ?aB ?aS ?aL ?_; (case aP => exact rfl); (case aB => exact (bl_)); (case aF => exact (fun k_ hk => (Nat.le_trans (below_size (bl_)) hk))); (case aO => exact (kr_ HO_5.out)); (case aS => exact (below_size (bl_))); (case aL => have := LMc48.out; omega); intro v241 w52 ho hb hg hat; rw [← Ny240.out] at ho; replace HO_211000 := am_ (Kd.V_afterv (ok := (fun k_ => ((P0_0_ k_ ∨ P0_2_ k_) ∨ w.heap.size ≤ k_) ∧ some k_ ≠ (u211002 : Value).ownBlock ∧ k_ ≠ gb210 ∧ k_ ≠ gb211)) (by (with_reducible repeat (first | apply Kd.V_alloc | apply Kd.V_drewN | apply Kd.V_drew)); exact Kd.V_mono HO_211000.out (fun _ hk => ⟨⟨hk.1, ⟨hk.2.2.1, ⟨hk.2.2.2.1, hk.2.2.2.2⟩⟩⟩, hk.2.1⟩)) hg hat); replace HO_211002 := am_ (Kd.R_over' (kr_ HO_211002.out) (Kd.R_typed (kr_ HO_5.out)) (by decide) hg); replace BK210 := am_ (blk_grown (g := gb210) (o := .cells #[.slice A0_0 l0_0.length c0_0, .int .i64 a0_1, u211002, .int .i64 a0_3, .int .i64 x211004_1, .bool true] 50 (0, 0)) (bk_ BK210.out) hg (Kd.R_ne HO_5.out BK210.out (by decide))); replace BK211 := am_ (blk_grown (g := gb211) (o := .cells #[.slice none 0 0, .int .i64 0, .slice none 0 0, .int .i64 0, .int .i64 0, .bool false] 50 (0, 0)) (bk_ BK211.out) hg (Kd.R_ne HO_5.out BK211.out (by decide))); have HO242 := am_ (ho); replace HB := am_ (hb); clear HO_5; clear ho hb hg hat; have hcz53_0 : w52.cell? ⟨gb210, 0, none⟩ = some (.slice A0_0 l0_0.length c0_0) := (blk_cell BK210.out 0).trans rfl; have hcz53_1 : w52.cell? ⟨gb210, 1, none⟩ = some (.int .i64 a0_1) := (blk_cell BK210.out 1).trans rfl; have hcz53_2 : w52.cell? ⟨gb210, 2, none⟩ = some (u211002) := (blk_cell BK210.out 2).trans rfl; have hcz53_3 : w52.cell? ⟨gb210, 3, none⟩ = some (.int .i64 a0_3) := (blk_cell BK210.out 3).trans rfl; have hcz53_4 : w52.cell? ⟨gb210, 4, none⟩ = some (.int .i64 x211004_1) := (blk_cell BK210.out 4).trans rfl; have hcz53_5 : w52.cell? ⟨gb210, 5, none⟩ = some (.bool true) := (blk_cell BK210.out 5).trans rfl; have hfz53_0 := blk_frozen BK210.out 0; have hfz53_1 := blk_frozen BK210.out 1; have hfz53_2 := blk_frozen BK210.out 2; have hfz53_3 := blk_frozen BK210.out 3; have hfz53_4 := blk_frozen BK210.out 4; have hfz53_5 := blk_frozen BK210.out 5))
               go_roundg k3
               case measure => have := HK1.out; have := HK2.out; have := HK3.out; omega
               case rel => exact ⟨(y240), (wrap64 (x20_1 + 1)), (x211002_3), (wrap64 (x211004_1 + 1)), (u211002), (rs_), H', ⟨by have := HK1.out; have := HK2.out; have := HK3.out; omega⟩, ⟨by (with_reducible repeat (first | apply Kd.R_alloc | apply Kd.R_drewN | apply Kd.R_drew)); exact Kd.R_mono (Kd.R_far (p := ⟨gb210, 4, none⟩) (Kd.R_types HO242.out BK210.out (by decide)) (fun _ hk => hk.2) (.int .i64 (wrap64 (x211004_1 + 1)))) (fun _ hk => hk.1)⟩, ⟨by (with_reducible repeat (first | apply Kd.V_alloc | apply Kd.V_drewN | apply Kd.V_drew)); exact Kd.V_mono (Kd.V_far (p := ⟨gb210, 4, none⟩) (Kd.V_mono HO_211000.out (fun k_ hk => (⟨hk, hk.1.2.2.1⟩ : _ ∧ k_ ≠ gb210))) (fun _ hk => hk.2) (.int .i64 (wrap64 (x211004_1 + 1)))) (fun _ hk => ⟨hk.1.1.1, ⟨hk.1.2, ⟨hk.1.1.2.1, ⟨hk.1.1.2.2.1, hk.1.1.2.2.2⟩⟩⟩⟩)⟩, ⟨by (with_reducible repeat (first | apply Kd.R_alloc | apply Kd.R_drewN | apply Kd.R_drew)); exact Kd.R_mono (Kd.R_far (p := ⟨gb210, 4, none⟩) (Kd.R_types HO_211002.out BK210.out (by decide)) (fun _ hk => hk.2) (.int .i64 (wrap64 (x211004_1 + 1)))) (fun _ hk => hk.1)⟩, ⟨by refine bp_ ?_; refine blk_put (cs := #[.slice A0_0 l0_0.length c0_0, .int .i64 a0_1, u211002, .int .i64 a0_3, .int .i64 x211004_1, .bool true]) ?_ 4 _ rfl; refine bp_ ?_; exact BK210.out⟩, ⟨by refine bp_ ?_; refine blk_far ?_ NB211_210.out _; refine bp_ ?_; exact BK211.out⟩, ⟨bl_⟩⟩
              ·rw [if_neg c48] at H
               exact absurd H (by simp)
       ·replace c16 := Bool.eq_false_iff.mpr c16
        subst c16
        have H1 : (sift_Add.l0 k1 x5_1 l1 (l1.length : Int) (wrap64 (x20_1 + 1)) l0_0 a0_1 x211002_1 a0_3 x211004_1 true) = some (r1, r2, r3, r4, r5, r6) := by rw [if_neg (show ¬ (false = true) by decide)] at H; exact H
        clear H
        have H := H1
        clear H1
        have H' := am_ H
        clear H
        have p219 : 0 ≤ (x20_1 : Int) := of_decide_eq_true (as_)
        have q219 : x20_1 < (l1.length : Int) := of_decide_eq_true (as_)
        obtain ⟨ad219, A219_0, c219_0, e219, hx219_0, hl219_0, hi219_0⟩ := at_L6 HR1.out x20_1 p219 q219
        cases e219
        replace hx219_0 := (HB.out.cell (World.block_lt_of_cell? w _ hx219_0)).trans hx219_0
        have HR219_0 := am_ hi219_0
        have HC219_0 := am_ hl219_0
        clear hi219_0 hl219_0
        replace p219 := eq_true p219
        replace q219 := eq_true q219
        go_wp2_with (first | ((with_reducible refine gate_callee (f := 49) rfl ?_); refine goesL_ (some 25) rfl rfl Tryd.func49 (by kernel_rfl) rfl #[.slice A219_0 (rd_L6 l1 x20_1).length c219_0] rfl (by (try simp only [List.map_toArray, List.map_cons, List.map_nil]); first | done | rfl | (simp only [List.length_drop, List.length_take]; rfl)) ?_; (with_reducible refine (sift_Whole.calls k1 _ _ (rd_L6 l1 x20_1) false _ ?side1 ?side2 A15.out).mono ?_); (case side1 => repeat (first | exact (Kd.C_below HR219_0.out HB.out) | (with_reducible refine Kd.C_alloc ?_ _) | (with_reducible refine Kd.C_drewN ?_ _) | (with_reducible refine Kd.C_drew ?_))); (case side2 => exact HC219_0.out); rintro e w54 ⟨rfl, hb⟩; refine ⟨_, rfl, ?_⟩; replace HO_5 := am_ (Kd.R_below (kr_ HO_5.out) hb); replace HO_211000 := am_ (Kd.V_below (kv_ HO_211000.out) hb); replace HO_211002 := am_ (Kd.R_below (kr_ HO_211002.out) hb); replace BK210 := am_ (blk_below (g := gb210) (o := .cells #[.slice A0_0 l0_0.length c0_0, .int .i64 a0_1, u211002, .int .i64 a0_3, .int .i64 x211004_1, .bool true] 50 (0, 0)) (bk_ BK210.out) hb); replace BK211 := am_ (blk_below (g := gb211) (o := .cells #[.slice none 0 0, .int .i64 0, .slice none 0 0, .int .i64 0, .int .i64 0, .bool false] 50 (0, 0)) (bk_ BK211.out) hb); replace HB := am_ (below_step (bl_) hb); (try clear hb); (try clear hb2); (try clear hk); (try clear hi)))
        go_roundg k1
        case measure => have := HK1.out; omega
        case rel => exact ⟨(x5_1), (wrap64 (x20_1 + 1)), (x211002_1), (x211004_1), (u211002), (rs_), H', ⟨by have := HK1.out; omega⟩, ⟨kr_ HO_5.out⟩, ⟨kv_ HO_211000.out⟩, ⟨kr_ HO_211002.out⟩, ⟨bk_ BK210.out⟩, ⟨bk_ BK211.out⟩, ⟨bl_⟩⟩
      ·rw [if_neg c14] at H
       exact absurd H (by simp)
     ·rw [if_neg c13] at H
      exact absurd H (by simp)
    ·rw [if_neg c12] at H
     have c12b0 : decide (x20_1 < (l1.length : Int)) = false := decide_eq_false c12
     clear c12
     replace H := Option.bind_eq_some_iff.mp H
     obtain ⟨⟨t215, t218⟩, A550, H⟩ := H
     replace H : (some (t215, t218, x211002_1, a0_3, x211004_1, true)) = some (r1, r2, r3, r4, r5, r6) := H
     have A55 := am_ A550
     clear A550
     simp only [Option.some.injEq, Prod.mk.injEq] at H
     obtain ⟨rfl, rfl, rfl, rfl, rfl, rfl⟩ := H
     have hnb56 := NB210_211.out
     have hnc56 := NB211_210.out
     have hcz57_0 : wr.cell? ⟨gb210, 0, none⟩ = some (.slice A0_0 l0_0.length c0_0) := (blk_cell BK210.out 0).trans rfl
     have hcz57_1 : wr.cell? ⟨gb210, 1, none⟩ = some (.int .i64 a0_1) := (blk_cell BK210.out 1).trans rfl
     have hcz57_2 : wr.cell? ⟨gb210, 2, none⟩ = some (u211002) := (blk_cell BK210.out 2).trans rfl
     have hcz57_3 : wr.cell? ⟨gb210, 3, none⟩ = some (.int .i64 a0_3) := (blk_cell BK210.out 3).trans rfl
     have hcz57_4 : wr.cell? ⟨gb210, 4, none⟩ = some (.int .i64 x211004_1) := (blk_cell BK210.out 4).trans rfl
     have hcz57_5 : wr.cell? ⟨gb210, 5, none⟩ = some (.bool true) := (blk_cell BK210.out 5).trans rfl
     have hfz57_0 := blk_frozen BK210.out 0
     have hfz57_1 := blk_frozen BK210.out 1
     have hfz57_2 := blk_frozen BK210.out 2
     have hfz57_3 := blk_frozen BK210.out 3
     have hfz57_4 := blk_frozen BK210.out 4
     have hfz57_5 := blk_frozen BK210.out 5
     obtain ⟨Ao58, co58, eo58⟩ := Kd.R_slice HO_5.out
     subst eo58
     go_wp2_with (first | ((with_reducible refine gate_callee (f := 72) rfl ?_); refine goesL_ (some 74) rfl rfl Tryd.func72 (by kernel_rfl) rfl #[.agg #[.slice A0_0 l0_0.length c0_0, .int .i64 a0_1], .slice Ao58 x5_1.length co58] rfl (by (try simp only [List.map_toArray, List.map_cons, List.map_nil]); first | done | rfl | (simp only [List.length_drop, List.length_take]; rfl)) ?_; (with_reducible refine (bloom_Add.calls k1 (fun k_ => (((P0_0_ k_ ∨ P0_2_ k_) ∨ w.heap.size ≤ k_) ∧ (some k_ ≠ (.slice Ao58 x5_1.length co58 : Value).ownBlock ∧ (some k_ ≠ (u211002 : Value).ownBlock ∧ (k_ ≠ gb210 ∧ k_ ≠ gb211))))) _ _ l0_0 a0_1 _ _ x5_1 t215 t218 _ ?side1 ?side2 ?side3 A55.out).mono ?_); (case side1 => exact HO_211000.out); (case side2 => repeat (first | exact (Kd.R_reads' HO_5.out).2.2 | (with_reducible refine Kd.C_alloc ?_ _) | (with_reducible refine Kd.C_drewN ?_ _) | (with_reducible refine Kd.C_drew ?_))); (case side3 => exact (Kd.R_reads' HO_5.out).2.1); rintro e w59 ⟨v216, rfl, ho0, hb⟩; refine ⟨_, rfl, ?_⟩; have n0_ := am_ (Kd.R_below (kr_ HO_5.out) hb); have n1_ := am_ (Kd.V_below (kv_ HO_211000.out) hb); have n2_ := am_ (Kd.R_below (kr_ HO_211002.out) hb); have n3_ := am_ (Kd.V_lower (Kd.V_mono (ok' := fun k_ => ((P0_0_ k_ ∨ P0_2_ k_) ∨ w.heap.size ≤ k_) ∧ some k_ ≠ (.slice Ao58 x5_1.length co58 : Value).ownBlock ∧ some k_ ≠ (u211002 : Value).ownBlock ∧ k_ ≠ gb210 ∧ k_ ≠ gb211) ho0 (fun k_ hk_ => ⟨Or.elim hk_ (fun hs_ => hs_.1) (fun hn_ => (.inr (Nat.le_trans (below_size (bl_)) hn_))), Or.elim hk_ (fun hs_ => hs_.2.1) (fun hn_ => (Kd.fresh' (Kd.R_lt (kr_ HO_5.out)) k_ hn_)), Or.elim hk_ (fun hs_ => hs_.2.2.1) (fun hn_ => (Kd.fresh' (Kd.R_lt (kr_ HO_211002.out)) k_ hn_)), Or.elim hk_ (fun hs_ => hs_.2.2.2.1) (fun hn_ => (Kd.freshB (g := gb210) (o := .cells #[.slice A0_0 l0_0.length c0_0, .int .i64 a0_1, u211002, .int .i64 a0_3, .int .i64 x211004_1, .bool true] 50 (0, 0)) (bk_ BK210.out) k_ hn_)), Or.elim hk_ (fun hs_ => hs_.2.2.2.2) (fun hn_ => (Kd.freshB (g := gb211) (o := .cells #[.slice none 0 0, .int .i64 0, .slice none 0 0, .int .i64 0, .int .i64 0, .bool false] 50 (0, 0)) (bk_ BK211.out) k_ hn_))⟩)) (below_size (bl_))); have n4_ := am_ (blk_below (g := gb210) (o := .cells #[.slice A0_0 l0_0.length c0_0, .int .i64 a0_1, u211002, .int .i64 a0_3, .int .i64 x211004_1, .bool true] 50 (0, 0)) (bk_ BK210.out) hb); have n5_ := am_ (blk_below (g := gb211) (o := .cells #[.slice none 0 0, .int .i64 0, .slice none 0 0, .int .i64 0, .int .i64 0, .bool false] 50 (0, 0)) (bk_ BK211.out) hb); have n6_ := am_ (below_step (bl_) hb); clear HO_5; clear HO_211000; clear HO_211002; clear BK210; clear BK211; clear HB; have HO_5 := n0_; have HO_211000 := n1_; have HO_211002 := n2_; have HO217 := n3_; have BK210 := n4_; have BK211 := n5_; have HB := n6_; clear n0_ n1_ n2_ n3_ n4_ n5_ n6_; (try clear hb); (try clear hb2); (try clear hk); (try clear hi); (try clear ho0); obtain ⟨Ao60, co60, eo60⟩ := Kd.V_slice HO217.out; subst eo60; have hcz61_0 : w59.cell? ⟨gb210, 0, none⟩ = some (.slice A0_0 l0_0.length c0_0) := (blk_cell BK210.out 0).trans rfl; have hcz61_1 : w59.cell? ⟨gb210, 1, none⟩ = some (.int .i64 a0_1) := (blk_cell BK210.out 1).trans rfl; have hcz61_2 : w59.cell? ⟨gb210, 2, none⟩ = some (u211002) := (blk_cell BK210.out 2).trans rfl; have hcz61_3 : w59.cell? ⟨gb210, 3, none⟩ = some (.int .i64 a0_3) := (blk_cell BK210.out 3).trans rfl; have hcz61_4 : w59.cell? ⟨gb210, 4, none⟩ = some (.int .i64 x211004_1) := (blk_cell BK210.out 4).trans rfl; have hcz61_5 : w59.cell? ⟨gb210, 5, none⟩ = some (.bool true) := (blk_cell BK210.out 5).trans rfl; have hfz61_0 := blk_frozen BK210.out 0; have hfz61_1 := blk_frozen BK210.out 1; have hfz61_2 := blk_frozen BK210.out 2; have hfz61_3 := blk_frozen BK210.out 3; have hfz61_4 := blk_frozen BK210.out 4; have hfz61_5 := blk_frozen BK210.out 5; have hcz62_0 : w59.cell? ⟨gb211, 0, none⟩ = some (.slice none 0 0) := (blk_cell BK211.out 0).trans rfl; have hcz62_1 : w59.cell? ⟨gb211, 1, none⟩ = some (.int .i64 0) := (blk_cell BK211.out 1).trans rfl; have hcz62_2 : w59.cell? ⟨gb211, 2, none⟩ = some (.slice none 0 0) := (blk_cell BK211.out 2).trans rfl; have hcz62_3 : w59.cell? ⟨gb211, 3, none⟩ = some (.int .i64 0) := (blk_cell BK211.out 3).trans rfl; have hcz62_4 : w59.cell? ⟨gb211, 4, none⟩ = some (.int .i64 0) := (blk_cell BK211.out 4).trans rfl; have hcz62_5 : w59.cell? ⟨gb211, 5, none⟩ = some (.bool false) := (blk_cell BK211.out 5).trans rfl; have hfz62_0 := blk_frozen BK211.out 0; have hfz62_1 := blk_frozen BK211.out 1; have hfz62_2 := blk_frozen BK211.out 2; have hfz62_3 := blk_frozen BK211.out 3; have hfz62_4 := blk_frozen BK211.out 4; have hfz62_5 := blk_frozen BK211.out 5; obtain ⟨Ao63, co63, eo63⟩ := Kd.R_slice HO_211002.out; subst eo63))
     refine bodyPost_ret (results_cell_row rfl _ _ gb211 50 #[.slice Ao60 t215.length co60, .int .i64 t218, .slice Ao63 x211002_1.length co63, .int .i64 a0_3, .int .i64 x211004_1, .bool true] (0, 0) _ rfl (by refine bp_ ?_; refine blk_put (cs := #[.slice Ao60 t215.length co60, .int .i64 t218, .slice Ao63 x211002_1.length co63, .int .i64 a0_3, .int .i64 x211004_1, .bool false]) ?_ 5 _ rfl; refine bp_ ?_; refine blk_put (cs := #[.slice Ao60 t215.length co60, .int .i64 t218, .slice Ao63 x211002_1.length co63, .int .i64 a0_3, .int .i64 0, .bool false]) ?_ 4 _ rfl; refine bp_ ?_; refine blk_put (cs := #[.slice Ao60 t215.length co60, .int .i64 t218, .slice Ao63 x211002_1.length co63, .int .i64 0, .int .i64 0, .bool false]) ?_ 3 _ rfl; refine bp_ ?_; refine blk_put (cs := #[.slice Ao60 t215.length co60, .int .i64 t218, .slice none 0 0, .int .i64 0, .int .i64 0, .bool false]) ?_ 2 _ rfl; refine bp_ ?_; refine blk_put (cs := #[.slice Ao60 t215.length co60, .int .i64 0, .slice none 0 0, .int .i64 0, .int .i64 0, .bool false]) ?_ 1 _ rfl; refine bp_ ?_; refine blk_put (cs := #[.slice none 0 0, .int .i64 0, .slice none 0 0, .int .i64 0, .int .i64 0, .bool false]) ?_ 0 _ rfl; refine bp_ ?_; refine blk_far ?_ NB211_210.out _; refine bp_ ?_; refine blk_far ?_ NB211_210.out _; refine bp_ ?_; exact BK211.out) Tryd.underlying50 rfl (by kernel_rfl)) rfl ?_
     exact ⟨_, _, ew_, by (with_reducible repeat (first | apply Kd.V_alloc | apply Kd.V_drewN | apply Kd.V_drew)); exact Kd.V_mono (Kd.V_far (p := ⟨gb211, 5, none⟩) (Kd.V_far (p := ⟨gb211, 4, none⟩) (Kd.V_far (p := ⟨gb211, 3, none⟩) (Kd.V_far (p := ⟨gb211, 2, none⟩) (Kd.V_far (p := ⟨gb211, 1, none⟩) (Kd.V_far (p := ⟨gb211, 0, none⟩) (Kd.V_far (p := ⟨gb210, 1, none⟩) (Kd.V_far (p := ⟨gb210, 0, none⟩) (Kd.V_mono (Kd.V_mono HO217.out (fun k_ hk => (⟨hk, hk.2.2.2.1⟩ : _ ∧ k_ ≠ gb210))) (fun k_ hk => (⟨hk, hk.1.2.2.2.2⟩ : _ ∧ k_ ≠ gb211))) (fun _ hk => hk.1.2) (.slice Ao60 t215.length co60)) (fun _ hk => hk.1.2) (.int .i64 t218)) (fun _ hk => hk.2) (.slice Ao60 t215.length co60)) (fun _ hk => hk.2) (.int .i64 t218)) (fun _ hk => hk.2) (.slice Ao63 x211002_1.length co63)) (fun _ hk => hk.2) (.int .i64 a0_3)) (fun _ hk => hk.2) (.int .i64 x211004_1)) (fun _ hk => hk.2) (.bool true)) (fun _ hk => hk.1.1.1), Kd.V_mono (Kd.R_V (by (with_reducible repeat (first | apply Kd.R_alloc | apply Kd.R_drewN | apply Kd.R_drew)); exact Kd.R_mono (Kd.R_far (p := ⟨gb211, 5, none⟩) (Kd.R_far (p := ⟨gb211, 4, none⟩) (Kd.R_far (p := ⟨gb211, 3, none⟩) (Kd.R_far (p := ⟨gb211, 2, none⟩) (Kd.R_far (p := ⟨gb211, 1, none⟩) (Kd.R_far (p := ⟨gb211, 0, none⟩) (Kd.R_far (p := ⟨gb210, 1, none⟩) (Kd.R_far (p := ⟨gb210, 0, none⟩) (Kd.R_types (Kd.R_types HO_211002.out BK210.out (by decide)) BK211.out (by decide)) (fun _ hk => hk.1.2) (.slice Ao60 t215.length co60)) (fun _ hk => hk.1.2) (.int .i64 t218)) (fun _ hk => hk.2) (.slice Ao60 t215.length co60)) (fun _ hk => hk.2) (.int .i64 t218)) (fun _ hk => hk.2) (.slice Ao63 x211002_1.length co63)) (fun _ hk => hk.2) (.int .i64 a0_3)) (fun _ hk => hk.2) (.int .i64 x211004_1)) (fun _ hk => hk.2) (.bool true)) (fun _ hk => hk.1.1))) (fun k_ hk => by first | exact ⟨(.inr (hk.1)), hk.2⟩ | exact (.inr (hk))), bl_⟩
 ·replace c3 := Bool.eq_false_iff.mpr c3
  subst c3
  have H1 : (some (l0_0, a0_1, l0_2, a0_3, a0_4, false)) = some (r1, r2, r3, r4, r5, r6) := by rw [if_neg (show ¬ (false = true) by decide)] at H; exact H
  clear H
  have H := H1
  clear H1
  simp only [Option.some.injEq, Prod.mk.injEq] at H
  obtain ⟨rfl, rfl, rfl, rfl, rfl, rfl⟩ := H
  go_enter Tryd.func29, Tryd.ntmps29
  go_wp2_with (first | ((with_reducible refine gate_dst (N := 2) rfl ?_); refine box_event ?hg (N := 2) ?hd (cs := #[.slice A0_0 l0_0.length c0_0, .int .i64 a0_1, .slice A0_2 l0_2.length c0_2, .int .i64 a0_3, .int .i64 a0_4, .bool false]) (t := 50) ?hr ?_; (case hd => rfl); (case hg => rfl); (case hr => first | (go_simp; done) | (go_simp; rfl)); intro gb210 hg w64 hbox hb; replace HO0_0 := am_ (Kd.V_below (Kd.V_elderB (kv_ HO0_0.out) gb210 (Nat.le_of_eq hg.symm)) hb); replace HO0_2 := am_ (Kd.V_below (Kd.V_elderB (kv_ HO0_2.out) gb210 (Nat.le_of_eq hg.symm)) hb); have BK210 := am_ (hbox); have GW210 := am_ ((by rw [hg]; exact (below_size (bl_)) : w.heap.size ≤ gb210)); have GE210 := am_ ((by rw [hg]; exact (below_size (bl_)) : w.heap.size ≤ gb210)); replace HB := am_ (below_step (bl_) hb); clear hb hbox hg) | ((with_reducible refine gate_dst (N := 4) rfl ?_); refine box_event ?hg (N := 4) ?hd (cs := #[.slice none 0 0, .int .i64 0, .slice none 0 0, .int .i64 0, .int .i64 0, .bool false]) (t := 50) ?hr ?_; (case hd => rfl); (case hg => rfl); (case hr => first | (go_simp; done) | (go_simp; rfl)); intro gb211 hg w65 hbox hb; have n0_ := am_ (Kd.V_below (Kd.V_elderB (kv_ HO0_0.out) gb211 (Nat.le_of_eq hg.symm)) hb); have n1_ := am_ (Kd.V_below (Kd.V_elderB (kv_ HO0_2.out) gb211 (Nat.le_of_eq hg.symm)) hb); have n2_ := am_ (blk_below (g := gb210) (o := .cells #[.slice A0_0 l0_0.length c0_0, .int .i64 a0_1, .slice A0_2 l0_2.length c0_2, .int .i64 a0_3, .int .i64 a0_4, .bool false] 50 (0, 0)) (bk_ BK210.out) hb); have n3_ := am_ (below_step (bl_) hb); have n4_ := am_ (hbox); have n5_ := am_ ((by rw [hg]; exact (below_size (bl_)) : w.heap.size ≤ gb211)); have n6_ := am_ ((by rw [hg]; exact (below_size (bl_)) : w.heap.size ≤ gb211)); have n7_ := am_ ((by rw [hg]; exact Nat.ne_of_lt (blk_lt (g := gb210) (o := .cells #[.slice A0_0 l0_0.length c0_0, .int .i64 a0_1, .slice A0_2 l0_2.length c0_2, .int .i64 a0_3, .int .i64 a0_4, .bool false] 50 (0, 0)) (bk_ BK210.out)) : gb210 ≠ gb211)); have n8_ := am_ ((by rw [hg]; exact Nat.ne_of_gt (blk_lt (g := gb210) (o := .cells #[.slice A0_0 l0_0.length c0_0, .int .i64 a0_1, .slice A0_2 l0_2.length c0_2, .int .i64 a0_3, .int .i64 a0_4, .bool false] 50 (0, 0)) (bk_ BK210.out)) : gb211 ≠ gb210)); clear HO0_0; clear HO0_2; clear BK210; clear HB; have HO0_0 := n0_; have HO0_2 := n1_; have BK210 := n2_; have HB := n3_; have BK211 := n4_; have GW211 := n5_; have GE211 := n6_; have NB210_211 := n7_; have NB211_210 := n8_; clear n0_ n1_ n2_ n3_ n4_ n5_ n6_ n7_ n8_; clear hb hbox hg; have hnb66 := NB210_211.out; have hnc66 := NB211_210.out; have hcz67_0 : w65.cell? ⟨gb210, 0, none⟩ = some (.slice A0_0 l0_0.length c0_0) := (blk_cell BK210.out 0).trans rfl; have hcz67_1 : w65.cell? ⟨gb210, 1, none⟩ = some (.int .i64 a0_1) := (blk_cell BK210.out 1).trans rfl; have hcz67_2 : w65.cell? ⟨gb210, 2, none⟩ = some (.slice A0_2 l0_2.length c0_2) := (blk_cell BK210.out 2).trans rfl; have hcz67_3 : w65.cell? ⟨gb210, 3, none⟩ = some (.int .i64 a0_3) := (blk_cell BK210.out 3).trans rfl; have hcz67_4 : w65.cell? ⟨gb210, 4, none⟩ = some (.int .i64 a0_4) := (blk_cell BK210.out 4).trans rfl; have hcz67_5 : w65.cell? ⟨gb210, 5, none⟩ = some (.bool false) := (blk_cell BK210.out 5).trans rfl; have hfz67_0 := blk_frozen BK210.out 0; have hfz67_1 := blk_frozen BK210.out 1; have hfz67_2 := blk_frozen BK210.out 2; have hfz67_3 := blk_frozen BK210.out 3; have hfz67_4 := blk_frozen BK210.out 4; have hfz67_5 := blk_frozen BK210.out 5; have hcz68_0 : w65.cell? ⟨gb211, 0, none⟩ = some (.slice none 0 0) := (blk_cell BK211.out 0).trans rfl; have hcz68_1 : w65.cell? ⟨gb211, 1, none⟩ = some (.int .i64 0) := (blk_cell BK211.out 1).trans rfl; have hcz68_2 : w65.cell? ⟨gb211, 2, none⟩ = some (.slice none 0 0) := (blk_cell BK211.out 2).trans rfl; have hcz68_3 : w65.cell? ⟨gb211, 3, none⟩ = some (.int .i64 0) := (blk_cell BK211.out 3).trans rfl; have hcz68_4 : w65.cell? ⟨gb211, 4, none⟩ = some (.int .i64 0) := (blk_cell BK211.out 4).trans rfl; have hcz68_5 : w65.cell? ⟨gb211, 5, none⟩ = some (.bool false) := (blk_cell BK211.out 5).trans rfl; have hfz68_0 := blk_frozen BK211.out 0; have hfz68_1 := blk_frozen BK211.out 1; have hfz68_2 := blk_frozen BK211.out 2; have hfz68_3 := blk_frozen BK211.out 3; have hfz68_4 := blk_frozen BK211.out 4; have hfz68_5 := blk_frozen BK211.out 5))
  refine bodyPost_ret (results_cell_row rfl _ _ gb211 50 #[.slice A0_0 l0_0.length c0_0, .int .i64 a0_1, .slice A0_2 l0_2.length c0_2, .int .i64 a0_3, .int .i64 a0_4, .bool false] (0, 0) _ rfl (by refine bp_ ?_; refine blk_put (cs := #[.slice A0_0 l0_0.length c0_0, .int .i64 a0_1, .slice A0_2 l0_2.length c0_2, .int .i64 a0_3, .int .i64 a0_4, .bool false]) ?_ 5 _ rfl; refine bp_ ?_; refine blk_put (cs := #[.slice A0_0 l0_0.length c0_0, .int .i64 a0_1, .slice A0_2 l0_2.length c0_2, .int .i64 a0_3, .int .i64 0, .bool false]) ?_ 4 _ rfl; refine bp_ ?_; refine blk_put (cs := #[.slice A0_0 l0_0.length c0_0, .int .i64 a0_1, .slice A0_2 l0_2.length c0_2, .int .i64 0, .int .i64 0, .bool false]) ?_ 3 _ rfl; refine bp_ ?_; refine blk_put (cs := #[.slice A0_0 l0_0.length c0_0, .int .i64 a0_1, .slice none 0 0, .int .i64 0, .int .i64 0, .bool false]) ?_ 2 _ rfl; refine bp_ ?_; refine blk_put (cs := #[.slice A0_0 l0_0.length c0_0, .int .i64 0, .slice none 0 0, .int .i64 0, .int .i64 0, .bool false]) ?_ 1 _ rfl; refine bp_ ?_; refine blk_put (cs := #[.slice none 0 0, .int .i64 0, .slice none 0 0, .int .i64 0, .int .i64 0, .bool false]) ?_ 0 _ rfl; refine bp_ ?_; exact BK211.out) Tryd.underlying50 rfl (by kernel_rfl)) rfl ?_
  exact ⟨_, _, ew_, by (with_reducible repeat (first | apply Kd.V_alloc | apply Kd.V_drewN | apply Kd.V_drew)); exact Kd.V_mono (Kd.V_far (p := ⟨gb211, 5, none⟩) (Kd.V_far (p := ⟨gb211, 4, none⟩) (Kd.V_far (p := ⟨gb211, 3, none⟩) (Kd.V_far (p := ⟨gb211, 2, none⟩) (Kd.V_far (p := ⟨gb211, 1, none⟩) (Kd.V_far (p := ⟨gb211, 0, none⟩) (Kd.V_mono HO0_0.out (fun k_ hk => (⟨hk, hk.2⟩ : _ ∧ k_ ≠ gb211))) (fun _ hk => hk.2) (.slice A0_0 l0_0.length c0_0)) (fun _ hk => hk.2) (.int .i64 a0_1)) (fun _ hk => hk.2) (.slice A0_2 l0_2.length c0_2)) (fun _ hk => hk.2) (.int .i64 a0_3)) (fun _ hk => hk.2) (.int .i64 a0_4)) (fun _ hk => hk.2) (.bool false)) (fun _ hk => hk.1.1.1), by (with_reducible repeat (first | apply Kd.V_alloc | apply Kd.V_drewN | apply Kd.V_drew)); exact Kd.V_mono (Kd.V_far (p := ⟨gb211, 5, none⟩) (Kd.V_far (p := ⟨gb211, 4, none⟩) (Kd.V_far (p := ⟨gb211, 3, none⟩) (Kd.V_far (p := ⟨gb211, 2, none⟩) (Kd.V_far (p := ⟨gb211, 1, none⟩) (Kd.V_far (p := ⟨gb211, 0, none⟩) (Kd.V_mono HO0_2.out (fun k_ hk => (⟨hk, hk.2⟩ : _ ∧ k_ ≠ gb211))) (fun _ hk => hk.2) (.slice A0_0 l0_0.length c0_0)) (fun _ hk => hk.2) (.int .i64 a0_1)) (fun _ hk => hk.2) (.slice A0_2 l0_2.length c0_2)) (fun _ hk => hk.2) (.int .i64 a0_3)) (fun _ hk => hk.2) (.int .i64 a0_4)) (fun _ hk => hk.2) (.bool false)) (fun _ hk => hk.1.1.1), bl_⟩

end Go.Proofs.YtcfgjaggccnoaaaDoor.PSiftPasses
