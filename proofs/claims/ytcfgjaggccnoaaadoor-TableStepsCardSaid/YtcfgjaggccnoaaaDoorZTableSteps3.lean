-- Written by wip/pack.py, a program of mine: the texts that this law stands on, as far as it uses them; Lean checks it.
import Derived.Test.YtcfgjaggccnoaaaDoorProg
import Derived.Shelf.LaysM
import Derived.Shelf.Strconv.Itoa3
import Derived.Below
import Derived.Deep.Draws
import Derived.Deep.AppendLies
import Derived.Maps.AppendAt
import Derived.OwnWalk
import Derived.Laws.BytesArg
import Derived.Laws.MakeOwn
import Derived.Laws.OwnMore
import Derived.Deep.OwnRows
import Derived.Tactics
import Derived.Lib.ConvBytes
import Derived.Laws.Slices
import Derived.WalkKit
import Derived.KernelRfl
import Derived.RowKit3
import Derived.Deep.LoopGhost
import Derived.Deep.QuietTactic
import Derived.BigQuiet
import Derived.WideLaws
import Derived.Deep.DeepCutAuto
import Derived.Deep.CutBlock
import Derived.Deep.RegionHeld3
import Derived.Laws.Rows
import Derived.Lib.AppendStr
import Derived.ArgAppend
import Derived.Laws.IdiomCopy
import Derived.RowKit
import Derived.OrdersHeld
import Derived.Laws.BitsLemmas
import Derived.Laws.StructEq
import Derived.Lib.BitFns
import Derived.Lib.ItoaMem
import Derived.Lib.LaidTab
import Derived.Lib.Slices
import Derived.Lib.Small
import Derived.Lib.SmallJoins
import Derived.Lib.Strings
import Derived.Lib.Walk
import Derived.Laws.Cover1
import Derived.Lib.SliceRun
import Derived.StillTailTactics
import Derived.LoopTactic
import Derived.RangeFuncNested
import Derived.RangeFuncBound
import Derived.RangeFuncCalls
import Derived.RangeFuncLeaves
import Derived.OwnWalkIn
import Derived.TacticsInMore
import Derived.LoopNIn
import Derived.LoopIn
import Derived.OrdersIn
import Derived.Test.YtcfgjaggccnoaaaDoorZTableSteps2
namespace Go.Proofs.YtcfgjaggccnoaaaDoor.PTableSteps
open Go.RowKit Go.Proofs.YtcfgjaggccnoaaaDoorW.PrintWords Go.Proofs.YtcfgjaggccnoaaaDoorW.PrintLast Go.Proofs.YtcfgjaggccnoaaaDoorW.PrintMore
attribute [local go_sem] max2_int min2_int max_two min_two max_three min_three max_four min_four
set_option linter.unusedVariables false
set_option maxHeartbeats 8000000
set_option linter.unusedSimpArgs false
set_option maxRecDepth 100000
def r34_Go.B4 : List Nat := [0, 0, 0, 4, 14, 31, 63, 127]
theorem r34_Go.tab4 : rtab .any (opsOf Tryd.f31 4) = r34_Go.T4 := by kernel_rfl
theorem r34_Go.bits4 : waitsOk r34_Go.T4.2 r34_Go.B4 = true := by kernel_rfl
def r34_Go.T10 : Bool × List (List Nat × List Nat) := (true, [([], []), ([], []), ([1], [1]), ([0, 2], [0, 2]), ([], []), ([4], [4]), ([5], [5]), ([3, 6, 3], [3, 6]), ([0, 1, 2, 3, 4, 5, 6, 7], []), ([8, 7, 7, 0, 1, 2, 3, 4, 5, 6, 7], [7, 8])])
def r34_Go.B10 : List Nat := [0, 0, 2, 7, 0, 16, 48, 127, 255, 511]
theorem r34_Go.tab10 : rtab .any (opsOf Tryd.f31 10) = r34_Go.T10 := by kernel_rfl
theorem r34_Go.bits10 : waitsOk r34_Go.T10.2 r34_Go.B10 = true := by kernel_rfl
def r34_Go.T11 : Bool × List (List Nat × List Nat) := (true, [([], []), ([], []), ([1], [1]), ([0, 2], [0, 2]), ([], []), ([4], [4]), ([5], [5]), ([3, 6, 3], [3, 6]), ([0, 1, 2, 3, 4, 5, 6, 7], []), ([8, 7, 7, 0, 1, 2, 3, 4, 5, 6, 7], [7, 8])])
def r34_Go.B11 : List Nat := [0, 0, 2, 7, 0, 16, 48, 127, 255, 511]
theorem r34_Go.tab11 : rtab .any (opsOf Tryd.f31 11) = r34_Go.T11 := by kernel_rfl
theorem r34_Go.bits11 : waitsOk r34_Go.T11.2 r34_Go.B11 = true := by kernel_rfl
theorem r34_Go.calls (k : Nat) (P0_0_ : Nat → Prop) (A0_0 : Option Addr) (c0_0 : Nat) (l0_0 : List (List (S23))) (P0_1_ : Nat → Prop) (A0_1 : Option Addr) (c0_1 : Nat) (l0_1 : List (List (S23))) (a0_2 : Bool) (a1_0 : Int) (P1_1_ : Nat → Prop) (A1_1 : Option Addr) (c1_1 : Nat) (l1_1 : List (S23)) (P1_2_ : Nat → Prop) (A1_2 : Option Addr) (c1_2 : Nat) (l1_2 : List (S23)) (r1 : List (List (S23))) (r2 : List (List (S23))) (r3 : Bool) (r4 : List (List (S23))) (r5 : Int) (w : World) (hs0_0 : Kd.V (Kd.slice 23 k23) 24 w w.heap.size (fun k_ => P0_0_ k_) (.slice A0_0 l0_0.length c0_0) l0_0) (hs0_1 : Kd.V (Kd.slice 23 k23) 24 w w.heap.size (fun k_ => P0_1_ k_) (.slice A0_1 l0_1.length c0_1) l0_1) (hs1_1 : Kd.V k23 23 w w.heap.size (fun k_ => P1_1_ k_) (.slice A1_1 l1_1.length c1_1) l1_1) (hs1_2 : Kd.V k23 23 w w.heap.size (fun k_ => P1_2_ k_) (.slice A1_2 l1_2.length c1_2) l1_2) (h : r34_Go.f k l0_0 l0_1 a0_2 a1_0 l1_1 l1_2 = some (r1, r2, r3, r4, r5)) :
  Calls Tryd.prog 31 #[.agg #[.slice A0_0 l0_0.length c0_0, .slice A0_1 l0_1.length c0_1, .bool a0_2], .agg #[.int .i64 a1_0, .slice A1_1 l1_1.length c1_1, .slice A1_2 l1_2.length c1_2]] w fun e w' => ∃ v0_ v1_ v3_ : Value, e = .returned (.tuple #[.agg #[v0_, v1_, .bool r3], v3_, .int .i64 r5]) ∧ Kd.V (Kd.slice 23 k23) 24 w' w.heap.size (fun k_ => ((P0_0_ k_ ∨ P0_1_ k_ ∨ P1_1_ k_ ∨ P1_2_ k_) ∨ w.heap.size ≤ k_) ∧ some k_ ≠ (v3_ : Value).ownBlock) v0_ r1 ∧ Kd.V (Kd.slice 23 k23) 24 w' w.heap.size (fun k_ => ((P0_0_ k_ ∨ P0_1_ k_ ∨ P1_1_ k_ ∨ P1_2_ k_) ∨ w.heap.size ≤ k_) ∧ some k_ ≠ (v3_ : Value).ownBlock) v1_ r2 ∧ Kd.N (Kd.slice 23 k23) 24 w' w.heap.size (fun k_ => ((P0_0_ k_ ∨ P0_1_ k_ ∨ P1_1_ k_ ∨ P1_2_ k_) ∨ w.heap.size ≤ k_)) v3_ r4 ∧ Below w.heap.size w w' := by
 have hu58 := Tryd.underlying58; have hu39 := Tryd.underlying39; have HO0_0 := am_ (show Kd.V (Kd.slice 23 k23) 24 w w.heap.size (fun k_ => ((P0_0_ k_ ∨ P0_1_ k_ ∨ P1_1_ k_ ∨ P1_2_ k_) ∨ w.heap.size ≤ k_)) (.slice A0_0 l0_0.length c0_0) l0_0 from Kd.V_mono hs0_0 (fun k_ hk => .inl (.inl hk))); have HO0_1 := am_ (show Kd.V (Kd.slice 23 k23) 24 w w.heap.size (fun k_ => ((P0_0_ k_ ∨ P0_1_ k_ ∨ P1_1_ k_ ∨ P1_2_ k_) ∨ w.heap.size ≤ k_)) (.slice A0_1 l0_1.length c0_1) l0_1 from Kd.V_mono hs0_1 (fun k_ hk => .inl (.inr (.inl hk)))); have HO1_1 := am_ (show Kd.V k23 23 w w.heap.size (fun k_ => ((P0_0_ k_ ∨ P0_1_ k_ ∨ P1_1_ k_ ∨ P1_2_ k_) ∨ w.heap.size ≤ k_)) (.slice A1_1 l1_1.length c1_1) l1_1 from Kd.V_mono hs1_1 (fun k_ hk => .inl (.inr (.inr (.inl hk))))); have HO1_2 := am_ (show Kd.V k23 23 w w.heap.size (fun k_ => ((P0_0_ k_ ∨ P0_1_ k_ ∨ P1_1_ k_ ∨ P1_2_ k_) ∨ w.heap.size ≤ k_)) (.slice A1_2 l1_2.length c1_2) l1_2 from Kd.V_mono hs1_2 (fun k_ hk => .inl (.inr (.inr (.inr hk))))); have HB := am_ (Below.refl w.heap.size w); have H : (if a1_0 = 2 then (if a0_2 = true then ((r34_Find.f k l0_0 l0_1 a0_2 l1_1).bind fun t202 => (some (l0_0, l0_1, a0_2, t202, 0))) else (some (l0_0, l0_1, a0_2, ([] : List (List (S23))), 10))) else (if a0_2 = true then (some (l0_0, l0_1, a0_2, ([] : List (List (S23))), 10)) else (if a1_0 = 1 then (some (l0_0, l0_1, true, ([] : List (List (S23))), 0)) else ((some (([] : List (List (S23))) : List (List (S23)))).bind fun y205 => (if y205.length + l0_0.length < 5864062014805 then ((some (y205 ++ l0_0 : List (List (S23)))).bind fun y208 => ((some (([l1_1] : List (List (S23))) : List (List (S23)))).bind fun y211 => (if y208.length + y211.length < 5864062014805 then ((some (([] : List (List (S23))) : List (List (S23)))).bind fun y217 => (if y217.length + l0_1.length < 5864062014805 then ((some (y217 ++ l0_1 : List (List (S23)))).bind fun y220 => ((some (([l1_2] : List (List (S23))) : List (List (S23)))).bind fun y223 => (if y220.length + y223.length < 5864062014805 then (some ((y208 ++ y211), (y220 ++ y223), a0_2, ([] : List (List (S23))), 0)) else (none)))) else (none))) else (none)))) else (none)))))) = some (r1, r2, r3, r4, r5) := h; clear h
 by_cases c3 : a1_0 = 2
 ·rw [if_pos c3] at H
  have c3b0 : (a1_0 == 2) = true := beq_iff_eq.mpr c3; have c3b1 : (a1_0 != 2) = false := bne_eq_false_iff_eq.mpr c3; clear c3
  by_cases c4 : a0_2 = true
  ·subst c4
   have H1 : ((r34_Find.f k l0_0 l0_1 true l1_1).bind fun t202 => (some (l0_0, l0_1, true, t202, 0))) = some (r1, r2, r3, r4, r5) := by rw [if_pos rfl] at H; exact H
   clear H; have H := H1; clear H1; replace H := Option.bind_eq_some_iff.mp H; obtain ⟨t202, A50, H⟩ := H; replace H : (some (l0_0, l0_1, true, t202, 0)) = some (r1, r2, r3, r4, r5) := H; have A5 := am_ A50; clear A50; simp only [Option.some.injEq, Prod.mk.injEq] at H; obtain ⟨rfl, rfl, rfl, rfl, rfl⟩ := H
   go_enter Tryd.func31, Tryd.ntmps31
   try go_wp2_with (first | ((with_reducible refine gate_dst (N := 2) rfl ?_); refine box_event ?hg (N := 2) ?hd (cs := #[.slice A0_0 l0_0.length c0_0, .slice A0_1 l0_1.length c0_1, .bool true]) (t := 58) ?hr ?_; (case hd => rfl); (case hg => rfl); (case hr => first | (go_simp; done) | (go_simp; rfl)); intro gb199 hg w6 hbox hb; replace HO0_0 := am_ (Kd.V_below (Kd.V_elderB (kv_ HO0_0.out) gb199 (Nat.le_of_eq hg.symm)) hb); replace HO0_1 := am_ (Kd.V_below (Kd.V_elderB (kv_ HO0_1.out) gb199 (Nat.le_of_eq hg.symm)) hb); replace HO1_1 := am_ (Kd.V_below (Kd.V_elderB (kv_ HO1_1.out) gb199 (Nat.le_of_eq hg.symm)) hb); replace HO1_2 := am_ (Kd.V_below (Kd.V_elderB (kv_ HO1_2.out) gb199 (Nat.le_of_eq hg.symm)) hb); have BK199 := am_ (hbox); have GW199 := am_ ((by rw [hg]; exact (below_size (bl_)) : w.heap.size ≤ gb199)); have GE199 := am_ ((by rw [hg]; exact (below_size (bl_)) : w.heap.size ≤ gb199)); replace HB := am_ (below_step (bl_) hb); clear hb hbox hg) | ((with_reducible refine gate_dst (N := 3) rfl ?_); refine box_event ?hg (N := 3) ?hd (cs := #[.int .i64 a1_0, .slice A1_1 l1_1.length c1_1, .slice A1_2 l1_2.length c1_2]) (t := 39) ?hr ?_; (case hd => rfl); (case hg => rfl); (case hr => first | (go_simp; done) | (go_simp; rfl)); intro gb200 hg w7 hbox hb; have n0_ := am_ (Kd.V_below (Kd.V_elderB (kv_ HO0_0.out) gb200 (Nat.le_of_eq hg.symm)) hb); have n1_ := am_ (Kd.V_below (Kd.V_elderB (kv_ HO0_1.out) gb200 (Nat.le_of_eq hg.symm)) hb); have n2_ := am_ (Kd.V_below (Kd.V_elderB (kv_ HO1_1.out) gb200 (Nat.le_of_eq hg.symm)) hb); have n3_ := am_ (Kd.V_below (Kd.V_elderB (kv_ HO1_2.out) gb200 (Nat.le_of_eq hg.symm)) hb); have n4_ := am_ (blk_below (bk_ BK199.out) hb); have n5_ := am_ (below_step (bl_) hb); have n6_ := am_ (hbox); have n7_ := am_ ((by rw [hg]; exact (below_size (bl_)) : w.heap.size ≤ gb200)); have n8_ := am_ ((by rw [hg]; exact (below_size (bl_)) : w.heap.size ≤ gb200)); have n9_ := am_ ((by rw [hg]; exact Nat.ne_of_lt (blk_lt (g := gb199) (o := .cells #[.slice A0_0 l0_0.length c0_0, .slice A0_1 l0_1.length c0_1, .bool true] 58 (0, 0)) (bk_ BK199.out)) : gb199 ≠ gb200)); have n10_ := am_ ((by rw [hg]; exact Nat.ne_of_gt (blk_lt (g := gb199) (o := .cells #[.slice A0_0 l0_0.length c0_0, .slice A0_1 l0_1.length c0_1, .bool true] 58 (0, 0)) (bk_ BK199.out)) : gb200 ≠ gb199)); clear HO0_0; clear HO0_1; clear HO1_1; clear HO1_2; clear BK199; clear HB; have HO0_0 := n0_; have HO0_1 := n1_; have HO1_1 := n2_; have HO1_2 := n3_; have BK199 := n4_; have HB := n5_; have BK200 := n6_; have GW200 := n7_; have GE200 := n8_; have NB199_200 := n9_; have NB200_199 := n10_; clear n0_ n1_ n2_ n3_ n4_ n5_ n6_ n7_ n8_ n9_ n10_; clear hb hbox hg) | ((with_reducible refine gate_dst (N := 4) rfl ?_); refine box_event ?hg (N := 4) ?hd (cs := #[.slice none 0 0, .slice none 0 0, .bool false]) (t := 58) ?hr ?_; (case hd => rfl); (case hg => rfl); (case hr => first | (go_simp; done) | (go_simp; rfl)); intro gb201 hg w8 hbox hb; have n0_ := am_ (Kd.V_below (Kd.V_elderB (kv_ HO0_0.out) gb201 (Nat.le_of_eq hg.symm)) hb); have n1_ := am_ (Kd.V_below (Kd.V_elderB (kv_ HO0_1.out) gb201 (Nat.le_of_eq hg.symm)) hb); have n2_ := am_ (Kd.V_below (Kd.V_elderB (kv_ HO1_1.out) gb201 (Nat.le_of_eq hg.symm)) hb); have n3_ := am_ (Kd.V_below (Kd.V_elderB (kv_ HO1_2.out) gb201 (Nat.le_of_eq hg.symm)) hb); have n4_ := am_ (blk_below (bk_ BK199.out) hb); have n5_ := am_ (blk_below (bk_ BK200.out) hb); have n6_ := am_ (below_step (bl_) hb); have n7_ := am_ (hbox); have n8_ := am_ ((by rw [hg]; exact (below_size (bl_)) : w.heap.size ≤ gb201)); have n9_ := am_ ((by rw [hg]; exact (below_size (bl_)) : w.heap.size ≤ gb201)); have n10_ := am_ ((by rw [hg]; exact Nat.ne_of_lt (blk_lt (g := gb199) (o := .cells #[.slice A0_0 l0_0.length c0_0, .slice A0_1 l0_1.length c0_1, .bool true] 58 (0, 0)) (bk_ BK199.out)) : gb199 ≠ gb201)); have n11_ := am_ ((by rw [hg]; exact Nat.ne_of_gt (blk_lt (g := gb199) (o := .cells #[.slice A0_0 l0_0.length c0_0, .slice A0_1 l0_1.length c0_1, .bool true] 58 (0, 0)) (bk_ BK199.out)) : gb201 ≠ gb199)); have n12_ := am_ ((by rw [hg]; exact Nat.ne_of_lt (blk_lt (g := gb200) (o := .cells #[.int .i64 a1_0, .slice A1_1 l1_1.length c1_1, .slice A1_2 l1_2.length c1_2] 39 (0, 0)) (bk_ BK200.out)) : gb200 ≠ gb201)); have n13_ := am_ ((by rw [hg]; exact Nat.ne_of_gt (blk_lt (g := gb200) (o := .cells #[.int .i64 a1_0, .slice A1_1 l1_1.length c1_1, .slice A1_2 l1_2.length c1_2] 39 (0, 0)) (bk_ BK200.out)) : gb201 ≠ gb200)); clear HO0_0; clear HO0_1; clear HO1_1; clear HO1_2; clear BK199; clear BK200; clear HB; have HO0_0 := n0_; have HO0_1 := n1_; have HO1_1 := n2_; have HO1_2 := n3_; have BK199 := n4_; have BK200 := n5_; have HB := n6_; have BK201 := n7_; have GW201 := n8_; have GE201 := n9_; have NB199_201 := n10_; have NB201_199 := n11_; have NB200_201 := n12_; have NB201_200 := n13_; clear n0_ n1_ n2_ n3_ n4_ n5_ n6_ n7_ n8_ n9_ n10_ n11_ n12_ n13_; clear hb hbox hg; have hnb9 := NB200_199.out; have hnc9 := NB199_200.out; have hnb10 := NB200_201.out; have hnc10 := NB201_200.out; obtain ⟨hcz11_0, hcz11_1, hcz11_2, hfz11_0, hfz11_1, hfz11_2⟩ := bw3_ BK200.out; have hnb12 := NB199_201.out; have hnc12 := NB201_199.out; obtain ⟨hcz13_0, hcz13_1, hcz13_2, hfz13_0, hfz13_1, hfz13_2⟩ := bw3_ BK199.out))
   have n0_ := am_ (Kd.V_drew HO0_0.out); have n1_ := am_ (Kd.V_drew HO0_1.out); have n2_ := am_ (Kd.V_drew HO1_1.out); have n3_ := am_ (Kd.V_drew HO1_2.out); have n4_ := am_ (blk_drew BK199.out); have n5_ := am_ (blk_drew BK200.out); have n6_ := am_ (blk_drew BK201.out); have n7_ := am_ (below_drew1 HB.out); clear HO0_0; clear HO0_1; clear HO1_1; clear HO1_2; clear BK199; clear BK200; clear BK201; clear HB; have HO0_0 := n0_; have HO0_1 := n1_; have HO1_1 := n2_; have HO1_2 := n3_; have BK199 := n4_; have BK200 := n5_; have BK201 := n6_; have HB := n7_; clear n0_ n1_ n2_ n3_ n4_ n5_ n6_ n7_
   refine start_ (n := 8) (S := fun w' => w'.cell? ⟨gb199, 0, none⟩ = some (.slice A0_0 l0_0.length c0_0) ∧ w'.cell? ⟨gb199, 1, none⟩ = some (.slice A0_1 l0_1.length c0_1) ∧ w'.cell? ⟨gb199, 2, none⟩ = some (.bool true) ∧ w'.cell? ⟨gb200, 0, none⟩ = some (.int .i64 a1_0) ∧ w'.cell? ⟨gb200, 1, none⟩ = some (.slice A1_1 l1_1.length c1_1) ∧ w'.cell? ⟨gb200, 2, none⟩ = some (.slice A1_2 l1_2.length c1_2)) (ds := []) #[false, false, false, false, false, false, false, false] (by kernel_rfl) rfl rfl ⟨bc_ BK199.out 0, bc_ BK199.out 1, bc_ BK199.out 2, bc_ BK200.out 0, bc_ BK200.out 1, bc_ BK200.out 2⟩ (fun hHeld => ?_); refine with_tabW r34_Go.tab4 r34_Go.bits4 (fun HT_ HW_ => ?_)
   generalize w8.drew = w14 at HO0_0 HO0_1 HO1_1 HO1_2 BK199 BK200 BK201 HB hHeld ⊢
   refine pure_ (i := 2) (N := some 16) (v := ?_) (a' := ?_) #[false, false, true, false, false, false, false, false] rfl rfl (any_of HT_.out (by kernel_rfl)) (fun _ _ _ h => h) (Or.inl ⟨by rfl, ?_⟩) ?_ ?_; rotate_left
   ·intro w'
    go_simp; (with_reducible rfl)
   rotate_left
   ·simp only [Act.put, sa_, sz_, ss_, i64_w, i32_w]
    rfl
   refine take_ (i := 0) (N := some 14) (v := ?_) (a' := ?_) #[true, false, true, false, false, false, false, false] rfl rfl (take_ofW HT_.out HW_.out (by kernel_rfl)) (fun _ _ _ h => h) (Or.inl ⟨by rfl, ?_⟩) hHeld ?_ ?_; rotate_left
   ·rintro w' ⟨s0, s1, s2, s3, s4, s5⟩
    go_simp; (with_reducible rfl)
   rotate_left
   ·simp only [Act.put, sa_, sz_, ss_, i64_w, i32_w]
    rfl
   refine take_ (i := 1) (N := some 15) (v := ?_) (a' := ?_) #[true, true, true, false, false, false, false, false] rfl rfl (take_ofW HT_.out HW_.out (by kernel_rfl)) (fun _ _ _ h => h) (Or.inl ⟨by rfl, ?_⟩) hHeld ?_ ?_; rotate_left
   ·rintro w' ⟨s0, s1, s2, s3, s4, s5⟩
    go_simp; (with_reducible rfl)
   rotate_left
   ·simp only [Act.put, sa_, sz_, ss_, i64_w, i32_w]
    rfl
   refine take_ (i := 3) (N := some 17) (v := ?_) (a' := ?_) #[true, true, true, true, false, false, false, false] rfl rfl (take_ofW HT_.out HW_.out (by kernel_rfl)) (fun _ _ _ h => h) (Or.inl ⟨by rfl, ?_⟩) hHeld ?_ ?_; rotate_left
   ·rintro w' ⟨s0, s1, s2, s3, s4, s5⟩
    go_simp; (with_reducible rfl)
   rotate_left
   ·simp only [Act.put, sa_, sz_, ss_, i64_w, i32_w]
    rfl
   refine one_ (i := 4) (N := some 18) #[true, true, true, true, true, false, false, false] rfl rfl (one_of HT_.out (by kernel_rfl)) (by decide) (fun K hK => ?_); refine goes_ Tryd.func73 (by kernel_rfl) rfl #[.agg #[.slice A0_0 l0_0.length c0_0, .slice A0_1 l0_1.length c0_1, .bool true], .slice A1_1 l1_1.length c1_1] (by rfl) rfl rfl (by (try simp only [List.map_toArray, List.map_cons, List.map_nil]); first | done | rfl | (simp only [List.length_drop, List.length_take]; rfl)) ?_; (with_reducible refine (r34_Find.calls k _ _ l0_0 (fun k_ => (((((P0_0_ k_ ∨ P0_1_ k_ ∨ P1_1_ k_ ∨ P1_2_ k_) ∨ w.heap.size ≤ k_) ∧ k_ ≠ gb199) ∧ k_ ≠ gb200) ∧ k_ ≠ gb201)) _ _ l0_1 true _ _ l1_1 t202 _ ?side1 ?side2 ?side3 ?side4 ?side5 A5.out).mono ?_); (case side1 => repeat (first | exact (Kd.V_reads' HO0_0.out).2.2 | (with_reducible refine Kd.C_alloc ?_ _) | (with_reducible refine Kd.C_drewN ?_ _) | (with_reducible refine Kd.C_drew ?_))); (case side2 => exact (Kd.V_reads' HO0_0.out).2.1); (case side3 => exact HO0_1.out); (case side4 => repeat (first | exact (Kd.V_reads' HO1_1.out).2.2 | (with_reducible refine Kd.C_alloc ?_ _) | (with_reducible refine Kd.C_drewN ?_ _) | (with_reducible refine Kd.C_drew ?_))); (case side5 => exact (Kd.V_reads' HO1_1.out).2.1); rintro e w15 ⟨v203, rfl, ho0, hb⟩; refine ⟨_, rfl, ?_⟩; have n0_ := am_ (Kd.V_elder' (kv_ HO0_0.out) (Kd.N_base ho0) hb); have n1_ := am_ (Kd.V_elder' (kv_ HO0_1.out) (Kd.N_base ho0) hb); have n2_ := am_ (Kd.V_elder' (kv_ HO1_1.out) (Kd.N_base ho0) hb); have n3_ := am_ (Kd.V_elder' (kv_ HO1_2.out) (Kd.N_base ho0) hb); have n4_ := am_ (Kd.N_lower (Kd.N_mono (ok' := fun k_ => ((P0_0_ k_ ∨ P0_1_ k_ ∨ P1_1_ k_ ∨ P1_2_ k_) ∨ w.heap.size ≤ k_) ∧ k_ ≠ gb199 ∧ k_ ≠ gb200 ∧ k_ ≠ gb201) ho0 (fun k_ hk_ => ⟨Or.elim hk_ (fun hs_ => hs_.1.1.1) (fun hn_ => (.inr (Nat.le_trans (below_size (bl_)) hn_))), Or.elim hk_ (fun hs_ => hs_.1.1.2) (fun hn_ => (Kd.freshB (g := gb199) (o := .cells #[.slice A0_0 l0_0.length c0_0, .slice A0_1 l0_1.length c0_1, .bool true] 58 (0, 0)) (bk_ BK199.out) k_ hn_)), Or.elim hk_ (fun hs_ => hs_.1.2) (fun hn_ => (Kd.freshB (g := gb200) (o := .cells #[.int .i64 a1_0, .slice A1_1 l1_1.length c1_1, .slice A1_2 l1_2.length c1_2] 39 (0, 0)) (bk_ BK200.out) k_ hn_)), Or.elim hk_ (fun hs_ => hs_.2) (fun hn_ => (Kd.freshB (g := gb201) (o := .cells #[.slice none 0 0, .slice none 0 0, .bool false] 58 (0, 0)) (bk_ BK201.out) k_ hn_))⟩)) (below_size (bl_))); have n5_ := am_ (blk_below (bk_ BK199.out) hb); have n6_ := am_ (blk_below (bk_ BK200.out) hb); have n7_ := am_ (blk_below (bk_ BK201.out) hb); have n8_ := am_ (below_step (bl_) hb); clear HO0_0; clear HO0_1; clear HO1_1; clear HO1_2; clear BK199; clear BK200; clear BK201; clear HB; have HO0_0 := n0_; have HO0_1 := n1_; have HO1_1 := n2_; have HO1_2 := n3_; have HO204 := n4_; have BK199 := n5_; have BK200 := n6_; have BK201 := n7_; have HB := n8_; clear n0_ n1_ n2_ n3_ n4_ n5_ n6_ n7_ n8_; (try clear hb); (try clear hb2); (try clear hk); (try clear hi); (try clear ho0); refine hK.out _ _ ⟨bc_ BK199.out 0, bc_ BK199.out 1, bc_ BK199.out 2, bc_ BK200.out 0, bc_ BK200.out 1, bc_ BK200.out 2⟩ (fun hHeld => ?_); clear hK K; refine norm_ (a' := ?_) ?_ ?_; rotate_left
   ·show Act.put _ (some 18) _ = _
    simp only [Act.put, sa_, sz_, ss_, i64_w, i32_w]; rfl
   refine one_ (i := 5) (N := none) #[true, true, true, true, true, true, false, false] rfl rfl (one_of HT_.out (by kernel_rfl)) (by decide) (fun K hK => ?_); have hs16 : w15.cell? ⟨gb201, 0, none⟩ = some (.slice none 0 0) := bc_ BK201.out 0; have hfs16 := blk_frozen BK201.out 0; have hns16_0 := NB199_201.out; have hns16_1 := NB200_201.out; have hms16_0 := NB201_199.out; have hms16_1 := NB201_200.out; have hs17 : w15.cell? ⟨gb201, 1, none⟩ = some (.slice none 0 0) := bc_ BK201.out 1; have hfs17 := blk_frozen BK201.out 1; have hns17_0 := NB199_201.out; have hns17_1 := NB200_201.out; have hms17_0 := NB201_199.out; have hms17_1 := NB201_200.out; have hs18 : w15.cell? ⟨gb201, 2, none⟩ = some (.bool false) := bc_ BK201.out 2; have hfs18 := blk_frozen BK201.out 2; have hns18_0 := NB199_201.out; have hns18_1 := NB200_201.out; have hms18_0 := NB201_199.out; have hms18_1 := NB201_200.out; refine skip_ (w1 := ?_) (by rfl) rfl ?_ ?_; rotate_left
   ·go_simp
    rfl
   refine hK.out _ _ ⟨((cell_far (p := ⟨gb201, _, none⟩) NB199_201.out _).trans (((cell_far (p := ⟨gb201, _, none⟩) NB199_201.out _).trans (((cell_far (p := ⟨gb201, _, none⟩) NB199_201.out _).trans (hHeld.1)))))), ((cell_far (p := ⟨gb201, _, none⟩) NB199_201.out _).trans (((cell_far (p := ⟨gb201, _, none⟩) NB199_201.out _).trans (((cell_far (p := ⟨gb201, _, none⟩) NB199_201.out _).trans (hHeld.2.1)))))), ((cell_far (p := ⟨gb201, _, none⟩) NB199_201.out _).trans (((cell_far (p := ⟨gb201, _, none⟩) NB199_201.out _).trans (((cell_far (p := ⟨gb201, _, none⟩) NB199_201.out _).trans (hHeld.2.2.1)))))), ((cell_far (p := ⟨gb201, _, none⟩) NB200_201.out _).trans (((cell_far (p := ⟨gb201, _, none⟩) NB200_201.out _).trans (((cell_far (p := ⟨gb201, _, none⟩) NB200_201.out _).trans (hHeld.2.2.2.1)))))), ((cell_far (p := ⟨gb201, _, none⟩) NB200_201.out _).trans (((cell_far (p := ⟨gb201, _, none⟩) NB200_201.out _).trans (((cell_far (p := ⟨gb201, _, none⟩) NB200_201.out _).trans (hHeld.2.2.2.2.1)))))), ((cell_far (p := ⟨gb201, _, none⟩) NB200_201.out _).trans (((cell_far (p := ⟨gb201, _, none⟩) NB200_201.out _).trans (((cell_far (p := ⟨gb201, _, none⟩) NB200_201.out _).trans (hHeld.2.2.2.2.2))))))⟩ (fun hHeld => ?_); clear hK K; refine pure_ (i := 6) (N := some 5) (v := ?_) (a' := ?_) #[true, true, true, true, true, true, true, false] rfl rfl (any_of HT_.out (by kernel_rfl)) (fun _ _ _ h => h) (Or.inl ⟨by rfl, ?_⟩) ?_ ?_; rotate_left
   ·intro w'
    go_simp; (with_reducible rfl)
   rotate_left
   ·simp only [Act.put, sa_, sz_, ss_, i64_w, i32_w]
    rfl
   refine pure_ (i := 7) (N := some 6) (v := ?_) (a' := ?_) #[true, true, true, true, true, true, true, true] rfl rfl (any_of HT_.out (by kernel_rfl)) (fun _ _ _ h => h) (Or.inl ⟨by rfl, ?_⟩) ?_ ?_; rotate_left
   ·intro w'
    go_simp; (with_reducible rfl)
   rotate_left
   ·simp only [Act.put, sa_, sz_, ss_, i64_w, i32_w]
    rfl
   refine done_ (done_of HT_.out (by kernel_rfl)) ?_
   try go_wp2
   refine bodyPost_ret (results_ctt rfl _ _ gb201 58 #[.slice A0_0 l0_0.length c0_0, .slice A0_1 l0_1.length c0_1, .bool true] (0, 0) _ rfl (by refine bp_ ?_; refine blk_put (cs := #[.slice A0_0 l0_0.length c0_0, .slice A0_1 l0_1.length c0_1, .bool false]) ?_ 2 _ rfl; refine bp_ ?_; refine blk_put (cs := #[.slice A0_0 l0_0.length c0_0, .slice none 0 0, .bool false]) ?_ 1 _ rfl; refine bp_ ?_; refine blk_put (cs := #[.slice none 0 0, .slice none 0 0, .bool false]) ?_ 0 _ rfl; refine bp_ ?_; exact BK201.out) Tryd.underlying58 rfl (by kernel_rfl)) rfl ?_; exact ⟨_, _, _, ew_, by (with_reducible repeat (first | apply Kd.V_alloc | apply Kd.V_drewN | apply Kd.V_drew)); exact Kd.V_mono (fv_ gb201 2 (fv_ gb201 1 (fv_ gb201 0 (Kd.V_mono HO0_0.out (fun k_ hk => (⟨hk, hk.1.2⟩ : _ ∧ k_ ≠ gb201))) (fun _ hk => hk.2) (.slice A0_0 l0_0.length c0_0)) (fun _ hk => hk.2) (.slice A0_1 l0_1.length c0_1)) (fun _ hk => hk.2) (.bool true)) (fun _ hk => ⟨hk.1.1.1.1.1, hk.1.2⟩), by (with_reducible repeat (first | apply Kd.V_alloc | apply Kd.V_drewN | apply Kd.V_drew)); exact Kd.V_mono (fv_ gb201 2 (fv_ gb201 1 (fv_ gb201 0 (Kd.V_mono HO0_1.out (fun k_ hk => (⟨hk, hk.1.2⟩ : _ ∧ k_ ≠ gb201))) (fun _ hk => hk.2) (.slice A0_0 l0_0.length c0_0)) (fun _ hk => hk.2) (.slice A0_1 l0_1.length c0_1)) (fun _ hk => hk.2) (.bool true)) (fun _ hk => ⟨hk.1.1.1.1.1, hk.1.2⟩), by (with_reducible repeat (first | apply Kd.N_alloc | apply Kd.N_drewN | apply Kd.N_drew)); exact Kd.N_mono (Kd.N_far (p := ⟨gb201, 2, none⟩) (Kd.N_far (p := ⟨gb201, 1, none⟩) (Kd.N_far (p := ⟨gb201, 0, none⟩) (Kd.N_mono HO204.out (fun k_ hk => (⟨hk, hk.2.2.2⟩ : _ ∧ k_ ≠ gb201))) (fun _ hk => hk.2) (.slice A0_0 l0_0.length c0_0)) (fun _ hk => hk.2) (.slice A0_1 l0_1.length c0_1)) (fun _ hk => hk.2) (.bool true)) (fun _ hk => hk.1.1), bl_⟩
  ·replace c4 := Bool.eq_false_iff.mpr c4
   subst c4
   have H1 : (some (l0_0, l0_1, false, ([] : List (List (S23))), 10)) = some (r1, r2, r3, r4, r5) := by rw [if_neg (show ¬ (false = true) by decide)] at H; exact H
   clear H; have H := H1; clear H1; simp only [Option.some.injEq, Prod.mk.injEq] at H; obtain ⟨rfl, rfl, rfl, rfl, rfl⟩ := H
   go_enter Tryd.func31, Tryd.ntmps31
   go_wp2_with (first | ((with_reducible refine gate_dst (N := 2) rfl ?_); refine box_event ?hg (N := 2) ?hd (cs := #[.slice A0_0 l0_0.length c0_0, .slice A0_1 l0_1.length c0_1, .bool false]) (t := 58) ?hr ?_; (case hd => rfl); (case hg => rfl); (case hr => first | (go_simp; done) | (go_simp; rfl)); intro gb199 hg w19 hbox hb; replace HO0_0 := am_ (Kd.V_below (Kd.V_elderB (kv_ HO0_0.out) gb199 (Nat.le_of_eq hg.symm)) hb); replace HO0_1 := am_ (Kd.V_below (Kd.V_elderB (kv_ HO0_1.out) gb199 (Nat.le_of_eq hg.symm)) hb); replace HO1_1 := am_ (Kd.V_below (Kd.V_elderB (kv_ HO1_1.out) gb199 (Nat.le_of_eq hg.symm)) hb); replace HO1_2 := am_ (Kd.V_below (Kd.V_elderB (kv_ HO1_2.out) gb199 (Nat.le_of_eq hg.symm)) hb); have BK199 := am_ (hbox); have GW199 := am_ ((by rw [hg]; exact (below_size (bl_)) : w.heap.size ≤ gb199)); have GE199 := am_ ((by rw [hg]; exact (below_size (bl_)) : w.heap.size ≤ gb199)); replace HB := am_ (below_step (bl_) hb); clear hb hbox hg) | ((with_reducible refine gate_dst (N := 3) rfl ?_); refine box_event ?hg (N := 3) ?hd (cs := #[.int .i64 a1_0, .slice A1_1 l1_1.length c1_1, .slice A1_2 l1_2.length c1_2]) (t := 39) ?hr ?_; (case hd => rfl); (case hg => rfl); (case hr => first | (go_simp; done) | (go_simp; rfl)); intro gb200 hg w20 hbox hb; have n0_ := am_ (Kd.V_below (Kd.V_elderB (kv_ HO0_0.out) gb200 (Nat.le_of_eq hg.symm)) hb); have n1_ := am_ (Kd.V_below (Kd.V_elderB (kv_ HO0_1.out) gb200 (Nat.le_of_eq hg.symm)) hb); have n2_ := am_ (Kd.V_below (Kd.V_elderB (kv_ HO1_1.out) gb200 (Nat.le_of_eq hg.symm)) hb); have n3_ := am_ (Kd.V_below (Kd.V_elderB (kv_ HO1_2.out) gb200 (Nat.le_of_eq hg.symm)) hb); have n4_ := am_ (blk_below (bk_ BK199.out) hb); have n5_ := am_ (below_step (bl_) hb); have n6_ := am_ (hbox); have n7_ := am_ ((by rw [hg]; exact (below_size (bl_)) : w.heap.size ≤ gb200)); have n8_ := am_ ((by rw [hg]; exact (below_size (bl_)) : w.heap.size ≤ gb200)); have n9_ := am_ ((by rw [hg]; exact Nat.ne_of_lt (blk_lt (g := gb199) (o := .cells #[.slice A0_0 l0_0.length c0_0, .slice A0_1 l0_1.length c0_1, .bool false] 58 (0, 0)) (bk_ BK199.out)) : gb199 ≠ gb200)); have n10_ := am_ ((by rw [hg]; exact Nat.ne_of_gt (blk_lt (g := gb199) (o := .cells #[.slice A0_0 l0_0.length c0_0, .slice A0_1 l0_1.length c0_1, .bool false] 58 (0, 0)) (bk_ BK199.out)) : gb200 ≠ gb199)); clear HO0_0; clear HO0_1; clear HO1_1; clear HO1_2; clear BK199; clear HB; have HO0_0 := n0_; have HO0_1 := n1_; have HO1_1 := n2_; have HO1_2 := n3_; have BK199 := n4_; have HB := n5_; have BK200 := n6_; have GW200 := n7_; have GE200 := n8_; have NB199_200 := n9_; have NB200_199 := n10_; clear n0_ n1_ n2_ n3_ n4_ n5_ n6_ n7_ n8_ n9_ n10_; clear hb hbox hg) | ((with_reducible refine gate_dst (N := 4) rfl ?_); refine box_event ?hg (N := 4) ?hd (cs := #[.slice none 0 0, .slice none 0 0, .bool false]) (t := 58) ?hr ?_; (case hd => rfl); (case hg => rfl); (case hr => first | (go_simp; done) | (go_simp; rfl)); intro gb201 hg w21 hbox hb; have n0_ := am_ (Kd.V_below (Kd.V_elderB (kv_ HO0_0.out) gb201 (Nat.le_of_eq hg.symm)) hb); have n1_ := am_ (Kd.V_below (Kd.V_elderB (kv_ HO0_1.out) gb201 (Nat.le_of_eq hg.symm)) hb); have n2_ := am_ (Kd.V_below (Kd.V_elderB (kv_ HO1_1.out) gb201 (Nat.le_of_eq hg.symm)) hb); have n3_ := am_ (Kd.V_below (Kd.V_elderB (kv_ HO1_2.out) gb201 (Nat.le_of_eq hg.symm)) hb); have n4_ := am_ (blk_below (bk_ BK199.out) hb); have n5_ := am_ (blk_below (bk_ BK200.out) hb); have n6_ := am_ (below_step (bl_) hb); have n7_ := am_ (hbox); have n8_ := am_ ((by rw [hg]; exact (below_size (bl_)) : w.heap.size ≤ gb201)); have n9_ := am_ ((by rw [hg]; exact (below_size (bl_)) : w.heap.size ≤ gb201)); have n10_ := am_ ((by rw [hg]; exact Nat.ne_of_lt (blk_lt (g := gb199) (o := .cells #[.slice A0_0 l0_0.length c0_0, .slice A0_1 l0_1.length c0_1, .bool false] 58 (0, 0)) (bk_ BK199.out)) : gb199 ≠ gb201)); have n11_ := am_ ((by rw [hg]; exact Nat.ne_of_gt (blk_lt (g := gb199) (o := .cells #[.slice A0_0 l0_0.length c0_0, .slice A0_1 l0_1.length c0_1, .bool false] 58 (0, 0)) (bk_ BK199.out)) : gb201 ≠ gb199)); have n12_ := am_ ((by rw [hg]; exact Nat.ne_of_lt (blk_lt (g := gb200) (o := .cells #[.int .i64 a1_0, .slice A1_1 l1_1.length c1_1, .slice A1_2 l1_2.length c1_2] 39 (0, 0)) (bk_ BK200.out)) : gb200 ≠ gb201)); have n13_ := am_ ((by rw [hg]; exact Nat.ne_of_gt (blk_lt (g := gb200) (o := .cells #[.int .i64 a1_0, .slice A1_1 l1_1.length c1_1, .slice A1_2 l1_2.length c1_2] 39 (0, 0)) (bk_ BK200.out)) : gb201 ≠ gb200)); clear HO0_0; clear HO0_1; clear HO1_1; clear HO1_2; clear BK199; clear BK200; clear HB; have HO0_0 := n0_; have HO0_1 := n1_; have HO1_1 := n2_; have HO1_2 := n3_; have BK199 := n4_; have BK200 := n5_; have HB := n6_; have BK201 := n7_; have GW201 := n8_; have GE201 := n9_; have NB199_201 := n10_; have NB201_199 := n11_; have NB200_201 := n12_; have NB201_200 := n13_; clear n0_ n1_ n2_ n3_ n4_ n5_ n6_ n7_ n8_ n9_ n10_ n11_ n12_ n13_; clear hb hbox hg; have hnb22 := NB200_199.out; have hnc22 := NB199_200.out; have hnb23 := NB200_201.out; have hnc23 := NB201_200.out; obtain ⟨hcz24_0, hcz24_1, hcz24_2, hfz24_0, hfz24_1, hfz24_2⟩ := bw3_ BK200.out; have hnb25 := NB199_201.out; have hnc25 := NB201_199.out; obtain ⟨hcz26_0, hcz26_1, hcz26_2, hfz26_0, hfz26_1, hfz26_2⟩ := bw3_ BK199.out; obtain ⟨hcz27_0, hcz27_1, hcz27_2, hfz27_0, hfz27_1, hfz27_2⟩ := bw3_ BK201.out))
   refine bodyPost_ret (results_ctt rfl _ _ gb201 58 #[.slice A0_0 l0_0.length c0_0, .slice A0_1 l0_1.length c0_1, .bool false] (0, 0) _ rfl (by refine bp_ ?_; refine blk_put (cs := #[.slice A0_0 l0_0.length c0_0, .slice A0_1 l0_1.length c0_1, .bool false]) ?_ 2 _ rfl; refine bp_ ?_; refine blk_put (cs := #[.slice A0_0 l0_0.length c0_0, .slice none 0 0, .bool false]) ?_ 1 _ rfl; refine bp_ ?_; refine blk_put (cs := #[.slice none 0 0, .slice none 0 0, .bool false]) ?_ 0 _ rfl; refine bp_ ?_; exact BK201.out) Tryd.underlying58 rfl (by kernel_rfl)) rfl ?_; exact ⟨_, _, _, ew_, by (with_reducible repeat (first | apply Kd.V_alloc | apply Kd.V_drewN | apply Kd.V_drew)); exact Kd.V_mono (fv_ gb201 2 (fv_ gb201 1 (fv_ gb201 0 (Kd.V_mono HO0_0.out (fun k_ hk => (⟨hk, hk.2⟩ : _ ∧ k_ ≠ gb201))) (fun _ hk => hk.2) (.slice A0_0 l0_0.length c0_0)) (fun _ hk => hk.2) (.slice A0_1 l0_1.length c0_1)) (fun _ hk => hk.2) (.bool false)) (fun _ hk => ⟨hk.1.1.1.1, (by simp [Value.ownBlock])⟩), by (with_reducible repeat (first | apply Kd.V_alloc | apply Kd.V_drewN | apply Kd.V_drew)); exact Kd.V_mono (fv_ gb201 2 (fv_ gb201 1 (fv_ gb201 0 (Kd.V_mono HO0_1.out (fun k_ hk => (⟨hk, hk.2⟩ : _ ∧ k_ ≠ gb201))) (fun _ hk => hk.2) (.slice A0_0 l0_0.length c0_0)) (fun _ hk => hk.2) (.slice A0_1 l0_1.length c0_1)) (fun _ hk => hk.2) (.bool false)) (fun _ hk => ⟨hk.1.1.1.1, (by simp [Value.ownBlock])⟩), by first | exact Kd.S_nil _ _ _ _ _ | exact Kd.N_nil _ _ _ _ _ | exact Kd.V_nil _ _ _ _ _ | exact Kd.Q_nil _ _ _ _ _ | exact Kd.R_nil _ _ _ _ _, bl_⟩
 ·rw [if_neg c3] at H
  have c3b0 : (a1_0 == 2) = false := beq_eq_false_iff_ne.mpr c3; have c3b1 : (a1_0 != 2) = true := bne_iff_ne.mpr c3
  by_cases c28 : a0_2 = true
  ·subst c28
   have H1 : (some (l0_0, l0_1, true, ([] : List (List (S23))), 10)) = some (r1, r2, r3, r4, r5) := by rw [if_pos rfl] at H; exact H
   clear H; have H := H1; clear H1; simp only [Option.some.injEq, Prod.mk.injEq] at H; obtain ⟨rfl, rfl, rfl, rfl, rfl⟩ := H
   go_enter Tryd.func31, Tryd.ntmps31
   go_wp2_with (first | ((with_reducible refine gate_dst (N := 2) rfl ?_); refine box_event ?hg (N := 2) ?hd (cs := #[.slice A0_0 l0_0.length c0_0, .slice A0_1 l0_1.length c0_1, .bool true]) (t := 58) ?hr ?_; (case hd => rfl); (case hg => rfl); (case hr => first | (go_simp; done) | (go_simp; rfl)); intro gb199 hg w29 hbox hb; replace HO0_0 := am_ (Kd.V_below (Kd.V_elderB (kv_ HO0_0.out) gb199 (Nat.le_of_eq hg.symm)) hb); replace HO0_1 := am_ (Kd.V_below (Kd.V_elderB (kv_ HO0_1.out) gb199 (Nat.le_of_eq hg.symm)) hb); replace HO1_1 := am_ (Kd.V_below (Kd.V_elderB (kv_ HO1_1.out) gb199 (Nat.le_of_eq hg.symm)) hb); replace HO1_2 := am_ (Kd.V_below (Kd.V_elderB (kv_ HO1_2.out) gb199 (Nat.le_of_eq hg.symm)) hb); have BK199 := am_ (hbox); have GW199 := am_ ((by rw [hg]; exact (below_size (bl_)) : w.heap.size ≤ gb199)); have GE199 := am_ ((by rw [hg]; exact (below_size (bl_)) : w.heap.size ≤ gb199)); replace HB := am_ (below_step (bl_) hb); clear hb hbox hg) | ((with_reducible refine gate_dst (N := 3) rfl ?_); refine box_event ?hg (N := 3) ?hd (cs := #[.int .i64 a1_0, .slice A1_1 l1_1.length c1_1, .slice A1_2 l1_2.length c1_2]) (t := 39) ?hr ?_; (case hd => rfl); (case hg => rfl); (case hr => first | (go_simp; done) | (go_simp; rfl)); intro gb200 hg w30 hbox hb; have n0_ := am_ (Kd.V_below (Kd.V_elderB (kv_ HO0_0.out) gb200 (Nat.le_of_eq hg.symm)) hb); have n1_ := am_ (Kd.V_below (Kd.V_elderB (kv_ HO0_1.out) gb200 (Nat.le_of_eq hg.symm)) hb); have n2_ := am_ (Kd.V_below (Kd.V_elderB (kv_ HO1_1.out) gb200 (Nat.le_of_eq hg.symm)) hb); have n3_ := am_ (Kd.V_below (Kd.V_elderB (kv_ HO1_2.out) gb200 (Nat.le_of_eq hg.symm)) hb); have n4_ := am_ (blk_below (bk_ BK199.out) hb); have n5_ := am_ (below_step (bl_) hb); have n6_ := am_ (hbox); have n7_ := am_ ((by rw [hg]; exact (below_size (bl_)) : w.heap.size ≤ gb200)); have n8_ := am_ ((by rw [hg]; exact (below_size (bl_)) : w.heap.size ≤ gb200)); have n9_ := am_ ((by rw [hg]; exact Nat.ne_of_lt (blk_lt (g := gb199) (o := .cells #[.slice A0_0 l0_0.length c0_0, .slice A0_1 l0_1.length c0_1, .bool true] 58 (0, 0)) (bk_ BK199.out)) : gb199 ≠ gb200)); have n10_ := am_ ((by rw [hg]; exact Nat.ne_of_gt (blk_lt (g := gb199) (o := .cells #[.slice A0_0 l0_0.length c0_0, .slice A0_1 l0_1.length c0_1, .bool true] 58 (0, 0)) (bk_ BK199.out)) : gb200 ≠ gb199)); clear HO0_0; clear HO0_1; clear HO1_1; clear HO1_2; clear BK199; clear HB; have HO0_0 := n0_; have HO0_1 := n1_; have HO1_1 := n2_; have HO1_2 := n3_; have BK199 := n4_; have HB := n5_; have BK200 := n6_; have GW200 := n7_; have GE200 := n8_; have NB199_200 := n9_; have NB200_199 := n10_; clear n0_ n1_ n2_ n3_ n4_ n5_ n6_ n7_ n8_ n9_ n10_; clear hb hbox hg) | ((with_reducible refine gate_dst (N := 4) rfl ?_); refine box_event ?hg (N := 4) ?hd (cs := #[.slice none 0 0, .slice none 0 0, .bool false]) (t := 58) ?hr ?_; (case hd => rfl); (case hg => rfl); (case hr => first | (go_simp; done) | (go_simp; rfl)); intro gb201 hg w31 hbox hb; have n0_ := am_ (Kd.V_below (Kd.V_elderB (kv_ HO0_0.out) gb201 (Nat.le_of_eq hg.symm)) hb); have n1_ := am_ (Kd.V_below (Kd.V_elderB (kv_ HO0_1.out) gb201 (Nat.le_of_eq hg.symm)) hb); have n2_ := am_ (Kd.V_below (Kd.V_elderB (kv_ HO1_1.out) gb201 (Nat.le_of_eq hg.symm)) hb); have n3_ := am_ (Kd.V_below (Kd.V_elderB (kv_ HO1_2.out) gb201 (Nat.le_of_eq hg.symm)) hb); have n4_ := am_ (blk_below (bk_ BK199.out) hb); have n5_ := am_ (blk_below (bk_ BK200.out) hb); have n6_ := am_ (below_step (bl_) hb); have n7_ := am_ (hbox); have n8_ := am_ ((by rw [hg]; exact (below_size (bl_)) : w.heap.size ≤ gb201)); have n9_ := am_ ((by rw [hg]; exact (below_size (bl_)) : w.heap.size ≤ gb201)); have n10_ := am_ ((by rw [hg]; exact Nat.ne_of_lt (blk_lt (g := gb199) (o := .cells #[.slice A0_0 l0_0.length c0_0, .slice A0_1 l0_1.length c0_1, .bool true] 58 (0, 0)) (bk_ BK199.out)) : gb199 ≠ gb201)); have n11_ := am_ ((by rw [hg]; exact Nat.ne_of_gt (blk_lt (g := gb199) (o := .cells #[.slice A0_0 l0_0.length c0_0, .slice A0_1 l0_1.length c0_1, .bool true] 58 (0, 0)) (bk_ BK199.out)) : gb201 ≠ gb199)); have n12_ := am_ ((by rw [hg]; exact Nat.ne_of_lt (blk_lt (g := gb200) (o := .cells #[.int .i64 a1_0, .slice A1_1 l1_1.length c1_1, .slice A1_2 l1_2.length c1_2] 39 (0, 0)) (bk_ BK200.out)) : gb200 ≠ gb201)); have n13_ := am_ ((by rw [hg]; exact Nat.ne_of_gt (blk_lt (g := gb200) (o := .cells #[.int .i64 a1_0, .slice A1_1 l1_1.length c1_1, .slice A1_2 l1_2.length c1_2] 39 (0, 0)) (bk_ BK200.out)) : gb201 ≠ gb200)); clear HO0_0; clear HO0_1; clear HO1_1; clear HO1_2; clear BK199; clear BK200; clear HB; have HO0_0 := n0_; have HO0_1 := n1_; have HO1_1 := n2_; have HO1_2 := n3_; have BK199 := n4_; have BK200 := n5_; have HB := n6_; have BK201 := n7_; have GW201 := n8_; have GE201 := n9_; have NB199_201 := n10_; have NB201_199 := n11_; have NB200_201 := n12_; have NB201_200 := n13_; clear n0_ n1_ n2_ n3_ n4_ n5_ n6_ n7_ n8_ n9_ n10_ n11_ n12_ n13_; clear hb hbox hg; have hnb32 := NB200_199.out; have hnc32 := NB199_200.out; have hnb33 := NB200_201.out; have hnc33 := NB201_200.out; obtain ⟨hcz34_0, hcz34_1, hcz34_2, hfz34_0, hfz34_1, hfz34_2⟩ := bw3_ BK200.out; have hnb35 := NB199_201.out; have hnc35 := NB201_199.out; obtain ⟨hcz36_0, hcz36_1, hcz36_2, hfz36_0, hfz36_1, hfz36_2⟩ := bw3_ BK199.out; obtain ⟨hcz37_0, hcz37_1, hcz37_2, hfz37_0, hfz37_1, hfz37_2⟩ := bw3_ BK201.out))
   refine bodyPost_ret (results_ctt rfl _ _ gb201 58 #[.slice A0_0 l0_0.length c0_0, .slice A0_1 l0_1.length c0_1, .bool true] (0, 0) _ rfl (by refine bp_ ?_; refine blk_put (cs := #[.slice A0_0 l0_0.length c0_0, .slice A0_1 l0_1.length c0_1, .bool false]) ?_ 2 _ rfl; refine bp_ ?_; refine blk_put (cs := #[.slice A0_0 l0_0.length c0_0, .slice none 0 0, .bool false]) ?_ 1 _ rfl; refine bp_ ?_; refine blk_put (cs := #[.slice none 0 0, .slice none 0 0, .bool false]) ?_ 0 _ rfl; refine bp_ ?_; exact BK201.out) Tryd.underlying58 rfl (by kernel_rfl)) rfl ?_; exact ⟨_, _, _, ew_, by (with_reducible repeat (first | apply Kd.V_alloc | apply Kd.V_drewN | apply Kd.V_drew)); exact Kd.V_mono (fv_ gb201 2 (fv_ gb201 1 (fv_ gb201 0 (Kd.V_mono HO0_0.out (fun k_ hk => (⟨hk, hk.2⟩ : _ ∧ k_ ≠ gb201))) (fun _ hk => hk.2) (.slice A0_0 l0_0.length c0_0)) (fun _ hk => hk.2) (.slice A0_1 l0_1.length c0_1)) (fun _ hk => hk.2) (.bool true)) (fun _ hk => ⟨hk.1.1.1.1, (by simp [Value.ownBlock])⟩), by (with_reducible repeat (first | apply Kd.V_alloc | apply Kd.V_drewN | apply Kd.V_drew)); exact Kd.V_mono (fv_ gb201 2 (fv_ gb201 1 (fv_ gb201 0 (Kd.V_mono HO0_1.out (fun k_ hk => (⟨hk, hk.2⟩ : _ ∧ k_ ≠ gb201))) (fun _ hk => hk.2) (.slice A0_0 l0_0.length c0_0)) (fun _ hk => hk.2) (.slice A0_1 l0_1.length c0_1)) (fun _ hk => hk.2) (.bool true)) (fun _ hk => ⟨hk.1.1.1.1, (by simp [Value.ownBlock])⟩), by first | exact Kd.S_nil _ _ _ _ _ | exact Kd.N_nil _ _ _ _ _ | exact Kd.V_nil _ _ _ _ _ | exact Kd.Q_nil _ _ _ _ _ | exact Kd.R_nil _ _ _ _ _, bl_⟩
  ·replace c28 := Bool.eq_false_iff.mpr c28
   subst c28
   have H1 : (if a1_0 = 1 then (some (l0_0, l0_1, true, ([] : List (List (S23))), 0)) else ((some (([] : List (List (S23))) : List (List (S23)))).bind fun y205 => (if y205.length + l0_0.length < 5864062014805 then ((some (y205 ++ l0_0 : List (List (S23)))).bind fun y208 => ((some (([l1_1] : List (List (S23))) : List (List (S23)))).bind fun y211 => (if y208.length + y211.length < 5864062014805 then ((some (([] : List (List (S23))) : List (List (S23)))).bind fun y217 => (if y217.length + l0_1.length < 5864062014805 then ((some (y217 ++ l0_1 : List (List (S23)))).bind fun y220 => ((some (([l1_2] : List (List (S23))) : List (List (S23)))).bind fun y223 => (if y220.length + y223.length < 5864062014805 then (some ((y208 ++ y211), (y220 ++ y223), false, ([] : List (List (S23))), 0)) else (none)))) else (none))) else (none)))) else (none)))) = some (r1, r2, r3, r4, r5) := by rw [if_neg (show ¬ (false = true) by decide)] at H; exact H
   clear H; have H := H1; clear H1
   by_cases c38 : a1_0 = 1
   ·rw [if_pos c38] at H
    have c38b0 : (a1_0 == 1) = true := beq_iff_eq.mpr c38; have c38b1 : (a1_0 != 1) = false := bne_eq_false_iff_eq.mpr c38; clear c38; simp only [Option.some.injEq, Prod.mk.injEq] at H; obtain ⟨rfl, rfl, rfl, rfl, rfl⟩ := H
    go_enter Tryd.func31, Tryd.ntmps31
    go_wp2_with (first | ((with_reducible refine gate_dst (N := 2) rfl ?_); refine box_event ?hg (N := 2) ?hd (cs := #[.slice A0_0 l0_0.length c0_0, .slice A0_1 l0_1.length c0_1, .bool false]) (t := 58) ?hr ?_; (case hd => rfl); (case hg => rfl); (case hr => first | (go_simp; done) | (go_simp; rfl)); intro gb199 hg w39 hbox hb; replace HO0_0 := am_ (Kd.V_below (Kd.V_elderB (kv_ HO0_0.out) gb199 (Nat.le_of_eq hg.symm)) hb); replace HO0_1 := am_ (Kd.V_below (Kd.V_elderB (kv_ HO0_1.out) gb199 (Nat.le_of_eq hg.symm)) hb); replace HO1_1 := am_ (Kd.V_below (Kd.V_elderB (kv_ HO1_1.out) gb199 (Nat.le_of_eq hg.symm)) hb); replace HO1_2 := am_ (Kd.V_below (Kd.V_elderB (kv_ HO1_2.out) gb199 (Nat.le_of_eq hg.symm)) hb); have BK199 := am_ (hbox); have GW199 := am_ ((by rw [hg]; exact (below_size (bl_)) : w.heap.size ≤ gb199)); have GE199 := am_ ((by rw [hg]; exact (below_size (bl_)) : w.heap.size ≤ gb199)); replace HB := am_ (below_step (bl_) hb); clear hb hbox hg) | ((with_reducible refine gate_dst (N := 3) rfl ?_); refine box_event ?hg (N := 3) ?hd (cs := #[.int .i64 a1_0, .slice A1_1 l1_1.length c1_1, .slice A1_2 l1_2.length c1_2]) (t := 39) ?hr ?_; (case hd => rfl); (case hg => rfl); (case hr => first | (go_simp; done) | (go_simp; rfl)); intro gb200 hg w40 hbox hb; have n0_ := am_ (Kd.V_below (Kd.V_elderB (kv_ HO0_0.out) gb200 (Nat.le_of_eq hg.symm)) hb); have n1_ := am_ (Kd.V_below (Kd.V_elderB (kv_ HO0_1.out) gb200 (Nat.le_of_eq hg.symm)) hb); have n2_ := am_ (Kd.V_below (Kd.V_elderB (kv_ HO1_1.out) gb200 (Nat.le_of_eq hg.symm)) hb); have n3_ := am_ (Kd.V_below (Kd.V_elderB (kv_ HO1_2.out) gb200 (Nat.le_of_eq hg.symm)) hb); have n4_ := am_ (blk_below (bk_ BK199.out) hb); have n5_ := am_ (below_step (bl_) hb); have n6_ := am_ (hbox); have n7_ := am_ ((by rw [hg]; exact (below_size (bl_)) : w.heap.size ≤ gb200)); have n8_ := am_ ((by rw [hg]; exact (below_size (bl_)) : w.heap.size ≤ gb200)); have n9_ := am_ ((by rw [hg]; exact Nat.ne_of_lt (blk_lt (g := gb199) (o := .cells #[.slice A0_0 l0_0.length c0_0, .slice A0_1 l0_1.length c0_1, .bool false] 58 (0, 0)) (bk_ BK199.out)) : gb199 ≠ gb200)); have n10_ := am_ ((by rw [hg]; exact Nat.ne_of_gt (blk_lt (g := gb199) (o := .cells #[.slice A0_0 l0_0.length c0_0, .slice A0_1 l0_1.length c0_1, .bool false] 58 (0, 0)) (bk_ BK199.out)) : gb200 ≠ gb199)); clear HO0_0; clear HO0_1; clear HO1_1; clear HO1_2; clear BK199; clear HB; have HO0_0 := n0_; have HO0_1 := n1_; have HO1_1 := n2_; have HO1_2 := n3_; have BK199 := n4_; have HB := n5_; have BK200 := n6_; have GW200 := n7_; have GE200 := n8_; have NB199_200 := n9_; have NB200_199 := n10_; clear n0_ n1_ n2_ n3_ n4_ n5_ n6_ n7_ n8_ n9_ n10_; clear hb hbox hg) | ((with_reducible refine gate_dst (N := 4) rfl ?_); refine box_event ?hg (N := 4) ?hd (cs := #[.slice none 0 0, .slice none 0 0, .bool false]) (t := 58) ?hr ?_; (case hd => rfl); (case hg => rfl); (case hr => first | (go_simp; done) | (go_simp; rfl)); intro gb201 hg w41 hbox hb; have n0_ := am_ (Kd.V_below (Kd.V_elderB (kv_ HO0_0.out) gb201 (Nat.le_of_eq hg.symm)) hb); have n1_ := am_ (Kd.V_below (Kd.V_elderB (kv_ HO0_1.out) gb201 (Nat.le_of_eq hg.symm)) hb); have n2_ := am_ (Kd.V_below (Kd.V_elderB (kv_ HO1_1.out) gb201 (Nat.le_of_eq hg.symm)) hb); have n3_ := am_ (Kd.V_below (Kd.V_elderB (kv_ HO1_2.out) gb201 (Nat.le_of_eq hg.symm)) hb); have n4_ := am_ (blk_below (bk_ BK199.out) hb); have n5_ := am_ (blk_below (bk_ BK200.out) hb); have n6_ := am_ (below_step (bl_) hb); have n7_ := am_ (hbox); have n8_ := am_ ((by rw [hg]; exact (below_size (bl_)) : w.heap.size ≤ gb201)); have n9_ := am_ ((by rw [hg]; exact (below_size (bl_)) : w.heap.size ≤ gb201)); have n10_ := am_ ((by rw [hg]; exact Nat.ne_of_lt (blk_lt (g := gb199) (o := .cells #[.slice A0_0 l0_0.length c0_0, .slice A0_1 l0_1.length c0_1, .bool false] 58 (0, 0)) (bk_ BK199.out)) : gb199 ≠ gb201)); have n11_ := am_ ((by rw [hg]; exact Nat.ne_of_gt (blk_lt (g := gb199) (o := .cells #[.slice A0_0 l0_0.length c0_0, .slice A0_1 l0_1.length c0_1, .bool false] 58 (0, 0)) (bk_ BK199.out)) : gb201 ≠ gb199)); have n12_ := am_ ((by rw [hg]; exact Nat.ne_of_lt (blk_lt (g := gb200) (o := .cells #[.int .i64 a1_0, .slice A1_1 l1_1.length c1_1, .slice A1_2 l1_2.length c1_2] 39 (0, 0)) (bk_ BK200.out)) : gb200 ≠ gb201)); have n13_ := am_ ((by rw [hg]; exact Nat.ne_of_gt (blk_lt (g := gb200) (o := .cells #[.int .i64 a1_0, .slice A1_1 l1_1.length c1_1, .slice A1_2 l1_2.length c1_2] 39 (0, 0)) (bk_ BK200.out)) : gb201 ≠ gb200)); clear HO0_0; clear HO0_1; clear HO1_1; clear HO1_2; clear BK199; clear BK200; clear HB; have HO0_0 := n0_; have HO0_1 := n1_; have HO1_1 := n2_; have HO1_2 := n3_; have BK199 := n4_; have BK200 := n5_; have HB := n6_; have BK201 := n7_; have GW201 := n8_; have GE201 := n9_; have NB199_201 := n10_; have NB201_199 := n11_; have NB200_201 := n12_; have NB201_200 := n13_; clear n0_ n1_ n2_ n3_ n4_ n5_ n6_ n7_ n8_ n9_ n10_ n11_ n12_ n13_; clear hb hbox hg; have hnb42 := NB200_199.out; have hnc42 := NB199_200.out; have hnb43 := NB200_201.out; have hnc43 := NB201_200.out; obtain ⟨hcz44_0, hcz44_1, hcz44_2, hfz44_0, hfz44_1, hfz44_2⟩ := bw3_ BK200.out; have hnb45 := NB199_201.out; have hnc45 := NB201_199.out; obtain ⟨hcz46_0, hcz46_1, hcz46_2, hfz46_0, hfz46_1, hfz46_2⟩ := bw3_ BK199.out; obtain ⟨hcz47_0, hcz47_1, hcz47_2, hfz47_0, hfz47_1, hfz47_2⟩ := bw3_ BK201.out))
    refine bodyPost_ret (results_ctt rfl _ _ gb201 58 #[.slice A0_0 l0_0.length c0_0, .slice A0_1 l0_1.length c0_1, .bool true] (0, 0) _ rfl (by refine bp_ ?_; refine blk_put (cs := #[.slice A0_0 l0_0.length c0_0, .slice A0_1 l0_1.length c0_1, .bool false]) ?_ 2 _ rfl; refine bp_ ?_; refine blk_put (cs := #[.slice A0_0 l0_0.length c0_0, .slice none 0 0, .bool false]) ?_ 1 _ rfl; refine bp_ ?_; refine blk_put (cs := #[.slice none 0 0, .slice none 0 0, .bool false]) ?_ 0 _ rfl; refine bp_ ?_; refine blk_far ?_ NB201_199.out _; refine bp_ ?_; exact BK201.out) Tryd.underlying58 rfl (by kernel_rfl)) rfl ?_; exact ⟨_, _, _, ew_, by (with_reducible repeat (first | apply Kd.V_alloc | apply Kd.V_drewN | apply Kd.V_drew)); exact Kd.V_mono (fv_ gb201 2 (fv_ gb201 1 (fv_ gb201 0 (fv_ gb199 2 (Kd.V_mono (Kd.V_mono HO0_0.out (fun k_ hk => (⟨hk, hk.1.1.2⟩ : _ ∧ k_ ≠ gb199))) (fun k_ hk => (⟨hk, hk.1.2⟩ : _ ∧ k_ ≠ gb201))) (fun _ hk => hk.1.2) (.bool true)) (fun _ hk => hk.2) (.slice A0_0 l0_0.length c0_0)) (fun _ hk => hk.2) (.slice A0_1 l0_1.length c0_1)) (fun _ hk => hk.2) (.bool true)) (fun _ hk => ⟨hk.1.1.1.1.1, (by simp [Value.ownBlock])⟩), by (with_reducible repeat (first | apply Kd.V_alloc | apply Kd.V_drewN | apply Kd.V_drew)); exact Kd.V_mono (fv_ gb201 2 (fv_ gb201 1 (fv_ gb201 0 (fv_ gb199 2 (Kd.V_mono (Kd.V_mono HO0_1.out (fun k_ hk => (⟨hk, hk.1.1.2⟩ : _ ∧ k_ ≠ gb199))) (fun k_ hk => (⟨hk, hk.1.2⟩ : _ ∧ k_ ≠ gb201))) (fun _ hk => hk.1.2) (.bool true)) (fun _ hk => hk.2) (.slice A0_0 l0_0.length c0_0)) (fun _ hk => hk.2) (.slice A0_1 l0_1.length c0_1)) (fun _ hk => hk.2) (.bool true)) (fun _ hk => ⟨hk.1.1.1.1.1, (by simp [Value.ownBlock])⟩), by first | exact Kd.S_nil _ _ _ _ _ | exact Kd.N_nil _ _ _ _ _ | exact Kd.V_nil _ _ _ _ _ | exact Kd.Q_nil _ _ _ _ _ | exact Kd.R_nil _ _ _ _ _, bl_⟩
   ·rw [if_neg c38] at H
    have c38b0 : (a1_0 == 1) = false := beq_eq_false_iff_ne.mpr c38; have c38b1 : (a1_0 != 1) = true := bne_iff_ne.mpr c38
    obtain ⟨y205, hy205⟩ : ∃ y_ : List (List (S23)), y_ = (([] : List (List (S23)))) := ⟨_, rfl⟩
    replace H : (if y205.length + l0_0.length < 5864062014805 then ((some (y205 ++ l0_0 : List (List (S23)))).bind fun y208 => ((some (([l1_1] : List (List (S23))) : List (List (S23)))).bind fun y211 => (if y208.length + y211.length < 5864062014805 then ((some (([] : List (List (S23))) : List (List (S23)))).bind fun y217 => (if y217.length + l0_1.length < 5864062014805 then ((some (y217 ++ l0_1 : List (List (S23)))).bind fun y220 => ((some (([l1_2] : List (List (S23))) : List (List (S23)))).bind fun y223 => (if y220.length + y223.length < 5864062014805 then (some ((y208 ++ y211), (y220 ++ y223), false, ([] : List (List (S23))), 0)) else (none)))) else (none))) else (none)))) else (none)) = some (r1, r2, r3, r4, r5) := by first | (rw [hy205]; with_reducible exact H) | (have H2_ := (Option.bind_some _ _).symm.trans H; rw [hy205]; with_reducible exact H2_) | (have H2_ := (Option.bind_some _ _).symm.trans H; with_reducible exact H2_) | with_reducible exact H | (rw [hy205]; exact H) | exact H
    have Ny205 := am_ hy205; clear hy205
    by_cases c48 : y205.length + l0_0.length < 5864062014805
    ·rw [if_pos c48] at H
     have LMc48 := am_ c48; clear c48
     obtain ⟨y208, hy208⟩ : ∃ y_ : List (List (S23)), y_ = (y205 ++ l0_0) := ⟨_, rfl⟩
     replace H : ((some (([l1_1] : List (List (S23))) : List (List (S23)))).bind fun y211 => (if y208.length + y211.length < 5864062014805 then ((some (([] : List (List (S23))) : List (List (S23)))).bind fun y217 => (if y217.length + l0_1.length < 5864062014805 then ((some (y217 ++ l0_1 : List (List (S23)))).bind fun y220 => ((some (([l1_2] : List (List (S23))) : List (List (S23)))).bind fun y223 => (if y220.length + y223.length < 5864062014805 then (some ((y208 ++ y211), (y220 ++ y223), false, ([] : List (List (S23))), 0)) else (none)))) else (none))) else (none))) = some (r1, r2, r3, r4, r5) := by first | (rw [hy208]; with_reducible exact H) | (have H2_ := (Option.bind_some _ _).symm.trans H; rw [hy208]; with_reducible exact H2_) | (have H2_ := (Option.bind_some _ _).symm.trans H; with_reducible exact H2_) | with_reducible exact H | (rw [hy208]; exact H) | exact H
     have Ny208 := am_ hy208; clear hy208
     obtain ⟨y211, hy211⟩ : ∃ y_ : List (List (S23)), y_ = (([l1_1] : List (List (S23)))) := ⟨_, rfl⟩
     replace H : (if y208.length + y211.length < 5864062014805 then ((some (([] : List (List (S23))) : List (List (S23)))).bind fun y217 => (if y217.length + l0_1.length < 5864062014805 then ((some (y217 ++ l0_1 : List (List (S23)))).bind fun y220 => ((some (([l1_2] : List (List (S23))) : List (List (S23)))).bind fun y223 => (if y220.length + y223.length < 5864062014805 then (some ((y208 ++ y211), (y220 ++ y223), false, ([] : List (List (S23))), 0)) else (none)))) else (none))) else (none)) = some (r1, r2, r3, r4, r5) := by first | (rw [hy211]; with_reducible exact H) | (have H2_ := (Option.bind_some _ _).symm.trans H; rw [hy211]; with_reducible exact H2_) | (have H2_ := (Option.bind_some _ _).symm.trans H; with_reducible exact H2_) | with_reducible exact H | (rw [hy211]; exact H) | exact H
     have Ny211 := am_ hy211; clear hy211
     by_cases c49 : y208.length + y211.length < 5864062014805
     ·rw [if_pos c49] at H
      have LMc49 := am_ c49; clear c49
      obtain ⟨y214, hy214⟩ : ∃ y_ : List (List (S23)), y_ = (y208 ++ y211) := ⟨_, rfl⟩
      replace H : ((some (([] : List (List (S23))) : List (List (S23)))).bind fun y217 => (if y217.length + l0_1.length < 5864062014805 then ((some (y217 ++ l0_1 : List (List (S23)))).bind fun y220 => ((some (([l1_2] : List (List (S23))) : List (List (S23)))).bind fun y223 => (if y220.length + y223.length < 5864062014805 then (some (y214, (y220 ++ y223), false, ([] : List (List (S23))), 0)) else (none)))) else (none))) = some (r1, r2, r3, r4, r5) := by first | (rw [hy214]; with_reducible exact H) | (have H2_ := (Option.bind_some _ _).symm.trans H; rw [hy214]; with_reducible exact H2_) | (have H2_ := (Option.bind_some _ _).symm.trans H; with_reducible exact H2_) | with_reducible exact H | (rw [hy214]; exact H) | exact H
      have Ny214 := am_ hy214; clear hy214
      obtain ⟨y217, hy217⟩ : ∃ y_ : List (List (S23)), y_ = (([] : List (List (S23)))) := ⟨_, rfl⟩
      replace H : (if y217.length + l0_1.length < 5864062014805 then ((some (y217 ++ l0_1 : List (List (S23)))).bind fun y220 => ((some (([l1_2] : List (List (S23))) : List (List (S23)))).bind fun y223 => (if y220.length + y223.length < 5864062014805 then (some (y214, (y220 ++ y223), false, ([] : List (List (S23))), 0)) else (none)))) else (none)) = some (r1, r2, r3, r4, r5) := by first | (rw [hy217]; with_reducible exact H) | (have H2_ := (Option.bind_some _ _).symm.trans H; rw [hy217]; with_reducible exact H2_) | (have H2_ := (Option.bind_some _ _).symm.trans H; with_reducible exact H2_) | with_reducible exact H | (rw [hy217]; exact H) | exact H
      have Ny217 := am_ hy217; clear hy217
      by_cases c50 : y217.length + l0_1.length < 5864062014805
      ·rw [if_pos c50] at H
       have LMc50 := am_ c50; clear c50
       obtain ⟨y220, hy220⟩ : ∃ y_ : List (List (S23)), y_ = (y217 ++ l0_1) := ⟨_, rfl⟩
       replace H : ((some (([l1_2] : List (List (S23))) : List (List (S23)))).bind fun y223 => (if y220.length + y223.length < 5864062014805 then (some (y214, (y220 ++ y223), false, ([] : List (List (S23))), 0)) else (none))) = some (r1, r2, r3, r4, r5) := by first | (rw [hy220]; with_reducible exact H) | (have H2_ := (Option.bind_some _ _).symm.trans H; rw [hy220]; with_reducible exact H2_) | (have H2_ := (Option.bind_some _ _).symm.trans H; with_reducible exact H2_) | with_reducible exact H | (rw [hy220]; exact H) | exact H
       have Ny220 := am_ hy220; clear hy220
       obtain ⟨y223, hy223⟩ : ∃ y_ : List (List (S23)), y_ = (([l1_2] : List (List (S23)))) := ⟨_, rfl⟩
       replace H : (if y220.length + y223.length < 5864062014805 then (some (y214, (y220 ++ y223), false, ([] : List (List (S23))), 0)) else (none)) = some (r1, r2, r3, r4, r5) := by first | (rw [hy223]; with_reducible exact H) | (have H2_ := (Option.bind_some _ _).symm.trans H; rw [hy223]; with_reducible exact H2_) | (have H2_ := (Option.bind_some _ _).symm.trans H; with_reducible exact H2_) | with_reducible exact H | (rw [hy223]; exact H) | exact H
       have Ny223 := am_ hy223; clear hy223
       by_cases c51 : y220.length + y223.length < 5864062014805
       ·rw [if_pos c51] at H
        have LMc51 := am_ c51; clear c51
        obtain ⟨y226, hy226⟩ : ∃ y_ : List (List (S23)), y_ = (y220 ++ y223) := ⟨_, rfl⟩
        replace H : (some (y214, y226, false, ([] : List (List (S23))), 0)) = some (r1, r2, r3, r4, r5) := by first | (rw [hy226]; with_reducible exact H) | (have H2_ := (Option.bind_some _ _).symm.trans H; rw [hy226]; with_reducible exact H2_) | (have H2_ := (Option.bind_some _ _).symm.trans H; with_reducible exact H2_) | with_reducible exact H | (rw [hy226]; exact H) | exact H
        have Ny226 := am_ hy226; clear hy226; simp only [Option.some.injEq, Prod.mk.injEq] at H; obtain ⟨rfl, rfl, rfl, rfl, rfl⟩ := H
        go_enter Tryd.func31, Tryd.ntmps31
        try go_wp2_with (first | ((with_reducible refine gate_dst (N := 2) rfl ?_); refine box_event ?hg (N := 2) ?hd (cs := #[.slice A0_0 l0_0.length c0_0, .slice A0_1 l0_1.length c0_1, .bool false]) (t := 58) ?hr ?_; (case hd => rfl); (case hg => rfl); (case hr => first | (go_simp; done) | (go_simp; rfl)); intro gb199 hg w52 hbox hb; replace HO0_0 := am_ (Kd.V_below (Kd.V_elderB (kv_ HO0_0.out) gb199 (Nat.le_of_eq hg.symm)) hb); replace HO0_1 := am_ (Kd.V_below (Kd.V_elderB (kv_ HO0_1.out) gb199 (Nat.le_of_eq hg.symm)) hb); replace HO1_1 := am_ (Kd.V_below (Kd.V_elderB (kv_ HO1_1.out) gb199 (Nat.le_of_eq hg.symm)) hb); replace HO1_2 := am_ (Kd.V_below (Kd.V_elderB (kv_ HO1_2.out) gb199 (Nat.le_of_eq hg.symm)) hb); have BK199 := am_ (hbox); have GW199 := am_ ((by rw [hg]; exact (below_size (bl_)) : w.heap.size ≤ gb199)); have GE199 := am_ ((by rw [hg]; exact (below_size (bl_)) : w.heap.size ≤ gb199)); replace HB := am_ (below_step (bl_) hb); clear hb hbox hg) | ((with_reducible refine gate_dst (N := 3) rfl ?_); refine box_event ?hg (N := 3) ?hd (cs := #[.int .i64 a1_0, .slice A1_1 l1_1.length c1_1, .slice A1_2 l1_2.length c1_2]) (t := 39) ?hr ?_; (case hd => rfl); (case hg => rfl); (case hr => first | (go_simp; done) | (go_simp; rfl)); intro gb200 hg w53 hbox hb; have n0_ := am_ (Kd.V_below (Kd.V_elderB (kv_ HO0_0.out) gb200 (Nat.le_of_eq hg.symm)) hb); have n1_ := am_ (Kd.V_below (Kd.V_elderB (kv_ HO0_1.out) gb200 (Nat.le_of_eq hg.symm)) hb); have n2_ := am_ (Kd.V_below (Kd.V_elderB (kv_ HO1_1.out) gb200 (Nat.le_of_eq hg.symm)) hb); have n3_ := am_ (Kd.V_below (Kd.V_elderB (kv_ HO1_2.out) gb200 (Nat.le_of_eq hg.symm)) hb); have n4_ := am_ (blk_below (bk_ BK199.out) hb); have n5_ := am_ (below_step (bl_) hb); have n6_ := am_ (hbox); have n7_ := am_ ((by rw [hg]; exact (below_size (bl_)) : w.heap.size ≤ gb200)); have n8_ := am_ ((by rw [hg]; exact (below_size (bl_)) : w.heap.size ≤ gb200)); have n9_ := am_ ((by rw [hg]; exact Nat.ne_of_lt (blk_lt (g := gb199) (o := .cells #[.slice A0_0 l0_0.length c0_0, .slice A0_1 l0_1.length c0_1, .bool false] 58 (0, 0)) (bk_ BK199.out)) : gb199 ≠ gb200)); have n10_ := am_ ((by rw [hg]; exact Nat.ne_of_gt (blk_lt (g := gb199) (o := .cells #[.slice A0_0 l0_0.length c0_0, .slice A0_1 l0_1.length c0_1, .bool false] 58 (0, 0)) (bk_ BK199.out)) : gb200 ≠ gb199)); clear HO0_0; clear HO0_1; clear HO1_1; clear HO1_2; clear BK199; clear HB; have HO0_0 := n0_; have HO0_1 := n1_; have HO1_1 := n2_; have HO1_2 := n3_; have BK199 := n4_; have HB := n5_; have BK200 := n6_; have GW200 := n7_; have GE200 := n8_; have NB199_200 := n9_; have NB200_199 := n10_; clear n0_ n1_ n2_ n3_ n4_ n5_ n6_ n7_ n8_ n9_ n10_; clear hb hbox hg) | ((with_reducible refine gate_dst (N := 4) rfl ?_); refine box_event ?hg (N := 4) ?hd (cs := #[.slice none 0 0, .slice none 0 0, .bool false]) (t := 58) ?hr ?_; (case hd => rfl); (case hg => rfl); (case hr => first | (go_simp; done) | (go_simp; rfl)); intro gb201 hg w54 hbox hb; have n0_ := am_ (Kd.V_below (Kd.V_elderB (kv_ HO0_0.out) gb201 (Nat.le_of_eq hg.symm)) hb); have n1_ := am_ (Kd.V_below (Kd.V_elderB (kv_ HO0_1.out) gb201 (Nat.le_of_eq hg.symm)) hb); have n2_ := am_ (Kd.V_below (Kd.V_elderB (kv_ HO1_1.out) gb201 (Nat.le_of_eq hg.symm)) hb); have n3_ := am_ (Kd.V_below (Kd.V_elderB (kv_ HO1_2.out) gb201 (Nat.le_of_eq hg.symm)) hb); have n4_ := am_ (blk_below (bk_ BK199.out) hb); have n5_ := am_ (blk_below (bk_ BK200.out) hb); have n6_ := am_ (below_step (bl_) hb); have n7_ := am_ (hbox); have n8_ := am_ ((by rw [hg]; exact (below_size (bl_)) : w.heap.size ≤ gb201)); have n9_ := am_ ((by rw [hg]; exact (below_size (bl_)) : w.heap.size ≤ gb201)); have n10_ := am_ ((by rw [hg]; exact Nat.ne_of_lt (blk_lt (g := gb199) (o := .cells #[.slice A0_0 l0_0.length c0_0, .slice A0_1 l0_1.length c0_1, .bool false] 58 (0, 0)) (bk_ BK199.out)) : gb199 ≠ gb201)); have n11_ := am_ ((by rw [hg]; exact Nat.ne_of_gt (blk_lt (g := gb199) (o := .cells #[.slice A0_0 l0_0.length c0_0, .slice A0_1 l0_1.length c0_1, .bool false] 58 (0, 0)) (bk_ BK199.out)) : gb201 ≠ gb199)); have n12_ := am_ ((by rw [hg]; exact Nat.ne_of_lt (blk_lt (g := gb200) (o := .cells #[.int .i64 a1_0, .slice A1_1 l1_1.length c1_1, .slice A1_2 l1_2.length c1_2] 39 (0, 0)) (bk_ BK200.out)) : gb200 ≠ gb201)); have n13_ := am_ ((by rw [hg]; exact Nat.ne_of_gt (blk_lt (g := gb200) (o := .cells #[.int .i64 a1_0, .slice A1_1 l1_1.length c1_1, .slice A1_2 l1_2.length c1_2] 39 (0, 0)) (bk_ BK200.out)) : gb201 ≠ gb200)); clear HO0_0; clear HO0_1; clear HO1_1; clear HO1_2; clear BK199; clear BK200; clear HB; have HO0_0 := n0_; have HO0_1 := n1_; have HO1_1 := n2_; have HO1_2 := n3_; have BK199 := n4_; have BK200 := n5_; have HB := n6_; have BK201 := n7_; have GW201 := n8_; have GE201 := n9_; have NB199_201 := n10_; have NB201_199 := n11_; have NB200_201 := n12_; have NB201_200 := n13_; clear n0_ n1_ n2_ n3_ n4_ n5_ n6_ n7_ n8_ n9_ n10_ n11_ n12_ n13_; clear hb hbox hg; have hnb55 := NB200_199.out; have hnc55 := NB199_200.out; have hnb56 := NB200_201.out; have hnc56 := NB201_200.out; obtain ⟨hcz57_0, hcz57_1, hcz57_2, hfz57_0, hfz57_1, hfz57_2⟩ := bw3_ BK200.out; have hnb58 := NB199_201.out; have hnc58 := NB201_199.out; obtain ⟨hcz59_0, hcz59_1, hcz59_2, hfz59_0, hfz59_1, hfz59_2⟩ := bw3_ BK199.out))
        have n0_ := am_ (Kd.V_drew HO0_0.out); have n1_ := am_ (Kd.V_drew HO0_1.out); have n2_ := am_ (Kd.V_drew HO1_1.out); have n3_ := am_ (Kd.V_drew HO1_2.out); have n4_ := am_ (blk_drew BK199.out); have n5_ := am_ (blk_drew BK200.out); have n6_ := am_ (blk_drew BK201.out); have n7_ := am_ (below_drew1 HB.out); clear HO0_0; clear HO0_1; clear HO1_1; clear HO1_2; clear BK199; clear BK200; clear BK201; clear HB; have HO0_0 := n0_; have HO0_1 := n1_; have HO1_1 := n2_; have HO1_2 := n3_; have BK199 := n4_; have BK200 := n5_; have BK201 := n6_; have HB := n7_; clear n0_ n1_ n2_ n3_ n4_ n5_ n6_ n7_
        refine start_ (n := 10) (S := fun w' => w'.cell? ⟨gb199, 0, none⟩ = some (.slice A0_0 l0_0.length c0_0) ∧ w'.cell? ⟨gb199, 1, none⟩ = some (.slice A0_1 l0_1.length c0_1) ∧ w'.cell? ⟨gb199, 2, none⟩ = some (.bool false) ∧ w'.cell? ⟨gb200, 0, none⟩ = some (.int .i64 a1_0) ∧ w'.cell? ⟨gb200, 1, none⟩ = some (.slice A1_1 l1_1.length c1_1) ∧ w'.cell? ⟨gb200, 2, none⟩ = some (.slice A1_2 l1_2.length c1_2)) (ds := [9]) #[false, false, false, false, false, false, false, false, false, false] (by kernel_rfl) rfl rfl ⟨bc_ BK199.out 0, bc_ BK199.out 1, bc_ BK199.out 2, bc_ BK200.out 0, bc_ BK200.out 1, bc_ BK200.out 2⟩ (fun hHeld => ?_); refine with_tabW r34_Go.tab10 r34_Go.bits10 (fun HT_ HW_ => ?_)
        generalize w54.drew = w60 at HO0_0 HO0_1 HO1_1 HO1_2 BK199 BK200 BK201 HB hHeld ⊢
        refine pure_ (i := 1) (N := some 28) (v := ?_) (a' := ?_) #[false, true, false, false, false, false, false, false, false, false] rfl rfl (any_of HT_.out (by kernel_rfl)) (fun _ _ _ h => h) (Or.inl ⟨by rfl, ?_⟩) ?_ ?_; rotate_left
        ·intro w'
         go_simp; (with_reducible rfl)
        rotate_left
        ·simp only [Act.put, sa_, sz_, ss_, i64_w, i32_w]
         rfl
        refine pure_ (i := 4) (N := some 31) (v := ?_) (a' := ?_) #[false, true, false, false, true, false, false, false, false, false] rfl rfl (any_of HT_.out (by kernel_rfl)) (fun _ _ _ h => h) (Or.inl ⟨by rfl, ?_⟩) ?_ ?_; rotate_left
        ·intro w'
         go_simp; (with_reducible rfl)
        rotate_left
        ·simp only [Act.put, sa_, sz_, ss_, i64_w, i32_w]
         rfl
        refine take_ (i := 2) (N := some 29) (v := ?_) (a' := ?_) #[false, true, true, false, true, false, false, false, false, false] rfl rfl (take_ofW HT_.out HW_.out (by kernel_rfl)) (fun _ _ _ h => h) (Or.inl ⟨by rfl, ?_⟩) hHeld ?_ ?_; rotate_left
        ·rintro w' ⟨s0, s1, s2, s3, s4, s5⟩
         go_simp; (with_reducible rfl)
        rotate_left
        ·simp only [Act.put, sa_, sz_, ss_, i64_w, i32_w]
         rfl
        refine take_ (i := 5) (N := some 32) (v := ?_) (a' := ?_) #[false, true, true, false, true, true, false, false, false, false] rfl rfl (take_ofW HT_.out HW_.out (by kernel_rfl)) (fun _ _ _ h => h) (Or.inl ⟨by rfl, ?_⟩) hHeld ?_ ?_; rotate_left
        ·rintro w' ⟨s0, s1, s2, s3, s4, s5⟩
         go_simp; (with_reducible rfl)
        rotate_left
        ·simp only [Act.put, sa_, sz_, ss_, i64_w, i32_w]
         rfl
        refine join_ (σ := Value × Value × Value) 3 #[true, true, true, true, true, true, true, false, false, false] (fun s_ => [(27, s_.1), (30, s_.2.1), (33, s_.2.2)]) (fun s_ w' => (w'.cell? ⟨gb199, 0, none⟩ = some (.slice A0_0 l0_0.length c0_0) ∧ w'.cell? ⟨gb199, 1, none⟩ = some (.slice A0_1 l0_1.length c0_1) ∧ w'.cell? ⟨gb199, 2, none⟩ = some (.bool false) ∧ w'.cell? ⟨gb200, 0, none⟩ = some (.int .i64 a1_0) ∧ w'.cell? ⟨gb200, 1, none⟩ = some (.slice A1_1 l1_1.length c1_1) ∧ w'.cell? ⟨gb200, 2, none⟩ = some (.slice A1_2 l1_2.length c1_2)) ∧ (Kd.V (Kd.slice 23 k23) 24 w' w.heap.size (fun k_ => ((P0_0_ k_ ∨ P0_1_ k_ ∨ P1_1_ k_ ∨ P1_2_ k_) ∨ w.heap.size ≤ k_) ∧ some k_ ≠ (s_.2.1 : Value).ownBlock ∧ some k_ ≠ (s_.2.2 : Value).ownBlock ∧ k_ ≠ gb199 ∧ k_ ≠ gb200 ∧ k_ ≠ gb201) (.slice A0_0 l0_0.length c0_0) l0_0) ∧ (Kd.V (Kd.slice 23 k23) 24 w' w.heap.size (fun k_ => ((P0_0_ k_ ∨ P0_1_ k_ ∨ P1_1_ k_ ∨ P1_2_ k_) ∨ w.heap.size ≤ k_) ∧ some k_ ≠ (s_.2.1 : Value).ownBlock ∧ some k_ ≠ (s_.2.2 : Value).ownBlock ∧ k_ ≠ gb199 ∧ k_ ≠ gb200 ∧ k_ ≠ gb201) (.slice A0_1 l0_1.length c0_1) l0_1) ∧ (Kd.V k23 23 w' w.heap.size (fun k_ => ((P0_0_ k_ ∨ P0_1_ k_ ∨ P1_1_ k_ ∨ P1_2_ k_) ∨ w.heap.size ≤ k_) ∧ some k_ ≠ (s_.2.1 : Value).ownBlock ∧ some k_ ≠ (s_.2.2 : Value).ownBlock ∧ k_ ≠ gb199 ∧ k_ ≠ gb200 ∧ k_ ≠ gb201) (.slice A1_1 l1_1.length c1_1) l1_1) ∧ (Kd.V k23 23 w' w.heap.size (fun k_ => ((P0_0_ k_ ∨ P0_1_ k_ ∨ P1_1_ k_ ∨ P1_2_ k_) ∨ w.heap.size ≤ k_) ∧ some k_ ≠ (s_.2.1 : Value).ownBlock ∧ some k_ ≠ (s_.2.2 : Value).ownBlock ∧ k_ ≠ gb199 ∧ k_ ≠ gb200 ∧ k_ ≠ gb201) (.slice A1_2 l1_2.length c1_2) l1_2) ∧ (Kd.N (Kd.slice 23 k23) 24 w' w.heap.size (fun k_ => ((P0_0_ k_ ∨ P0_1_ k_ ∨ P1_1_ k_ ∨ P1_2_ k_) ∨ w.heap.size ≤ k_) ∧ some k_ ≠ (s_.2.2 : Value).ownBlock ∧ k_ ≠ gb199 ∧ k_ ≠ gb200 ∧ k_ ≠ gb201) s_.2.1 y208) ∧ (Kd.N (Kd.slice 23 k23) 24 w' w.heap.size (fun k_ => ((P0_0_ k_ ∨ P0_1_ k_ ∨ P1_1_ k_ ∨ P1_2_ k_) ∨ w.heap.size ≤ k_) ∧ some k_ ≠ (s_.2.1 : Value).ownBlock ∧ k_ ≠ gb199 ∧ k_ ≠ gb200 ∧ k_ ≠ gb201) s_.2.2 y211) ∧ (w'.heap[gb199]? = some (.cells #[.slice A0_0 l0_0.length c0_0, .slice A0_1 l0_1.length c0_1, .bool false] 58 (0, 0))) ∧ (w'.heap[gb200]? = some (.cells #[.int .i64 a1_0, .slice A1_1 l1_1.length c1_1, .slice A1_2 l1_2.length c1_2] 39 (0, 0))) ∧ (w'.heap[gb201]? = some (.cells #[.slice none 0 0, .slice none 0 0, .bool false] 58 (0, 0))) ∧ (Below w.heap.size w w')) ?_ ?_; rotate_left
        ·intro hCont
         refine two_ (i := 0) (j := 6) (Ni := some 27) (Nj := some 33) #[true, true, true, false, true, true, false, false, false, false] #[false, true, true, false, true, true, true, false, false, false] rfl rfl rfl rfl (two_of HT_.out (by kernel_rfl)) (by decide) (by decide) (fun K hK => ?_) (fun K hK => ?_)
         ·skip
          refine Kd.N_lit_step (Kd.slice 23 k23) _ 24 ?hg (N' := 27) ?hd (xs := ([] : List (List (S23)))) (inner := []) (ok := (fun k_ => ((P0_0_ k_ ∨ P0_1_ k_ ∨ P1_1_ k_ ∨ P1_2_ k_) ∨ w.heap.size ≤ k_) ∧ k_ ≠ gb199 ∧ k_ ≠ gb200 ∧ k_ ≠ gb201)) (okp := (fun k_ => ((P0_0_ k_ ∨ P0_1_ k_ ∨ P1_1_ k_ ∨ P1_2_ k_) ∨ w.heap.size ≤ k_) ∧ k_ ≠ gb199 ∧ k_ ≠ gb200 ∧ k_ ≠ gb201)) ?hr ?hp (fun _ hk => hk) ((show ∀ k_, w60.heap.size ≤ k_ → (fun k_ => ((P0_0_ k_ ∨ P0_1_ k_ ∨ P1_1_ k_ ∨ P1_2_ k_) ∨ w.heap.size ≤ k_) ∧ k_ ≠ gb199 ∧ k_ ≠ gb200 ∧ k_ ≠ gb201) k_ from fun k_ hk => ⟨(.inr (Nat.le_trans (below_size (bl_)) hk)), Kd.freshB (g := gb199) (o := .cells #[.slice A0_0 l0_0.length c0_0, .slice A0_1 l0_1.length c0_1, .bool false] 58 (0, 0)) (bk_ BK199.out) k_ hk, Kd.freshB (g := gb200) (o := .cells #[.int .i64 a1_0, .slice A1_1 l1_1.length c1_1, .slice A1_2 l1_2.length c1_2] 39 (0, 0)) (bk_ BK200.out) k_ hk, Kd.freshB (g := gb201) (o := .cells #[.slice none 0 0, .slice none 0 0, .bool false] 58 (0, 0)) (bk_ BK201.out) k_ hk⟩) _ (Nat.le_refl _)) (Below.refl _ _) (Nat.le_refl _) (by simp) ?_; (case hd => rfl); (case hg => rfl); (case hr => first | (go_simp; done) | (go_simp; rfl)); (case hp => exact (Reps.none _ _))
          intro v206 w61 ho62 hb hg_ hnew_; clear hg_ hnew_; (first | rw [← Ny205.out] at ho62 | (simp only [Int.reduceToNat] at ho62; rw [← Ny205.out] at ho62)); have n0_ := am_ (Kd.V_elder' (kv_ HO0_0.out) (Kd.N_base ho62) hb); have n1_ := am_ (Kd.V_elder' (kv_ HO0_1.out) (Kd.N_base ho62) hb); have n2_ := am_ (Kd.V_elder' (kv_ HO1_1.out) (Kd.N_base ho62) hb); have n3_ := am_ (Kd.V_elder' (kv_ HO1_2.out) (Kd.N_base ho62) hb); have n4_ := am_ (Kd.N_lower ho62 (below_size (bl_))); have n5_ := am_ (blk_below (bk_ BK199.out) hb); have n6_ := am_ (blk_below (bk_ BK200.out) hb); have n7_ := am_ (blk_below (bk_ BK201.out) hb); have n8_ := am_ (below_step (bl_) hb); clear HO0_0; clear HO0_1; clear HO1_1; clear HO1_2; clear BK199; clear BK200; clear BK201; clear HB; have HO0_0 := n0_; have HO0_1 := n1_; have HO1_1 := n2_; have HO1_2 := n3_; have HO207 := n4_; have BK199 := n5_; have BK200 := n6_; have BK201 := n7_; have HB := n8_; clear n0_ n1_ n2_ n3_ n4_ n5_ n6_ n7_ n8_; clear hb ho62; refine hK.out _ _ ⟨bc_ BK199.out 0, bc_ BK199.out 1, bc_ BK199.out 2, bc_ BK200.out 0, bc_ BK200.out 1, bc_ BK200.out 2⟩ (fun hHeld => ?_); clear hK K; refine norm_ (a' := ?_) ?_ ?_; rotate_left
          ·show Act.put _ (some 27) _ = _
           simp only [Act.put, sa_, sz_, ss_, i64_w, i32_w]; rfl
          refine two_ (i := 3) (j := 6) (Ni := some 30) (Nj := some 33) #[true, true, true, true, true, true, false, false, false, false] #[true, true, true, false, true, true, true, false, false, false] rfl rfl rfl rfl (two_of HT_.out (by kernel_rfl)) (by decide) (by decide) (fun K hK => ?_) (fun K hK => ?_)
          ·skip
           refine Kd.N_append_rows_step (Kd.slice 23 k23) (w0 := w) w.heap.size (by rfl) (.tmp 27) (.tmp 29) 26 24 (.slice none 0 0) 24 rfl Tryd.underlying26 info24 rfl (by decide) (by omega) v206 y205 l0_0 _ _ _ (fun k_ => ((P0_0_ k_ ∨ P0_1_ k_ ∨ P1_1_ k_ ∨ P1_2_ k_) ∨ w.heap.size ≤ k_) ∧ k_ ≠ gb199 ∧ k_ ≠ gb200 ∧ k_ ≠ gb201) (fun k_ => ((fun k_ => ((P0_0_ k_ ∨ P0_1_ k_ ∨ P1_1_ k_ ∨ P1_2_ k_) ∨ w.heap.size ≤ k_) ∧ k_ ≠ gb199 ∧ k_ ≠ gb200 ∧ k_ ≠ gb201)) k_ ∧ some k_ ≠ (v206 : Value).ownBlock) rfl rfl ?aO ?aR (fun _ hk => hk) ?aF ?aB ?aS ?aL ?_; (case aR => exact (by skip; exact Kd.V_F (Kd.V_mono (ok' := (fun k_ => ((fun k_ => ((P0_0_ k_ ∨ P0_1_ k_ ∨ P1_1_ k_ ∨ P1_2_ k_) ∨ w.heap.size ≤ k_) ∧ k_ ≠ gb199 ∧ k_ ≠ gb200 ∧ k_ ≠ gb201)) k_ ∧ some k_ ≠ (v206 : Value).ownBlock)) (HO0_0.out) (fun k_ hk => ⟨⟨hk.1.1.1.1, ⟨hk.1.1.1.2, ⟨hk.1.1.2, hk.1.2⟩⟩⟩, hk.2⟩)))); (case aB => exact (bl_)); (case aF => exact (fun k_ hk => ⟨(.inr (Nat.le_trans (below_size (bl_)) hk)), Kd.freshB (g := gb199) (o := .cells #[.slice A0_0 l0_0.length c0_0, .slice A0_1 l0_1.length c0_1, .bool false] 58 (0, 0)) (bk_ BK199.out) k_ hk, Kd.freshB (g := gb200) (o := .cells #[.int .i64 a1_0, .slice A1_1 l1_1.length c1_1, .slice A1_2 l1_2.length c1_2] 39 (0, 0)) (bk_ BK200.out) k_ hk, Kd.freshB (g := gb201) (o := .cells #[.slice none 0 0, .slice none 0 0, .bool false] 58 (0, 0)) (bk_ BK201.out) k_ hk⟩)); (case aO => exact (kn_ HO207.out)); (case aS => exact (below_size (bl_))); (case aL => have := LMc48.out; omega); intro v209 w63 ho hb hg hat; rw [← Ny208.out] at ho; have n0_ := am_ (Kd.V_afterv (ok := (fun k_ => ((P0_0_ k_ ∨ P0_1_ k_ ∨ P1_1_ k_ ∨ P1_2_ k_) ∨ w.heap.size ≤ k_) ∧ k_ ≠ gb199 ∧ k_ ≠ gb200 ∧ k_ ≠ gb201)) (by (with_reducible repeat (first | apply Kd.V_alloc | apply Kd.V_drewN | apply Kd.V_drew)); exact Kd.V_mono HO0_0.out (fun _ hk => ⟨⟨hk.1.1.1.1, ⟨hk.1.1.1.2, ⟨hk.1.1.2, hk.1.2⟩⟩⟩, hk.2⟩)) hg hat); have n1_ := am_ (Kd.V_afterv (ok := (fun k_ => ((P0_0_ k_ ∨ P0_1_ k_ ∨ P1_1_ k_ ∨ P1_2_ k_) ∨ w.heap.size ≤ k_) ∧ k_ ≠ gb199 ∧ k_ ≠ gb200 ∧ k_ ≠ gb201)) (by (with_reducible repeat (first | apply Kd.V_alloc | apply Kd.V_drewN | apply Kd.V_drew)); exact Kd.V_mono HO0_1.out (fun _ hk => ⟨⟨hk.1.1.1.1, ⟨hk.1.1.1.2, ⟨hk.1.1.2, hk.1.2⟩⟩⟩, hk.2⟩)) hg hat); have n2_ := am_ (Kd.V_afterv (ok := (fun k_ => ((P0_0_ k_ ∨ P0_1_ k_ ∨ P1_1_ k_ ∨ P1_2_ k_) ∨ w.heap.size ≤ k_) ∧ k_ ≠ gb199 ∧ k_ ≠ gb200 ∧ k_ ≠ gb201)) (by (with_reducible repeat (first | apply Kd.V_alloc | apply Kd.V_drewN | apply Kd.V_drew)); exact Kd.V_mono HO1_1.out (fun _ hk => ⟨⟨hk.1.1.1.1, ⟨hk.1.1.1.2, ⟨hk.1.1.2, hk.1.2⟩⟩⟩, hk.2⟩)) hg hat); have n3_ := am_ (Kd.V_afterv (ok := (fun k_ => ((P0_0_ k_ ∨ P0_1_ k_ ∨ P1_1_ k_ ∨ P1_2_ k_) ∨ w.heap.size ≤ k_) ∧ k_ ≠ gb199 ∧ k_ ≠ gb200 ∧ k_ ≠ gb201)) (by (with_reducible repeat (first | apply Kd.V_alloc | apply Kd.V_drewN | apply Kd.V_drew)); exact Kd.V_mono HO1_2.out (fun _ hk => ⟨⟨hk.1.1.1.1, ⟨hk.1.1.1.2, ⟨hk.1.1.2, hk.1.2⟩⟩⟩, hk.2⟩)) hg hat); have n4_ := am_ (blk_grown (g := gb199) (o := .cells #[.slice A0_0 l0_0.length c0_0, .slice A0_1 l0_1.length c0_1, .bool false] 58 (0, 0)) (bk_ BK199.out) hg (Kd.N_ne HO207.out BK199.out (by decide))); have n5_ := am_ (blk_grown (g := gb200) (o := .cells #[.int .i64 a1_0, .slice A1_1 l1_1.length c1_1, .slice A1_2 l1_2.length c1_2] 39 (0, 0)) (bk_ BK200.out) hg (Kd.N_ne HO207.out BK200.out (by decide))); have n6_ := am_ (blk_grown (g := gb201) (o := .cells #[.slice none 0 0, .slice none 0 0, .bool false] 58 (0, 0)) (bk_ BK201.out) hg (Kd.N_ne HO207.out BK201.out (by decide))); have n7_ := am_ (hb); have n8_ := am_ (ho); clear HO0_0; clear HO0_1; clear HO1_1; clear HO1_2; clear BK199; clear BK200; clear BK201; clear HB; clear HO207; have HO0_0 := n0_; have HO0_1 := n1_; have HO1_1 := n2_; have HO1_2 := n3_; have BK199 := n4_; have BK200 := n5_; have BK201 := n6_; have HB := n7_; have HO210 := n8_; clear n0_ n1_ n2_ n3_ n4_ n5_ n6_ n7_ n8_; clear ho hb hg hat; refine hK.out _ _ ⟨bc_ BK199.out 0, bc_ BK199.out 1, bc_ BK199.out 2, bc_ BK200.out 0, bc_ BK200.out 1, bc_ BK200.out 2⟩ (fun hHeld => ?_); clear hK K; refine norm_ (a' := ?_) ?_ ?_; rotate_left
           ·show Act.put _ (some 30) _ = _
            simp only [Act.put, sa_, sz_, ss_, i64_w, i32_w]; rfl
           refine one_ (i := 6) (N := some 33) #[true, true, true, true, true, true, true, false, false, false] rfl rfl (one_of HT_.out (by kernel_rfl)) (by decide) (fun K hK => ?_)
           refine Kd.N_lit_step (Kd.slice 23 k23) _ 24 ?hg (N' := 33) ?hd (xs := ([l1_1] : List (List (S23)))) (inner := [.slice A1_1 l1_1.length c1_1]) (ok := (fun k_ => ((P0_0_ k_ ∨ P0_1_ k_ ∨ P1_1_ k_ ∨ P1_2_ k_) ∨ w.heap.size ≤ k_) ∧ some k_ ≠ (v209 : Value).ownBlock ∧ k_ ≠ gb199 ∧ k_ ≠ gb200 ∧ k_ ≠ gb201)) (okp := (fun k_ => ((P0_0_ k_ ∨ P0_1_ k_ ∨ P1_1_ k_ ∨ P1_2_ k_) ∨ w.heap.size ≤ k_) ∧ some k_ ≠ (v209 : Value).ownBlock ∧ k_ ≠ gb199 ∧ k_ ≠ gb200 ∧ k_ ≠ gb201)) ?hr ?hp (fun _ hk => hk) ((show ∀ k_, w63.heap.size ≤ k_ → (fun k_ => ((P0_0_ k_ ∨ P0_1_ k_ ∨ P1_1_ k_ ∨ P1_2_ k_) ∨ w.heap.size ≤ k_) ∧ some k_ ≠ (v209 : Value).ownBlock ∧ k_ ≠ gb199 ∧ k_ ≠ gb200 ∧ k_ ≠ gb201) k_ from fun k_ hk => ⟨(.inr (Nat.le_trans (below_size (bl_)) hk)), Kd.fresh' (Kd.N_lt (kn_ HO210.out)) k_ hk, Kd.freshB (g := gb199) (o := .cells #[.slice A0_0 l0_0.length c0_0, .slice A0_1 l0_1.length c0_1, .bool false] 58 (0, 0)) (bk_ BK199.out) k_ hk, Kd.freshB (g := gb200) (o := .cells #[.int .i64 a1_0, .slice A1_1 l1_1.length c1_1, .slice A1_2 l1_2.length c1_2] 39 (0, 0)) (bk_ BK200.out) k_ hk, Kd.freshB (g := gb201) (o := .cells #[.slice none 0 0, .slice none 0 0, .bool false] 58 (0, 0)) (bk_ BK201.out) k_ hk⟩) _ (Nat.le_refl _)) (Below.refl _ _) (Nat.le_refl _) (by simp) ?_; (case hd => rfl); (case hg => rfl); (case hr => first | (go_simp; done) | (go_simp; rfl)); (case hp => exact (Reps.one (show Kd.FK (Kd.slice 23 k23) _ _ l1_1 [.slice A1_1 l1_1.length c1_1] from (Kd.FK_slice_mk (Kd.V_reads' (Kd.V_mono (ok' := (fun k_ => ((P0_0_ k_ ∨ P0_1_ k_ ∨ P1_1_ k_ ∨ P1_2_ k_) ∨ w.heap.size ≤ k_) ∧ some k_ ≠ (v209 : Value).ownBlock ∧ k_ ≠ gb199 ∧ k_ ≠ gb200 ∧ k_ ≠ gb201)) (kv_ (HO1_1.out)) (fun k_ hk => ⟨hk.1.1, ⟨hk.2, ⟨hk.1.2.1, ⟨hk.1.2.2.1, hk.1.2.2.2⟩⟩⟩⟩))).2.1 (Kd.V_F (Kd.V_mono (ok' := (fun k_ => ((P0_0_ k_ ∨ P0_1_ k_ ∨ P1_1_ k_ ∨ P1_2_ k_) ∨ w.heap.size ≤ k_) ∧ some k_ ≠ (v209 : Value).ownBlock ∧ k_ ≠ gb199 ∧ k_ ≠ gb200 ∧ k_ ≠ gb201)) (kv_ (HO1_1.out)) (fun k_ hk => ⟨hk.1.1, ⟨hk.2, ⟨hk.1.2.1, ⟨hk.1.2.2.1, hk.1.2.2.2⟩⟩⟩⟩))))) (Reps.none _ _)))
           intro v212 w64 ho65 hb hg_ hnew_; clear hg_ hnew_; (first | rw [← Ny211.out] at ho65 | (simp only [Int.reduceToNat] at ho65; rw [← Ny211.out] at ho65)); have n0_ := am_ (Kd.V_elder' (kv_ HO0_0.out) (Kd.N_base ho65) hb); have n1_ := am_ (Kd.V_elder' (kv_ HO0_1.out) (Kd.N_base ho65) hb); have n2_ := am_ (Kd.V_elder' (kv_ HO1_1.out) (Kd.N_base ho65) hb); have n3_ := am_ (Kd.V_elder' (kv_ HO1_2.out) (Kd.N_base ho65) hb); have n4_ := am_ (Kd.N_elder' (kn_ HO210.out) (Kd.N_base ho65) hb); have n5_ := am_ (Kd.N_lower ho65 (below_size (bl_))); have n6_ := am_ (blk_below (bk_ BK199.out) hb); have n7_ := am_ (blk_below (bk_ BK200.out) hb); have n8_ := am_ (blk_below (bk_ BK201.out) hb); have n9_ := am_ (below_step (bl_) hb); clear HO0_0; clear HO0_1; clear HO1_1; clear HO1_2; clear HO210; clear BK199; clear BK200; clear BK201; clear HB; have HO0_0 := n0_; have HO0_1 := n1_; have HO1_1 := n2_; have HO1_2 := n3_; have HO210 := n4_; have HO213 := n5_; have BK199 := n6_; have BK200 := n7_; have BK201 := n8_; have HB := n9_; clear n0_ n1_ n2_ n3_ n4_ n5_ n6_ n7_ n8_ n9_; clear hb ho65; refine hK.out _ _ ⟨bc_ BK199.out 0, bc_ BK199.out 1, bc_ BK199.out 2, bc_ BK200.out 0, bc_ BK200.out 1, bc_ BK200.out 2⟩ (fun hHeld => ?_); clear hK K; refine norm_ (a' := ?_) ?_ ?_; rotate_left
           ·show Act.put _ (some 33) _ = _
            simp only [Act.put, sa_, sz_, ss_, i64_w, i32_w]; rfl
           exact norm_ (by simp only [putAll, Act.put, sa_, sz_, ss_]) (hCont (v206, v209, v212) _ ⟨hHeld, (by (with_reducible repeat (first | apply Kd.V_alloc | apply Kd.V_drewN | apply Kd.V_drew)); exact Kd.V_mono HO0_0.out (fun _ hk => ⟨hk.1.1.1, ⟨hk.1.2, ⟨hk.2, ⟨hk.1.1.2.1, ⟨hk.1.1.2.2.1, hk.1.1.2.2.2⟩⟩⟩⟩⟩)), (by (with_reducible repeat (first | apply Kd.V_alloc | apply Kd.V_drewN | apply Kd.V_drew)); exact Kd.V_mono HO0_1.out (fun _ hk => ⟨hk.1.1.1, ⟨hk.1.2, ⟨hk.2, ⟨hk.1.1.2.1, ⟨hk.1.1.2.2.1, hk.1.1.2.2.2⟩⟩⟩⟩⟩)), (by (with_reducible repeat (first | apply Kd.V_alloc | apply Kd.V_drewN | apply Kd.V_drew)); exact Kd.V_mono HO1_1.out (fun _ hk => ⟨hk.1.1.1, ⟨hk.1.2, ⟨hk.2, ⟨hk.1.1.2.1, ⟨hk.1.1.2.2.1, hk.1.1.2.2.2⟩⟩⟩⟩⟩)), (by (with_reducible repeat (first | apply Kd.V_alloc | apply Kd.V_drewN | apply Kd.V_drew)); exact Kd.V_mono HO1_2.out (fun _ hk => ⟨hk.1.1.1, ⟨hk.1.2, ⟨hk.2, ⟨hk.1.1.2.1, ⟨hk.1.1.2.2.1, hk.1.1.2.2.2⟩⟩⟩⟩⟩)), (by (with_reducible repeat (first | apply Kd.N_alloc | apply Kd.N_drewN | apply Kd.N_drew)); exact Kd.N_mono HO210.out (fun _ hk => ⟨hk.1.1, ⟨hk.2, ⟨hk.1.2.1, ⟨hk.1.2.2.1, hk.1.2.2.2⟩⟩⟩⟩)), (kn_ HO213.out), (bk_ BK199.out), (bk_ BK200.out), (bk_ BK201.out), (bl_)⟩)
          ·skip
           refine Kd.N_lit_step (Kd.slice 23 k23) _ 24 ?hg (N' := 33) ?hd (xs := ([l1_1] : List (List (S23)))) (inner := [.slice A1_1 l1_1.length c1_1]) (ok := (fun k_ => ((P0_0_ k_ ∨ P0_1_ k_ ∨ P1_1_ k_ ∨ P1_2_ k_) ∨ w.heap.size ≤ k_) ∧ some k_ ≠ (v206 : Value).ownBlock ∧ k_ ≠ gb199 ∧ k_ ≠ gb200 ∧ k_ ≠ gb201)) (okp := (fun k_ => ((P0_0_ k_ ∨ P0_1_ k_ ∨ P1_1_ k_ ∨ P1_2_ k_) ∨ w.heap.size ≤ k_) ∧ some k_ ≠ (v206 : Value).ownBlock ∧ k_ ≠ gb199 ∧ k_ ≠ gb200 ∧ k_ ≠ gb201)) ?hr ?hp (fun _ hk => hk) ((show ∀ k_, w61.heap.size ≤ k_ → (fun k_ => ((P0_0_ k_ ∨ P0_1_ k_ ∨ P1_1_ k_ ∨ P1_2_ k_) ∨ w.heap.size ≤ k_) ∧ some k_ ≠ (v206 : Value).ownBlock ∧ k_ ≠ gb199 ∧ k_ ≠ gb200 ∧ k_ ≠ gb201) k_ from fun k_ hk => ⟨(.inr (Nat.le_trans (below_size (bl_)) hk)), Kd.fresh' (Kd.N_lt (kn_ HO207.out)) k_ hk, Kd.freshB (g := gb199) (o := .cells #[.slice A0_0 l0_0.length c0_0, .slice A0_1 l0_1.length c0_1, .bool false] 58 (0, 0)) (bk_ BK199.out) k_ hk, Kd.freshB (g := gb200) (o := .cells #[.int .i64 a1_0, .slice A1_1 l1_1.length c1_1, .slice A1_2 l1_2.length c1_2] 39 (0, 0)) (bk_ BK200.out) k_ hk, Kd.freshB (g := gb201) (o := .cells #[.slice none 0 0, .slice none 0 0, .bool false] 58 (0, 0)) (bk_ BK201.out) k_ hk⟩) _ (Nat.le_refl _)) (Below.refl _ _) (Nat.le_refl _) (by simp) ?_; (case hd => rfl); (case hg => rfl); (case hr => first | (go_simp; done) | (go_simp; rfl)); (case hp => exact (Reps.one (show Kd.FK (Kd.slice 23 k23) _ _ l1_1 [.slice A1_1 l1_1.length c1_1] from (Kd.FK_slice_mk (Kd.V_reads' (Kd.V_mono (ok' := (fun k_ => ((P0_0_ k_ ∨ P0_1_ k_ ∨ P1_1_ k_ ∨ P1_2_ k_) ∨ w.heap.size ≤ k_) ∧ some k_ ≠ (v206 : Value).ownBlock ∧ k_ ≠ gb199 ∧ k_ ≠ gb200 ∧ k_ ≠ gb201)) (kv_ (HO1_1.out)) (fun k_ hk => ⟨hk.1.1.1.1, ⟨hk.2, ⟨hk.1.1.1.2, ⟨hk.1.1.2, hk.1.2⟩⟩⟩⟩))).2.1 (Kd.V_F (Kd.V_mono (ok' := (fun k_ => ((P0_0_ k_ ∨ P0_1_ k_ ∨ P1_1_ k_ ∨ P1_2_ k_) ∨ w.heap.size ≤ k_) ∧ some k_ ≠ (v206 : Value).ownBlock ∧ k_ ≠ gb199 ∧ k_ ≠ gb200 ∧ k_ ≠ gb201)) (kv_ (HO1_1.out)) (fun k_ hk => ⟨hk.1.1.1.1, ⟨hk.2, ⟨hk.1.1.1.2, ⟨hk.1.1.2, hk.1.2⟩⟩⟩⟩))))) (Reps.none _ _)))
           intro v212 w63 ho64 hb hg_ hnew_; clear hg_ hnew_; (first | rw [← Ny211.out] at ho64 | (simp only [Int.reduceToNat] at ho64; rw [← Ny211.out] at ho64)); have n0_ := am_ (Kd.V_elder' (kv_ HO0_0.out) (Kd.N_base ho64) hb); have n1_ := am_ (Kd.V_elder' (kv_ HO0_1.out) (Kd.N_base ho64) hb); have n2_ := am_ (Kd.V_elder' (kv_ HO1_1.out) (Kd.N_base ho64) hb); have n3_ := am_ (Kd.V_elder' (kv_ HO1_2.out) (Kd.N_base ho64) hb); have n4_ := am_ (Kd.N_elder' (kn_ HO207.out) (Kd.N_base ho64) hb); have n5_ := am_ (Kd.N_lower ho64 (below_size (bl_))); have n6_ := am_ (blk_below (bk_ BK199.out) hb); have n7_ := am_ (blk_below (bk_ BK200.out) hb); have n8_ := am_ (blk_below (bk_ BK201.out) hb); have n9_ := am_ (below_step (bl_) hb); clear HO0_0; clear HO0_1; clear HO1_1; clear HO1_2; clear HO207; clear BK199; clear BK200; clear BK201; clear HB; have HO0_0 := n0_; have HO0_1 := n1_; have HO1_1 := n2_; have HO1_2 := n3_; have HO207 := n4_; have HO213 := n5_; have BK199 := n6_; have BK200 := n7_; have BK201 := n8_; have HB := n9_; clear n0_ n1_ n2_ n3_ n4_ n5_ n6_ n7_ n8_ n9_; clear hb ho64; refine hK.out _ _ ⟨bc_ BK199.out 0, bc_ BK199.out 1, bc_ BK199.out 2, bc_ BK200.out 0, bc_ BK200.out 1, bc_ BK200.out 2⟩ (fun hHeld => ?_); clear hK K; refine norm_ (a' := ?_) ?_ ?_; rotate_left
           ·show Act.put _ (some 33) _ = _
            simp only [Act.put, sa_, sz_, ss_, i64_w, i32_w]; rfl
           refine one_ (i := 3) (N := some 30) #[true, true, true, true, true, true, true, false, false, false] rfl rfl (one_of HT_.out (by kernel_rfl)) (by decide) (fun K hK => ?_); refine Kd.N_append_rows_step (Kd.slice 23 k23) (w0 := w) w.heap.size (by rfl) (.tmp 27) (.tmp 29) 26 24 (.slice none 0 0) 24 rfl Tryd.underlying26 info24 rfl (by decide) (by omega) v206 y205 l0_0 _ _ _ (fun k_ => ((P0_0_ k_ ∨ P0_1_ k_ ∨ P1_1_ k_ ∨ P1_2_ k_) ∨ w.heap.size ≤ k_) ∧ some k_ ≠ (v212 : Value).ownBlock ∧ k_ ≠ gb199 ∧ k_ ≠ gb200 ∧ k_ ≠ gb201) (fun k_ => ((fun k_ => ((P0_0_ k_ ∨ P0_1_ k_ ∨ P1_1_ k_ ∨ P1_2_ k_) ∨ w.heap.size ≤ k_) ∧ some k_ ≠ (v212 : Value).ownBlock ∧ k_ ≠ gb199 ∧ k_ ≠ gb200 ∧ k_ ≠ gb201)) k_ ∧ some k_ ≠ (v206 : Value).ownBlock) rfl rfl ?aO ?aR (fun _ hk => hk) ?aF ?aB ?aS ?aL ?_; (case aR => exact (by skip; exact Kd.V_F (Kd.V_mono (ok' := (fun k_ => ((fun k_ => ((P0_0_ k_ ∨ P0_1_ k_ ∨ P1_1_ k_ ∨ P1_2_ k_) ∨ w.heap.size ≤ k_) ∧ some k_ ≠ (v212 : Value).ownBlock ∧ k_ ≠ gb199 ∧ k_ ≠ gb200 ∧ k_ ≠ gb201)) k_ ∧ some k_ ≠ (v206 : Value).ownBlock)) (HO0_0.out) (fun k_ hk => ⟨⟨hk.1.1.1.1.1, ⟨hk.2, ⟨hk.1.1.1.1.2, ⟨hk.1.1.1.2, hk.1.1.2⟩⟩⟩⟩, hk.1.2⟩)))); (case aB => exact (bl_)); (case aF => exact (fun k_ hk => ⟨(.inr (Nat.le_trans (below_size (bl_)) hk)), Kd.fresh' (Kd.N_lt (kn_ HO213.out)) k_ hk, Kd.freshB (g := gb199) (o := .cells #[.slice A0_0 l0_0.length c0_0, .slice A0_1 l0_1.length c0_1, .bool false] 58 (0, 0)) (bk_ BK199.out) k_ hk, Kd.freshB (g := gb200) (o := .cells #[.int .i64 a1_0, .slice A1_1 l1_1.length c1_1, .slice A1_2 l1_2.length c1_2] 39 (0, 0)) (bk_ BK200.out) k_ hk, Kd.freshB (g := gb201) (o := .cells #[.slice none 0 0, .slice none 0 0, .bool false] 58 (0, 0)) (bk_ BK201.out) k_ hk⟩)); (case aO => exact (by (with_reducible repeat (first | apply Kd.N_alloc | apply Kd.N_drewN | apply Kd.N_drew)); exact Kd.N_mono HO207.out (fun _ hk => ⟨hk.1.1, ⟨hk.2, ⟨hk.1.2.1, ⟨hk.1.2.2.1, hk.1.2.2.2⟩⟩⟩⟩))); (case aS => exact (below_size (bl_))); (case aL => have := LMc48.out; omega); intro v209 w65 ho hb hg hat; rw [← Ny208.out] at ho; have n0_ := am_ (Kd.V_afterv (ok := (fun k_ => ((P0_0_ k_ ∨ P0_1_ k_ ∨ P1_1_ k_ ∨ P1_2_ k_) ∨ w.heap.size ≤ k_) ∧ some k_ ≠ (v212 : Value).ownBlock ∧ k_ ≠ gb199 ∧ k_ ≠ gb200 ∧ k_ ≠ gb201)) (by (with_reducible repeat (first | apply Kd.V_alloc | apply Kd.V_drewN | apply Kd.V_drew)); exact Kd.V_mono HO0_0.out (fun _ hk => ⟨⟨hk.1.1.1.1.1, ⟨hk.2, ⟨hk.1.1.1.1.2, ⟨hk.1.1.1.2, hk.1.1.2⟩⟩⟩⟩, hk.1.2⟩)) hg hat); have n1_ := am_ (Kd.V_afterv (ok := (fun k_ => ((P0_0_ k_ ∨ P0_1_ k_ ∨ P1_1_ k_ ∨ P1_2_ k_) ∨ w.heap.size ≤ k_) ∧ some k_ ≠ (v212 : Value).ownBlock ∧ k_ ≠ gb199 ∧ k_ ≠ gb200 ∧ k_ ≠ gb201)) (by (with_reducible repeat (first | apply Kd.V_alloc | apply Kd.V_drewN | apply Kd.V_drew)); exact Kd.V_mono HO0_1.out (fun _ hk => ⟨⟨hk.1.1.1.1.1, ⟨hk.2, ⟨hk.1.1.1.1.2, ⟨hk.1.1.1.2, hk.1.1.2⟩⟩⟩⟩, hk.1.2⟩)) hg hat); have n2_ := am_ (Kd.V_afterv (ok := (fun k_ => ((P0_0_ k_ ∨ P0_1_ k_ ∨ P1_1_ k_ ∨ P1_2_ k_) ∨ w.heap.size ≤ k_) ∧ some k_ ≠ (v212 : Value).ownBlock ∧ k_ ≠ gb199 ∧ k_ ≠ gb200 ∧ k_ ≠ gb201)) (by (with_reducible repeat (first | apply Kd.V_alloc | apply Kd.V_drewN | apply Kd.V_drew)); exact Kd.V_mono HO1_1.out (fun _ hk => ⟨⟨hk.1.1.1.1.1, ⟨hk.2, ⟨hk.1.1.1.1.2, ⟨hk.1.1.1.2, hk.1.1.2⟩⟩⟩⟩, hk.1.2⟩)) hg hat); have n3_ := am_ (Kd.V_afterv (ok := (fun k_ => ((P0_0_ k_ ∨ P0_1_ k_ ∨ P1_1_ k_ ∨ P1_2_ k_) ∨ w.heap.size ≤ k_) ∧ some k_ ≠ (v212 : Value).ownBlock ∧ k_ ≠ gb199 ∧ k_ ≠ gb200 ∧ k_ ≠ gb201)) (by (with_reducible repeat (first | apply Kd.V_alloc | apply Kd.V_drewN | apply Kd.V_drew)); exact Kd.V_mono HO1_2.out (fun _ hk => ⟨⟨hk.1.1.1.1.1, ⟨hk.2, ⟨hk.1.1.1.1.2, ⟨hk.1.1.1.2, hk.1.1.2⟩⟩⟩⟩, hk.1.2⟩)) hg hat); have n4_ := am_ (blk_grown (g := gb199) (o := .cells #[.slice A0_0 l0_0.length c0_0, .slice A0_1 l0_1.length c0_1, .bool false] 58 (0, 0)) (bk_ BK199.out) hg (Kd.N_ne HO207.out BK199.out (by decide))); have n5_ := am_ (blk_grown (g := gb200) (o := .cells #[.int .i64 a1_0, .slice A1_1 l1_1.length c1_1, .slice A1_2 l1_2.length c1_2] 39 (0, 0)) (bk_ BK200.out) hg (Kd.N_ne HO207.out BK200.out (by decide))); have n6_ := am_ (blk_grown (g := gb201) (o := .cells #[.slice none 0 0, .slice none 0 0, .bool false] 58 (0, 0)) (bk_ BK201.out) hg (Kd.N_ne HO207.out BK201.out (by decide))); have n7_ := am_ (Kd.N_afterv (ok := (fun k_ => ((P0_0_ k_ ∨ P0_1_ k_ ∨ P1_1_ k_ ∨ P1_2_ k_) ∨ w.heap.size ≤ k_) ∧ k_ ≠ gb199 ∧ k_ ≠ gb200 ∧ k_ ≠ gb201)) (by (with_reducible repeat (first | apply Kd.N_alloc | apply Kd.N_drewN | apply Kd.N_drew)); exact Kd.N_mono HO213.out (fun _ hk => ⟨⟨hk.1, ⟨hk.2.2.1, ⟨hk.2.2.2.1, hk.2.2.2.2⟩⟩⟩, hk.2.1⟩)) hg hat); have n8_ := am_ (hb); have n9_ := am_ (ho); clear HO0_0; clear HO0_1; clear HO1_1; clear HO1_2; clear BK199; clear BK200; clear BK201; clear HO213; clear HB; clear HO207; have HO0_0 := n0_; have HO0_1 := n1_; have HO1_1 := n2_; have HO1_2 := n3_; have BK199 := n4_; have BK200 := n5_; have BK201 := n6_; have HO213 := n7_; have HB := n8_; have HO210 := n9_; clear n0_ n1_ n2_ n3_ n4_ n5_ n6_ n7_ n8_ n9_; clear ho hb hg hat; refine hK.out _ _ ⟨bc_ BK199.out 0, bc_ BK199.out 1, bc_ BK199.out 2, bc_ BK200.out 0, bc_ BK200.out 1, bc_ BK200.out 2⟩ (fun hHeld => ?_); clear hK K; refine norm_ (a' := ?_) ?_ ?_; rotate_left
           ·show Act.put _ (some 30) _ = _
            simp only [Act.put, sa_, sz_, ss_, i64_w, i32_w]; rfl
           exact norm_ (by simp only [putAll, Act.put, sa_, sz_, ss_]) (hCont (v206, v209, v212) _ ⟨hHeld, (by (with_reducible repeat (first | apply Kd.V_alloc | apply Kd.V_drewN | apply Kd.V_drew)); exact Kd.V_mono HO0_0.out (fun _ hk => ⟨hk.1.1, ⟨hk.2, ⟨hk.1.2.1, ⟨hk.1.2.2.1, ⟨hk.1.2.2.2.1, hk.1.2.2.2.2⟩⟩⟩⟩⟩)), (by (with_reducible repeat (first | apply Kd.V_alloc | apply Kd.V_drewN | apply Kd.V_drew)); exact Kd.V_mono HO0_1.out (fun _ hk => ⟨hk.1.1, ⟨hk.2, ⟨hk.1.2.1, ⟨hk.1.2.2.1, ⟨hk.1.2.2.2.1, hk.1.2.2.2.2⟩⟩⟩⟩⟩)), (by (with_reducible repeat (first | apply Kd.V_alloc | apply Kd.V_drewN | apply Kd.V_drew)); exact Kd.V_mono HO1_1.out (fun _ hk => ⟨hk.1.1, ⟨hk.2, ⟨hk.1.2.1, ⟨hk.1.2.2.1, ⟨hk.1.2.2.2.1, hk.1.2.2.2.2⟩⟩⟩⟩⟩)), (by (with_reducible repeat (first | apply Kd.V_alloc | apply Kd.V_drewN | apply Kd.V_drew)); exact Kd.V_mono HO1_2.out (fun _ hk => ⟨hk.1.1, ⟨hk.2, ⟨hk.1.2.1, ⟨hk.1.2.2.1, ⟨hk.1.2.2.2.1, hk.1.2.2.2.2⟩⟩⟩⟩⟩)), (kn_ HO210.out), (by (with_reducible repeat (first | apply Kd.N_alloc | apply Kd.N_drewN | apply Kd.N_drew)); exact Kd.N_mono HO213.out (fun _ hk => ⟨hk.1.1, ⟨hk.2, ⟨hk.1.2.1, ⟨hk.1.2.2.1, hk.1.2.2.2⟩⟩⟩⟩)), (bk_ BK199.out), (bk_ BK200.out), (bk_ BK201.out), (bl_)⟩)
         ·skip
          refine Kd.N_lit_step (Kd.slice 23 k23) _ 24 ?hg (N' := 33) ?hd (xs := ([l1_1] : List (List (S23)))) (inner := [.slice A1_1 l1_1.length c1_1]) (ok := (fun k_ => ((P0_0_ k_ ∨ P0_1_ k_ ∨ P1_1_ k_ ∨ P1_2_ k_) ∨ w.heap.size ≤ k_) ∧ k_ ≠ gb199 ∧ k_ ≠ gb200 ∧ k_ ≠ gb201)) (okp := (fun k_ => ((P0_0_ k_ ∨ P0_1_ k_ ∨ P1_1_ k_ ∨ P1_2_ k_) ∨ w.heap.size ≤ k_) ∧ k_ ≠ gb199 ∧ k_ ≠ gb200 ∧ k_ ≠ gb201)) ?hr ?hp (fun _ hk => hk) ((show ∀ k_, w60.heap.size ≤ k_ → (fun k_ => ((P0_0_ k_ ∨ P0_1_ k_ ∨ P1_1_ k_ ∨ P1_2_ k_) ∨ w.heap.size ≤ k_) ∧ k_ ≠ gb199 ∧ k_ ≠ gb200 ∧ k_ ≠ gb201) k_ from fun k_ hk => ⟨(.inr (Nat.le_trans (below_size (bl_)) hk)), Kd.freshB (g := gb199) (o := .cells #[.slice A0_0 l0_0.length c0_0, .slice A0_1 l0_1.length c0_1, .bool false] 58 (0, 0)) (bk_ BK199.out) k_ hk, Kd.freshB (g := gb200) (o := .cells #[.int .i64 a1_0, .slice A1_1 l1_1.length c1_1, .slice A1_2 l1_2.length c1_2] 39 (0, 0)) (bk_ BK200.out) k_ hk, Kd.freshB (g := gb201) (o := .cells #[.slice none 0 0, .slice none 0 0, .bool false] 58 (0, 0)) (bk_ BK201.out) k_ hk⟩) _ (Nat.le_refl _)) (Below.refl _ _) (Nat.le_refl _) (by simp) ?_; (case hd => rfl); (case hg => rfl); (case hr => first | (go_simp; done) | (go_simp; rfl)); (case hp => exact (Reps.one (show Kd.FK (Kd.slice 23 k23) _ _ l1_1 [.slice A1_1 l1_1.length c1_1] from (Kd.FK_slice_mk (Kd.V_reads' (Kd.V_mono (ok' := (fun k_ => ((P0_0_ k_ ∨ P0_1_ k_ ∨ P1_1_ k_ ∨ P1_2_ k_) ∨ w.heap.size ≤ k_) ∧ k_ ≠ gb199 ∧ k_ ≠ gb200 ∧ k_ ≠ gb201)) (kv_ (HO1_1.out)) (fun k_ hk => ⟨hk.1.1.1, ⟨hk.1.1.2, ⟨hk.1.2, hk.2⟩⟩⟩))).2.1 (Kd.V_F (Kd.V_mono (ok' := (fun k_ => ((P0_0_ k_ ∨ P0_1_ k_ ∨ P1_1_ k_ ∨ P1_2_ k_) ∨ w.heap.size ≤ k_) ∧ k_ ≠ gb199 ∧ k_ ≠ gb200 ∧ k_ ≠ gb201)) (kv_ (HO1_1.out)) (fun k_ hk => ⟨hk.1.1.1, ⟨hk.1.1.2, ⟨hk.1.2, hk.2⟩⟩⟩))))) (Reps.none _ _)))
          intro v212 w61 ho62 hb hg_ hnew_; clear hg_ hnew_; (first | rw [← Ny211.out] at ho62 | (simp only [Int.reduceToNat] at ho62; rw [← Ny211.out] at ho62)); have n0_ := am_ (Kd.V_elder' (kv_ HO0_0.out) (Kd.N_base ho62) hb); have n1_ := am_ (Kd.V_elder' (kv_ HO0_1.out) (Kd.N_base ho62) hb); have n2_ := am_ (Kd.V_elder' (kv_ HO1_1.out) (Kd.N_base ho62) hb); have n3_ := am_ (Kd.V_elder' (kv_ HO1_2.out) (Kd.N_base ho62) hb); have n4_ := am_ (Kd.N_lower ho62 (below_size (bl_))); have n5_ := am_ (blk_below (bk_ BK199.out) hb); have n6_ := am_ (blk_below (bk_ BK200.out) hb); have n7_ := am_ (blk_below (bk_ BK201.out) hb); have n8_ := am_ (below_step (bl_) hb); clear HO0_0; clear HO0_1; clear HO1_1; clear HO1_2; clear BK199; clear BK200; clear BK201; clear HB; have HO0_0 := n0_; have HO0_1 := n1_; have HO1_1 := n2_; have HO1_2 := n3_; have HO213 := n4_; have BK199 := n5_; have BK200 := n6_; have BK201 := n7_; have HB := n8_; clear n0_ n1_ n2_ n3_ n4_ n5_ n6_ n7_ n8_; clear hb ho62; refine hK.out _ _ ⟨bc_ BK199.out 0, bc_ BK199.out 1, bc_ BK199.out 2, bc_ BK200.out 0, bc_ BK200.out 1, bc_ BK200.out 2⟩ (fun hHeld => ?_); clear hK K; refine norm_ (a' := ?_) ?_ ?_; rotate_left
          ·show Act.put _ (some 33) _ = _
           simp only [Act.put, sa_, sz_, ss_, i64_w, i32_w]; rfl
          refine one_ (i := 0) (N := some 27) #[true, true, true, false, true, true, true, false, false, false] rfl rfl (one_of HT_.out (by kernel_rfl)) (by decide) (fun K hK => ?_)
          refine Kd.N_lit_step (Kd.slice 23 k23) _ 24 ?hg (N' := 27) ?hd (xs := ([] : List (List (S23)))) (inner := []) (ok := (fun k_ => ((P0_0_ k_ ∨ P0_1_ k_ ∨ P1_1_ k_ ∨ P1_2_ k_) ∨ w.heap.size ≤ k_) ∧ some k_ ≠ (v212 : Value).ownBlock ∧ k_ ≠ gb199 ∧ k_ ≠ gb200 ∧ k_ ≠ gb201)) (okp := (fun k_ => ((P0_0_ k_ ∨ P0_1_ k_ ∨ P1_1_ k_ ∨ P1_2_ k_) ∨ w.heap.size ≤ k_) ∧ some k_ ≠ (v212 : Value).ownBlock ∧ k_ ≠ gb199 ∧ k_ ≠ gb200 ∧ k_ ≠ gb201)) ?hr ?hp (fun _ hk => hk) ((show ∀ k_, w61.heap.size ≤ k_ → (fun k_ => ((P0_0_ k_ ∨ P0_1_ k_ ∨ P1_1_ k_ ∨ P1_2_ k_) ∨ w.heap.size ≤ k_) ∧ some k_ ≠ (v212 : Value).ownBlock ∧ k_ ≠ gb199 ∧ k_ ≠ gb200 ∧ k_ ≠ gb201) k_ from fun k_ hk => ⟨(.inr (Nat.le_trans (below_size (bl_)) hk)), Kd.fresh' (Kd.N_lt (kn_ HO213.out)) k_ hk, Kd.freshB (g := gb199) (o := .cells #[.slice A0_0 l0_0.length c0_0, .slice A0_1 l0_1.length c0_1, .bool false] 58 (0, 0)) (bk_ BK199.out) k_ hk, Kd.freshB (g := gb200) (o := .cells #[.int .i64 a1_0, .slice A1_1 l1_1.length c1_1, .slice A1_2 l1_2.length c1_2] 39 (0, 0)) (bk_ BK200.out) k_ hk, Kd.freshB (g := gb201) (o := .cells #[.slice none 0 0, .slice none 0 0, .bool false] 58 (0, 0)) (bk_ BK201.out) k_ hk⟩) _ (Nat.le_refl _)) (Below.refl _ _) (Nat.le_refl _) (by simp) ?_; (case hd => rfl); (case hg => rfl); (case hr => first | (go_simp; done) | (go_simp; rfl)); (case hp => exact (Reps.none _ _))
          intro v206 w63 ho64 hb hg_ hnew_; clear hg_ hnew_; (first | rw [← Ny205.out] at ho64 | (simp only [Int.reduceToNat] at ho64; rw [← Ny205.out] at ho64)); have n0_ := am_ (Kd.V_elder' (kv_ HO0_0.out) (Kd.N_base ho64) hb); have n1_ := am_ (Kd.V_elder' (kv_ HO0_1.out) (Kd.N_base ho64) hb); have n2_ := am_ (Kd.V_elder' (kv_ HO1_1.out) (Kd.N_base ho64) hb); have n3_ := am_ (Kd.V_elder' (kv_ HO1_2.out) (Kd.N_base ho64) hb); have n4_ := am_ (Kd.N_elder' (kn_ HO213.out) (Kd.N_base ho64) hb); have n5_ := am_ (Kd.N_lower ho64 (below_size (bl_))); have n6_ := am_ (blk_below (bk_ BK199.out) hb); have n7_ := am_ (blk_below (bk_ BK200.out) hb); have n8_ := am_ (blk_below (bk_ BK201.out) hb); have n9_ := am_ (below_step (bl_) hb); clear HO0_0; clear HO0_1; clear HO1_1; clear HO1_2; clear HO213; clear BK199; clear BK200; clear BK201; clear HB; have HO0_0 := n0_; have HO0_1 := n1_; have HO1_1 := n2_; have HO1_2 := n3_; have HO213 := n4_; have HO207 := n5_; have BK199 := n6_; have BK200 := n7_; have BK201 := n8_; have HB := n9_; clear n0_ n1_ n2_ n3_ n4_ n5_ n6_ n7_ n8_ n9_; clear hb ho64; refine hK.out _ _ ⟨bc_ BK199.out 0, bc_ BK199.out 1, bc_ BK199.out 2, bc_ BK200.out 0, bc_ BK200.out 1, bc_ BK200.out 2⟩ (fun hHeld => ?_); clear hK K; refine norm_ (a' := ?_) ?_ ?_; rotate_left
          ·show Act.put _ (some 27) _ = _
           simp only [Act.put, sa_, sz_, ss_, i64_w, i32_w]; rfl
          refine one_ (i := 3) (N := some 30) #[true, true, true, true, true, true, true, false, false, false] rfl rfl (one_of HT_.out (by kernel_rfl)) (by decide) (fun K hK => ?_); refine Kd.N_append_rows_step (Kd.slice 23 k23) (w0 := w) w.heap.size (by rfl) (.tmp 27) (.tmp 29) 26 24 (.slice none 0 0) 24 rfl Tryd.underlying26 info24 rfl (by decide) (by omega) v206 y205 l0_0 _ _ _ (fun k_ => ((P0_0_ k_ ∨ P0_1_ k_ ∨ P1_1_ k_ ∨ P1_2_ k_) ∨ w.heap.size ≤ k_) ∧ some k_ ≠ (v212 : Value).ownBlock ∧ k_ ≠ gb199 ∧ k_ ≠ gb200 ∧ k_ ≠ gb201) (fun k_ => ((fun k_ => ((P0_0_ k_ ∨ P0_1_ k_ ∨ P1_1_ k_ ∨ P1_2_ k_) ∨ w.heap.size ≤ k_) ∧ some k_ ≠ (v212 : Value).ownBlock ∧ k_ ≠ gb199 ∧ k_ ≠ gb200 ∧ k_ ≠ gb201)) k_ ∧ some k_ ≠ (v206 : Value).ownBlock) rfl rfl ?aO ?aR (fun _ hk => hk) ?aF ?aB ?aS ?aL ?_; (case aR => exact (by skip; exact Kd.V_F (Kd.V_mono (ok' := (fun k_ => ((fun k_ => ((P0_0_ k_ ∨ P0_1_ k_ ∨ P1_1_ k_ ∨ P1_2_ k_) ∨ w.heap.size ≤ k_) ∧ some k_ ≠ (v212 : Value).ownBlock ∧ k_ ≠ gb199 ∧ k_ ≠ gb200 ∧ k_ ≠ gb201)) k_ ∧ some k_ ≠ (v206 : Value).ownBlock)) (HO0_0.out) (fun k_ hk => ⟨⟨hk.1.1.1.1.1, ⟨hk.1.2, ⟨hk.1.1.1.1.2, ⟨hk.1.1.1.2, hk.1.1.2⟩⟩⟩⟩, hk.2⟩)))); (case aB => exact (bl_)); (case aF => exact (fun k_ hk => ⟨(.inr (Nat.le_trans (below_size (bl_)) hk)), Kd.fresh' (Kd.N_lt (kn_ HO213.out)) k_ hk, Kd.freshB (g := gb199) (o := .cells #[.slice A0_0 l0_0.length c0_0, .slice A0_1 l0_1.length c0_1, .bool false] 58 (0, 0)) (bk_ BK199.out) k_ hk, Kd.freshB (g := gb200) (o := .cells #[.int .i64 a1_0, .slice A1_1 l1_1.length c1_1, .slice A1_2 l1_2.length c1_2] 39 (0, 0)) (bk_ BK200.out) k_ hk, Kd.freshB (g := gb201) (o := .cells #[.slice none 0 0, .slice none 0 0, .bool false] 58 (0, 0)) (bk_ BK201.out) k_ hk⟩)); (case aO => exact (kn_ HO207.out)); (case aS => exact (below_size (bl_))); (case aL => have := LMc48.out; omega); intro v209 w65 ho hb hg hat; rw [← Ny208.out] at ho; have n0_ := am_ (Kd.V_afterv (ok := (fun k_ => ((P0_0_ k_ ∨ P0_1_ k_ ∨ P1_1_ k_ ∨ P1_2_ k_) ∨ w.heap.size ≤ k_) ∧ some k_ ≠ (v212 : Value).ownBlock ∧ k_ ≠ gb199 ∧ k_ ≠ gb200 ∧ k_ ≠ gb201)) (by (with_reducible repeat (first | apply Kd.V_alloc | apply Kd.V_drewN | apply Kd.V_drew)); exact Kd.V_mono HO0_0.out (fun _ hk => ⟨⟨hk.1.1.1.1.1, ⟨hk.1.2, ⟨hk.1.1.1.1.2, ⟨hk.1.1.1.2, hk.1.1.2⟩⟩⟩⟩, hk.2⟩)) hg hat); have n1_ := am_ (Kd.V_afterv (ok := (fun k_ => ((P0_0_ k_ ∨ P0_1_ k_ ∨ P1_1_ k_ ∨ P1_2_ k_) ∨ w.heap.size ≤ k_) ∧ some k_ ≠ (v212 : Value).ownBlock ∧ k_ ≠ gb199 ∧ k_ ≠ gb200 ∧ k_ ≠ gb201)) (by (with_reducible repeat (first | apply Kd.V_alloc | apply Kd.V_drewN | apply Kd.V_drew)); exact Kd.V_mono HO0_1.out (fun _ hk => ⟨⟨hk.1.1.1.1.1, ⟨hk.1.2, ⟨hk.1.1.1.1.2, ⟨hk.1.1.1.2, hk.1.1.2⟩⟩⟩⟩, hk.2⟩)) hg hat); have n2_ := am_ (Kd.V_afterv (ok := (fun k_ => ((P0_0_ k_ ∨ P0_1_ k_ ∨ P1_1_ k_ ∨ P1_2_ k_) ∨ w.heap.size ≤ k_) ∧ some k_ ≠ (v212 : Value).ownBlock ∧ k_ ≠ gb199 ∧ k_ ≠ gb200 ∧ k_ ≠ gb201)) (by (with_reducible repeat (first | apply Kd.V_alloc | apply Kd.V_drewN | apply Kd.V_drew)); exact Kd.V_mono HO1_1.out (fun _ hk => ⟨⟨hk.1.1.1.1.1, ⟨hk.1.2, ⟨hk.1.1.1.1.2, ⟨hk.1.1.1.2, hk.1.1.2⟩⟩⟩⟩, hk.2⟩)) hg hat); have n3_ := am_ (Kd.V_afterv (ok := (fun k_ => ((P0_0_ k_ ∨ P0_1_ k_ ∨ P1_1_ k_ ∨ P1_2_ k_) ∨ w.heap.size ≤ k_) ∧ some k_ ≠ (v212 : Value).ownBlock ∧ k_ ≠ gb199 ∧ k_ ≠ gb200 ∧ k_ ≠ gb201)) (by (with_reducible repeat (first | apply Kd.V_alloc | apply Kd.V_drewN | apply Kd.V_drew)); exact Kd.V_mono HO1_2.out (fun _ hk => ⟨⟨hk.1.1.1.1.1, ⟨hk.1.2, ⟨hk.1.1.1.1.2, ⟨hk.1.1.1.2, hk.1.1.2⟩⟩⟩⟩, hk.2⟩)) hg hat); have n4_ := am_ (blk_grown (g := gb199) (o := .cells #[.slice A0_0 l0_0.length c0_0, .slice A0_1 l0_1.length c0_1, .bool false] 58 (0, 0)) (bk_ BK199.out) hg (Kd.N_ne HO207.out BK199.out (by decide))); have n5_ := am_ (blk_grown (g := gb200) (o := .cells #[.int .i64 a1_0, .slice A1_1 l1_1.length c1_1, .slice A1_2 l1_2.length c1_2] 39 (0, 0)) (bk_ BK200.out) hg (Kd.N_ne HO207.out BK200.out (by decide))); have n6_ := am_ (blk_grown (g := gb201) (o := .cells #[.slice none 0 0, .slice none 0 0, .bool false] 58 (0, 0)) (bk_ BK201.out) hg (Kd.N_ne HO207.out BK201.out (by decide))); have n7_ := am_ (Kd.N_afterv (ok := (fun k_ => ((P0_0_ k_ ∨ P0_1_ k_ ∨ P1_1_ k_ ∨ P1_2_ k_) ∨ w.heap.size ≤ k_) ∧ k_ ≠ gb199 ∧ k_ ≠ gb200 ∧ k_ ≠ gb201)) (kn_ HO213.out) hg hat); have n8_ := am_ (hb); have n9_ := am_ (ho); clear HO0_0; clear HO0_1; clear HO1_1; clear HO1_2; clear BK199; clear BK200; clear BK201; clear HO213; clear HB; clear HO207; have HO0_0 := n0_; have HO0_1 := n1_; have HO1_1 := n2_; have HO1_2 := n3_; have BK199 := n4_; have BK200 := n5_; have BK201 := n6_; have HO213 := n7_; have HB := n8_; have HO210 := n9_; clear n0_ n1_ n2_ n3_ n4_ n5_ n6_ n7_ n8_ n9_; clear ho hb hg hat; refine hK.out _ _ ⟨bc_ BK199.out 0, bc_ BK199.out 1, bc_ BK199.out 2, bc_ BK200.out 0, bc_ BK200.out 1, bc_ BK200.out 2⟩ (fun hHeld => ?_); clear hK K; refine norm_ (a' := ?_) ?_ ?_; rotate_left
          ·show Act.put _ (some 30) _ = _
           simp only [Act.put, sa_, sz_, ss_, i64_w, i32_w]; rfl
          exact norm_ (by simp only [putAll, Act.put, sa_, sz_, ss_]) (hCont (v206, v209, v212) _ ⟨hHeld, (by (with_reducible repeat (first | apply Kd.V_alloc | apply Kd.V_drewN | apply Kd.V_drew)); exact Kd.V_mono HO0_0.out (fun _ hk => ⟨hk.1.1, ⟨hk.2, ⟨hk.1.2.1, ⟨hk.1.2.2.1, ⟨hk.1.2.2.2.1, hk.1.2.2.2.2⟩⟩⟩⟩⟩)), (by (with_reducible repeat (first | apply Kd.V_alloc | apply Kd.V_drewN | apply Kd.V_drew)); exact Kd.V_mono HO0_1.out (fun _ hk => ⟨hk.1.1, ⟨hk.2, ⟨hk.1.2.1, ⟨hk.1.2.2.1, ⟨hk.1.2.2.2.1, hk.1.2.2.2.2⟩⟩⟩⟩⟩)), (by (with_reducible repeat (first | apply Kd.V_alloc | apply Kd.V_drewN | apply Kd.V_drew)); exact Kd.V_mono HO1_1.out (fun _ hk => ⟨hk.1.1, ⟨hk.2, ⟨hk.1.2.1, ⟨hk.1.2.2.1, ⟨hk.1.2.2.2.1, hk.1.2.2.2.2⟩⟩⟩⟩⟩)), (by (with_reducible repeat (first | apply Kd.V_alloc | apply Kd.V_drewN | apply Kd.V_drew)); exact Kd.V_mono HO1_2.out (fun _ hk => ⟨hk.1.1, ⟨hk.2, ⟨hk.1.2.1, ⟨hk.1.2.2.1, ⟨hk.1.2.2.2.1, hk.1.2.2.2.2⟩⟩⟩⟩⟩)), (kn_ HO210.out), (by (with_reducible repeat (first | apply Kd.N_alloc | apply Kd.N_drewN | apply Kd.N_drew)); exact Kd.N_mono HO213.out (fun _ hk => ⟨hk.1.1, ⟨hk.2, ⟨hk.1.2.1, ⟨hk.1.2.2.1, hk.1.2.2.2⟩⟩⟩⟩)), (bk_ BK199.out), (bk_ BK200.out), (bk_ BK201.out), (bl_)⟩)
        rintro ⟨v206, v209, v212⟩ w66 ⟨hS_, h0_, h1_, h2_, h3_, h4_, h5_, h6_, h7_, h8_, h9_⟩; have n0_ : Aside0 (Kd.V (Kd.slice 23 k23) 24 w66 w.heap.size (fun k_ => ((P0_0_ k_ ∨ P0_1_ k_ ∨ P1_1_ k_ ∨ P1_2_ k_) ∨ w.heap.size ≤ k_) ∧ some k_ ≠ (v209 : Value).ownBlock ∧ some k_ ≠ (v212 : Value).ownBlock ∧ k_ ≠ gb199 ∧ k_ ≠ gb200 ∧ k_ ≠ gb201) (.slice A0_0 l0_0.length c0_0) l0_0) := ⟨h0_⟩; have n1_ : Aside0 (Kd.V (Kd.slice 23 k23) 24 w66 w.heap.size (fun k_ => ((P0_0_ k_ ∨ P0_1_ k_ ∨ P1_1_ k_ ∨ P1_2_ k_) ∨ w.heap.size ≤ k_) ∧ some k_ ≠ (v209 : Value).ownBlock ∧ some k_ ≠ (v212 : Value).ownBlock ∧ k_ ≠ gb199 ∧ k_ ≠ gb200 ∧ k_ ≠ gb201) (.slice A0_1 l0_1.length c0_1) l0_1) := ⟨h1_⟩; have n2_ : Aside0 (Kd.V k23 23 w66 w.heap.size (fun k_ => ((P0_0_ k_ ∨ P0_1_ k_ ∨ P1_1_ k_ ∨ P1_2_ k_) ∨ w.heap.size ≤ k_) ∧ some k_ ≠ (v209 : Value).ownBlock ∧ some k_ ≠ (v212 : Value).ownBlock ∧ k_ ≠ gb199 ∧ k_ ≠ gb200 ∧ k_ ≠ gb201) (.slice A1_1 l1_1.length c1_1) l1_1) := ⟨h2_⟩; have n3_ : Aside0 (Kd.V k23 23 w66 w.heap.size (fun k_ => ((P0_0_ k_ ∨ P0_1_ k_ ∨ P1_1_ k_ ∨ P1_2_ k_) ∨ w.heap.size ≤ k_) ∧ some k_ ≠ (v209 : Value).ownBlock ∧ some k_ ≠ (v212 : Value).ownBlock ∧ k_ ≠ gb199 ∧ k_ ≠ gb200 ∧ k_ ≠ gb201) (.slice A1_2 l1_2.length c1_2) l1_2) := ⟨h3_⟩; have n4_ : Aside0 (Kd.N (Kd.slice 23 k23) 24 w66 w.heap.size (fun k_ => ((P0_0_ k_ ∨ P0_1_ k_ ∨ P1_1_ k_ ∨ P1_2_ k_) ∨ w.heap.size ≤ k_) ∧ some k_ ≠ (v212 : Value).ownBlock ∧ k_ ≠ gb199 ∧ k_ ≠ gb200 ∧ k_ ≠ gb201) v209 y208) := ⟨h4_⟩; have n5_ : Aside0 (Kd.N (Kd.slice 23 k23) 24 w66 w.heap.size (fun k_ => ((P0_0_ k_ ∨ P0_1_ k_ ∨ P1_1_ k_ ∨ P1_2_ k_) ∨ w.heap.size ≤ k_) ∧ some k_ ≠ (v209 : Value).ownBlock ∧ k_ ≠ gb199 ∧ k_ ≠ gb200 ∧ k_ ≠ gb201) v212 y211) := ⟨h5_⟩; have n6_ : Aside0 (w66.heap[gb199]? = some (.cells #[.slice A0_0 l0_0.length c0_0, .slice A0_1 l0_1.length c0_1, .bool false] 58 (0, 0))) := ⟨h6_⟩; have n7_ : Aside0 (w66.heap[gb200]? = some (.cells #[.int .i64 a1_0, .slice A1_1 l1_1.length c1_1, .slice A1_2 l1_2.length c1_2] 39 (0, 0))) := ⟨h7_⟩; have n8_ : Aside0 (w66.heap[gb201]? = some (.cells #[.slice none 0 0, .slice none 0 0, .bool false] 58 (0, 0))) := ⟨h8_⟩; have n9_ : Aside0 (Below w.heap.size w w66) := ⟨h9_⟩; clear HO0_0; clear HO0_1; clear HO1_1; clear HO1_2; clear BK199; clear BK200; clear BK201; clear HB; clear h0_ h1_ h2_ h3_ h4_ h5_ h6_ h7_ h8_ h9_; have HO0_0 := n0_; have HO0_1 := n1_; have HO1_1 := n2_; have HO1_2 := n3_; have HO210 := n4_; have HO213 := n5_; have BK199 := n6_; have BK200 := n7_; have BK201 := n8_; have HB := n9_; clear n0_ n1_ n2_ n3_ n4_ n5_ n6_ n7_ n8_ n9_; have hHeld : w66.cell? ⟨gb199, 0, none⟩ = some (.slice A0_0 l0_0.length c0_0) ∧ w66.cell? ⟨gb199, 1, none⟩ = some (.slice A0_1 l0_1.length c0_1) ∧ w66.cell? ⟨gb199, 2, none⟩ = some (.bool false) ∧ w66.cell? ⟨gb200, 0, none⟩ = some (.int .i64 a1_0) ∧ w66.cell? ⟨gb200, 1, none⟩ = some (.slice A1_1 l1_1.length c1_1) ∧ w66.cell? ⟨gb200, 2, none⟩ = some (.slice A1_2 l1_2.length c1_2) := hS_; obtain ⟨Ao68, co68, eo68⟩ := Kd.N_slice HO213.out; (first | subst eo68 | (injection eo68 with f1_ f2_ f3_; have f4_ := f1_.symm; have f5_ := f3_.symm; clear f1_ f2_ f3_; subst f4_; subst f5_)); refine norm_ (a' := ?_) ?_ ?_; rotate_left
        ·simp only [putAll, Act.put, sa_, sz_, ss_]
         rfl
        refine one_ (i := 7) (N := some 34) #[true, true, true, true, true, true, true, true, false, false] rfl rfl (one_of HT_.out (by kernel_rfl)) (by decide) (fun K hK => ?_); refine Kd.N_append_rows_step (Kd.slice 23 k23) (w0 := w) w.heap.size (by rfl) (.tmp 30) (.tmp 33) 26 24 (.slice none 0 0) 24 rfl Tryd.underlying26 info24 rfl (by decide) (by omega) v209 y208 y211 _ _ _ (fun k_ => ((P0_0_ k_ ∨ P0_1_ k_ ∨ P1_1_ k_ ∨ P1_2_ k_) ∨ w.heap.size ≤ k_) ∧ k_ ≠ gb199 ∧ k_ ≠ gb200 ∧ k_ ≠ gb201) (fun k_ => ((fun k_ => ((P0_0_ k_ ∨ P0_1_ k_ ∨ P1_1_ k_ ∨ P1_2_ k_) ∨ w.heap.size ≤ k_) ∧ k_ ≠ gb199 ∧ k_ ≠ gb200 ∧ k_ ≠ gb201)) k_ ∧ some k_ ≠ (v209 : Value).ownBlock) rfl rfl ?aO ?aR (fun _ hk => hk) ?aF ?aB ?aS ?aL ?_; (case aR => exact (by skip; exact Kd.N_F (Kd.N_mono (ok' := (fun k_ => ((fun k_ => ((P0_0_ k_ ∨ P0_1_ k_ ∨ P1_1_ k_ ∨ P1_2_ k_) ∨ w.heap.size ≤ k_) ∧ k_ ≠ gb199 ∧ k_ ≠ gb200 ∧ k_ ≠ gb201)) k_ ∧ some k_ ≠ (v209 : Value).ownBlock)) (HO213.out) (fun k_ hk => ⟨⟨hk.1, ⟨hk.2.2.1, ⟨hk.2.2.2.1, hk.2.2.2.2⟩⟩⟩, hk.2.1⟩)))); (case aB => exact (bl_)); (case aF => exact (fun k_ hk => ⟨(.inr (Nat.le_trans (below_size (bl_)) hk)), Kd.freshB (g := gb199) (o := .cells #[.slice A0_0 l0_0.length c0_0, .slice A0_1 l0_1.length c0_1, .bool false] 58 (0, 0)) (bk_ BK199.out) k_ hk, Kd.freshB (g := gb200) (o := .cells #[.int .i64 a1_0, .slice A1_1 l1_1.length c1_1, .slice A1_2 l1_2.length c1_2] 39 (0, 0)) (bk_ BK200.out) k_ hk, Kd.freshB (g := gb201) (o := .cells #[.slice none 0 0, .slice none 0 0, .bool false] 58 (0, 0)) (bk_ BK201.out) k_ hk⟩)); (case aO => exact (by (with_reducible repeat (first | apply Kd.N_alloc | apply Kd.N_drewN | apply Kd.N_drew)); exact Kd.N_mono HO210.out (fun _ hk => ⟨hk.1, ⟨hk.2.2.1, ⟨hk.2.2.2.1, hk.2.2.2.2⟩⟩⟩))); (case aS => exact (below_size (bl_))); (case aL => have := LMc49.out; omega); intro v215 w67 ho hb hg hat; rw [← Ny214.out] at ho; have n0_ := am_ (Kd.V_afterv (ok := (fun k_ => ((P0_0_ k_ ∨ P0_1_ k_ ∨ P1_1_ k_ ∨ P1_2_ k_) ∨ w.heap.size ≤ k_) ∧ some k_ ≠ (.slice Ao68 y211.length co68 : Value).ownBlock ∧ k_ ≠ gb199 ∧ k_ ≠ gb200 ∧ k_ ≠ gb201)) (by (with_reducible repeat (first | apply Kd.V_alloc | apply Kd.V_drewN | apply Kd.V_drew)); exact Kd.V_mono HO0_0.out (fun _ hk => ⟨⟨hk.1, ⟨hk.2.2.1, ⟨hk.2.2.2.1, ⟨hk.2.2.2.2.1, hk.2.2.2.2.2⟩⟩⟩⟩, hk.2.1⟩)) hg hat); have n1_ := am_ (Kd.V_afterv (ok := (fun k_ => ((P0_0_ k_ ∨ P0_1_ k_ ∨ P1_1_ k_ ∨ P1_2_ k_) ∨ w.heap.size ≤ k_) ∧ some k_ ≠ (.slice Ao68 y211.length co68 : Value).ownBlock ∧ k_ ≠ gb199 ∧ k_ ≠ gb200 ∧ k_ ≠ gb201)) (by (with_reducible repeat (first | apply Kd.V_alloc | apply Kd.V_drewN | apply Kd.V_drew)); exact Kd.V_mono HO0_1.out (fun _ hk => ⟨⟨hk.1, ⟨hk.2.2.1, ⟨hk.2.2.2.1, ⟨hk.2.2.2.2.1, hk.2.2.2.2.2⟩⟩⟩⟩, hk.2.1⟩)) hg hat); have n2_ := am_ (Kd.V_afterv (ok := (fun k_ => ((P0_0_ k_ ∨ P0_1_ k_ ∨ P1_1_ k_ ∨ P1_2_ k_) ∨ w.heap.size ≤ k_) ∧ some k_ ≠ (.slice Ao68 y211.length co68 : Value).ownBlock ∧ k_ ≠ gb199 ∧ k_ ≠ gb200 ∧ k_ ≠ gb201)) (by (with_reducible repeat (first | apply Kd.V_alloc | apply Kd.V_drewN | apply Kd.V_drew)); exact Kd.V_mono HO1_1.out (fun _ hk => ⟨⟨hk.1, ⟨hk.2.2.1, ⟨hk.2.2.2.1, ⟨hk.2.2.2.2.1, hk.2.2.2.2.2⟩⟩⟩⟩, hk.2.1⟩)) hg hat); have n3_ := am_ (Kd.V_afterv (ok := (fun k_ => ((P0_0_ k_ ∨ P0_1_ k_ ∨ P1_1_ k_ ∨ P1_2_ k_) ∨ w.heap.size ≤ k_) ∧ some k_ ≠ (.slice Ao68 y211.length co68 : Value).ownBlock ∧ k_ ≠ gb199 ∧ k_ ≠ gb200 ∧ k_ ≠ gb201)) (by (with_reducible repeat (first | apply Kd.V_alloc | apply Kd.V_drewN | apply Kd.V_drew)); exact Kd.V_mono HO1_2.out (fun _ hk => ⟨⟨hk.1, ⟨hk.2.2.1, ⟨hk.2.2.2.1, ⟨hk.2.2.2.2.1, hk.2.2.2.2.2⟩⟩⟩⟩, hk.2.1⟩)) hg hat); have n4_ := am_ (blk_grown (g := gb199) (o := .cells #[.slice A0_0 l0_0.length c0_0, .slice A0_1 l0_1.length c0_1, .bool false] 58 (0, 0)) (bk_ BK199.out) hg (Kd.N_ne HO210.out BK199.out (by decide))); have n5_ := am_ (blk_grown (g := gb200) (o := .cells #[.int .i64 a1_0, .slice A1_1 l1_1.length c1_1, .slice A1_2 l1_2.length c1_2] 39 (0, 0)) (bk_ BK200.out) hg (Kd.N_ne HO210.out BK200.out (by decide))); have n6_ := am_ (blk_grown (g := gb201) (o := .cells #[.slice none 0 0, .slice none 0 0, .bool false] 58 (0, 0)) (bk_ BK201.out) hg (Kd.N_ne HO210.out BK201.out (by decide))); have n7_ := am_ (Kd.N_afterv (ok := (fun k_ => ((P0_0_ k_ ∨ P0_1_ k_ ∨ P1_1_ k_ ∨ P1_2_ k_) ∨ w.heap.size ≤ k_) ∧ k_ ≠ gb199 ∧ k_ ≠ gb200 ∧ k_ ≠ gb201)) (by (with_reducible repeat (first | apply Kd.N_alloc | apply Kd.N_drewN | apply Kd.N_drew)); exact Kd.N_mono HO213.out (fun _ hk => ⟨⟨hk.1, ⟨hk.2.2.1, ⟨hk.2.2.2.1, hk.2.2.2.2⟩⟩⟩, hk.2.1⟩)) hg hat); have n8_ := am_ (hb); have n9_ := am_ (ho); clear HO0_0; clear HO0_1; clear HO1_1; clear HO1_2; clear BK199; clear BK200; clear BK201; clear HO213; clear HB; clear HO210; have HO0_0 := n0_; have HO0_1 := n1_; have HO1_1 := n2_; have HO1_2 := n3_; have BK199 := n4_; have BK200 := n5_; have BK201 := n6_; have HO213 := n7_; have HB := n8_; have HO216 := n9_; clear n0_ n1_ n2_ n3_ n4_ n5_ n6_ n7_ n8_ n9_; clear ho hb hg hat; obtain ⟨Ao69, co69, eo69⟩ := Kd.N_slice HO216.out; (first | subst eo69 | (injection eo69 with f1_ f2_ f3_; have f4_ := f1_.symm; have f5_ := f3_.symm; clear f1_ f2_ f3_; subst f4_; subst f5_)); refine hK.out _ _ ⟨bc_ BK199.out 0, bc_ BK199.out 1, bc_ BK199.out 2, bc_ BK200.out 0, bc_ BK200.out 1, bc_ BK200.out 2⟩ (fun hHeld => ?_); clear hK K; refine norm_ (a' := ?_) ?_ ?_; rotate_left
        ·show Act.put _ (some 34) _ = _
         simp only [Act.put, sa_, sz_, ss_, i64_w, i32_w]; rfl
        refine pure_ (i := 8) (N := some 35) (v := ?_) (a' := ?_) #[true, true, true, true, true, true, true, true, true, false] rfl rfl (any_of HT_.out (by kernel_rfl)) (fun _ _ _ h => h) (Or.inl ⟨by rfl, ?_⟩) ?_ ?_; rotate_left
        ·intro w'
         go_simp; (with_reducible rfl)
        rotate_left
        ·simp only [Act.put, sa_, sz_, ss_, i64_w, i32_w]
         rfl
        refine last_ (i := 9) (N := none) #[true, true, true, true, true, true, true, true, true, true] rfl rfl (one_of HT_.out (by kernel_rfl)) (by decide) (fun K hK => ?_); have hs70 : w67.cell? ⟨gb199, 0, none⟩ = some (.slice A0_0 l0_0.length c0_0) := bc_ BK199.out 0; have hfs70 := blk_frozen BK199.out 0; have hns70_1 := NB200_199.out; have hns70_2 := NB201_199.out; have hms70_1 := NB199_200.out; have hms70_2 := NB199_201.out; refine skip_ (w1 := ?_) (by rfl) rfl ?_ ?_; rotate_left
        ·go_simp
         rfl
        refine hK.out _ _ ?_; clear hK K; refine done_ (done_of HT_.out (by kernel_rfl)) ?_
        try go_wp2
        have n0_ : Aside0 (Kd.V (Kd.slice 23 k23) 24 (w67.setCell ⟨gb199, 0, none⟩ (.slice Ao69 y214.length co69)) w.heap.size (fun k_ => ((P0_0_ k_ ∨ P0_1_ k_ ∨ P1_1_ k_ ∨ P1_2_ k_) ∨ w.heap.size ≤ k_) ∧ some k_ ≠ (.slice Ao68 y211.length co68 : Value).ownBlock ∧ some k_ ≠ (.slice Ao69 y214.length co69 : Value).ownBlock ∧ k_ ≠ gb199 ∧ k_ ≠ gb200 ∧ k_ ≠ gb201) (.slice A0_0 l0_0.length c0_0) l0_0) := ⟨by (with_reducible repeat (first | apply Kd.V_alloc | apply Kd.V_drewN | apply Kd.V_drew)); exact Kd.V_mono (fv_ gb199 0 (Kd.V_mono HO0_0.out (fun k_ hk => (⟨hk, hk.1.2.2.1⟩ : _ ∧ k_ ≠ gb199))) (fun _ hk => hk.2) (.slice Ao69 y214.length co69)) (fun _ hk => ⟨hk.1.1.1, ⟨hk.1.1.2.1, ⟨hk.1.2, ⟨hk.1.1.2.2.1, ⟨hk.1.1.2.2.2.1, hk.1.1.2.2.2.2⟩⟩⟩⟩⟩)⟩; have n1_ : Aside0 (Kd.V (Kd.slice 23 k23) 24 (w67.setCell ⟨gb199, 0, none⟩ (.slice Ao69 y214.length co69)) w.heap.size (fun k_ => ((P0_0_ k_ ∨ P0_1_ k_ ∨ P1_1_ k_ ∨ P1_2_ k_) ∨ w.heap.size ≤ k_) ∧ some k_ ≠ (.slice Ao68 y211.length co68 : Value).ownBlock ∧ some k_ ≠ (.slice Ao69 y214.length co69 : Value).ownBlock ∧ k_ ≠ gb199 ∧ k_ ≠ gb200 ∧ k_ ≠ gb201) (.slice A0_1 l0_1.length c0_1) l0_1) := ⟨by (with_reducible repeat (first | apply Kd.V_alloc | apply Kd.V_drewN | apply Kd.V_drew)); exact Kd.V_mono (fv_ gb199 0 (Kd.V_mono HO0_1.out (fun k_ hk => (⟨hk, hk.1.2.2.1⟩ : _ ∧ k_ ≠ gb199))) (fun _ hk => hk.2) (.slice Ao69 y214.length co69)) (fun _ hk => ⟨hk.1.1.1, ⟨hk.1.1.2.1, ⟨hk.1.2, ⟨hk.1.1.2.2.1, ⟨hk.1.1.2.2.2.1, hk.1.1.2.2.2.2⟩⟩⟩⟩⟩)⟩; have n2_ : Aside0 (Kd.V k23 23 (w67.setCell ⟨gb199, 0, none⟩ (.slice Ao69 y214.length co69)) w.heap.size (fun k_ => ((P0_0_ k_ ∨ P0_1_ k_ ∨ P1_1_ k_ ∨ P1_2_ k_) ∨ w.heap.size ≤ k_) ∧ some k_ ≠ (.slice Ao68 y211.length co68 : Value).ownBlock ∧ some k_ ≠ (.slice Ao69 y214.length co69 : Value).ownBlock ∧ k_ ≠ gb199 ∧ k_ ≠ gb200 ∧ k_ ≠ gb201) (.slice A1_1 l1_1.length c1_1) l1_1) := ⟨by (with_reducible repeat (first | apply Kd.V_alloc | apply Kd.V_drewN | apply Kd.V_drew)); exact Kd.V_mono (fv_ gb199 0 (Kd.V_mono HO1_1.out (fun k_ hk => (⟨hk, hk.1.2.2.1⟩ : _ ∧ k_ ≠ gb199))) (fun _ hk => hk.2) (.slice Ao69 y214.length co69)) (fun _ hk => ⟨hk.1.1.1, ⟨hk.1.1.2.1, ⟨hk.1.2, ⟨hk.1.1.2.2.1, ⟨hk.1.1.2.2.2.1, hk.1.1.2.2.2.2⟩⟩⟩⟩⟩)⟩; have n3_ : Aside0 (Kd.V k23 23 (w67.setCell ⟨gb199, 0, none⟩ (.slice Ao69 y214.length co69)) w.heap.size (fun k_ => ((P0_0_ k_ ∨ P0_1_ k_ ∨ P1_1_ k_ ∨ P1_2_ k_) ∨ w.heap.size ≤ k_) ∧ some k_ ≠ (.slice Ao68 y211.length co68 : Value).ownBlock ∧ some k_ ≠ (.slice Ao69 y214.length co69 : Value).ownBlock ∧ k_ ≠ gb199 ∧ k_ ≠ gb200 ∧ k_ ≠ gb201) (.slice A1_2 l1_2.length c1_2) l1_2) := ⟨by (with_reducible repeat (first | apply Kd.V_alloc | apply Kd.V_drewN | apply Kd.V_drew)); exact Kd.V_mono (fv_ gb199 0 (Kd.V_mono HO1_2.out (fun k_ hk => (⟨hk, hk.1.2.2.1⟩ : _ ∧ k_ ≠ gb199))) (fun _ hk => hk.2) (.slice Ao69 y214.length co69)) (fun _ hk => ⟨hk.1.1.1, ⟨hk.1.1.2.1, ⟨hk.1.2, ⟨hk.1.1.2.2.1, ⟨hk.1.1.2.2.2.1, hk.1.1.2.2.2.2⟩⟩⟩⟩⟩)⟩; have n4_ : Aside0 (Kd.N (Kd.slice 23 k23) 24 (w67.setCell ⟨gb199, 0, none⟩ (.slice Ao69 y214.length co69)) w.heap.size (fun k_ => ((P0_0_ k_ ∨ P0_1_ k_ ∨ P1_1_ k_ ∨ P1_2_ k_) ∨ w.heap.size ≤ k_) ∧ some k_ ≠ (.slice Ao69 y214.length co69 : Value).ownBlock ∧ k_ ≠ gb199 ∧ k_ ≠ gb200 ∧ k_ ≠ gb201) (.slice Ao68 y211.length co68) y211) := ⟨by (with_reducible repeat (first | apply Kd.N_alloc | apply Kd.N_drewN | apply Kd.N_drew)); exact Kd.N_mono (Kd.N_far (p := ⟨gb199, 0, none⟩) (Kd.N_mono HO213.out (fun k_ hk => (⟨hk, hk.1.2.1⟩ : _ ∧ k_ ≠ gb199))) (fun _ hk => hk.2) (.slice Ao69 y214.length co69)) (fun _ hk => ⟨hk.1.1.1, ⟨hk.1.2, ⟨hk.1.1.2.1, ⟨hk.1.1.2.2.1, hk.1.1.2.2.2⟩⟩⟩⟩)⟩; have n5_ : Aside0 (Kd.N (Kd.slice 23 k23) 24 (w67.setCell ⟨gb199, 0, none⟩ (.slice Ao69 y214.length co69)) w.heap.size (fun k_ => ((P0_0_ k_ ∨ P0_1_ k_ ∨ P1_1_ k_ ∨ P1_2_ k_) ∨ w.heap.size ≤ k_) ∧ k_ ≠ gb199 ∧ k_ ≠ gb200 ∧ k_ ≠ gb201) (.slice Ao69 y214.length co69) y214) := ⟨by (with_reducible repeat (first | apply Kd.N_alloc | apply Kd.N_drewN | apply Kd.N_drew)); exact Kd.N_mono (Kd.N_far (p := ⟨gb199, 0, none⟩) (Kd.N_mono HO216.out (fun k_ hk => (⟨hk, hk.2.1⟩ : _ ∧ k_ ≠ gb199))) (fun _ hk => hk.2) (.slice Ao69 y214.length co69)) (fun _ hk => ⟨hk.1.1, ⟨hk.1.2.1, ⟨hk.1.2.2.1, hk.1.2.2.2⟩⟩⟩)⟩; have n6_ : Aside0 ((w67.setCell ⟨gb199, 0, none⟩ (.slice Ao69 y214.length co69)).heap[gb199]? = some (.cells #[.slice Ao69 y214.length co69, .slice A0_1 l0_1.length c0_1, .bool false] 58 (0, 0))) := ⟨by refine bp_ ?_; refine blk_put (cs := #[.slice A0_0 l0_0.length c0_0, .slice A0_1 l0_1.length c0_1, .bool false]) ?_ 0 _ rfl; refine bp_ ?_; exact BK199.out⟩; have n7_ : Aside0 ((w67.setCell ⟨gb199, 0, none⟩ (.slice Ao69 y214.length co69)).heap[gb200]? = some (.cells #[.int .i64 a1_0, .slice A1_1 l1_1.length c1_1, .slice A1_2 l1_2.length c1_2] 39 (0, 0))) := ⟨by refine bp_ ?_; refine blk_far ?_ NB200_199.out _; refine bp_ ?_; exact BK200.out⟩; have n8_ : Aside0 ((w67.setCell ⟨gb199, 0, none⟩ (.slice Ao69 y214.length co69)).heap[gb201]? = some (.cells #[.slice none 0 0, .slice none 0 0, .bool false] 58 (0, 0))) := ⟨by refine bp_ ?_; refine blk_far ?_ NB201_199.out _; refine bp_ ?_; exact BK201.out⟩; have n9_ : Aside0 (Below w.heap.size w (w67.setCell ⟨gb199, 0, none⟩ (.slice Ao69 y214.length co69))) := ⟨bl_⟩; (try clear HO0_0); (try clear HO0_1); (try clear HO1_1); (try clear HO1_2); (try clear HO213); (try clear HO216); (try clear BK199); (try clear BK200); (try clear BK201); (try clear HB)
        generalize (w67.setCell ⟨gb199, 0, none⟩ (.slice Ao69 y214.length co69)) = w71 at n0_ n1_ n2_ n3_ n4_ n5_ n6_ n7_ n8_ n9_ ⊢
        have HO0_0 := n0_; have HO0_1 := n1_; have HO1_1 := n2_; have HO1_2 := n3_; have HO213 := n4_; have HO216 := n5_; have BK199 := n6_; have BK200 := n7_; have BK201 := n8_; have HB := n9_; clear n0_ n1_ n2_ n3_ n4_ n5_ n6_ n7_ n8_ n9_; have n0_ := am_ (Kd.V_drew HO0_0.out); have n1_ := am_ (Kd.V_drew HO0_1.out); have n2_ := am_ (Kd.V_drew HO1_1.out); have n3_ := am_ (Kd.V_drew HO1_2.out); have n4_ := am_ (Kd.N_drew HO213.out); have n5_ := am_ (Kd.N_drew HO216.out); have n6_ := am_ (blk_drew BK199.out); have n7_ := am_ (blk_drew BK200.out); have n8_ := am_ (blk_drew BK201.out); have n9_ := am_ (below_drew1 HB.out); clear HO0_0; clear HO0_1; clear HO1_1; clear HO1_2; clear HO213; clear HO216; clear BK199; clear BK200; clear BK201; clear HB; have HO0_0 := n0_; have HO0_1 := n1_; have HO1_1 := n2_; have HO1_2 := n3_; have HO213 := n4_; have HO216 := n5_; have BK199 := n6_; have BK200 := n7_; have BK201 := n8_; have HB := n9_; clear n0_ n1_ n2_ n3_ n4_ n5_ n6_ n7_ n8_ n9_
        refine start_ (n := 10) (S := fun w' => w'.cell? ⟨gb199, 0, none⟩ = some (.slice Ao69 y214.length co69) ∧ w'.cell? ⟨gb199, 1, none⟩ = some (.slice A0_1 l0_1.length c0_1) ∧ w'.cell? ⟨gb199, 2, none⟩ = some (.bool false) ∧ w'.cell? ⟨gb200, 0, none⟩ = some (.int .i64 a1_0) ∧ w'.cell? ⟨gb200, 1, none⟩ = some (.slice A1_1 l1_1.length c1_1) ∧ w'.cell? ⟨gb200, 2, none⟩ = some (.slice A1_2 l1_2.length c1_2)) (ds := [9]) #[false, false, false, false, false, false, false, false, false, false] (by kernel_rfl) rfl rfl ⟨bc_ BK199.out 0, bc_ BK199.out 1, bc_ BK199.out 2, bc_ BK200.out 0, bc_ BK200.out 1, bc_ BK200.out 2⟩ (fun hHeld => ?_); refine with_tabW r34_Go.tab11 r34_Go.bits11 (fun HT_ HW_ => ?_)
        generalize w71.drew = w72 at HO0_0 HO0_1 HO1_1 HO1_2 HO213 HO216 BK199 BK200 BK201 HB hHeld ⊢
        refine pure_ (i := 1) (N := some 37) (v := ?_) (a' := ?_) #[false, true, false, false, false, false, false, false, false, false] rfl rfl (any_of HT_.out (by kernel_rfl)) (fun _ _ _ h => h) (Or.inl ⟨by rfl, ?_⟩) ?_ ?_; rotate_left
        ·intro w'
         go_simp; (with_reducible rfl)
        rotate_left
        ·simp only [Act.put, sa_, sz_, ss_, i64_w, i32_w]
         rfl
        refine pure_ (i := 4) (N := some 40) (v := ?_) (a' := ?_) #[false, true, false, false, true, false, false, false, false, false] rfl rfl (any_of HT_.out (by kernel_rfl)) (fun _ _ _ h => h) (Or.inl ⟨by rfl, ?_⟩) ?_ ?_; rotate_left
        ·intro w'
         go_simp; (with_reducible rfl)
        rotate_left
        ·simp only [Act.put, sa_, sz_, ss_, i64_w, i32_w]
         rfl
        refine take_ (i := 2) (N := some 38) (v := ?_) (a' := ?_) #[false, true, true, false, true, false, false, false, false, false] rfl rfl (take_ofW HT_.out HW_.out (by kernel_rfl)) (fun _ _ _ h => h) (Or.inl ⟨by rfl, ?_⟩) hHeld ?_ ?_; rotate_left
        ·rintro w' ⟨s0, s1, s2, s3, s4, s5⟩
         go_simp; (with_reducible rfl)
        rotate_left
        ·simp only [Act.put, sa_, sz_, ss_, i64_w, i32_w]
         rfl
        refine take_ (i := 5) (N := some 41) (v := ?_) (a' := ?_) #[false, true, true, false, true, true, false, false, false, false] rfl rfl (take_ofW HT_.out HW_.out (by kernel_rfl)) (fun _ _ _ h => h) (Or.inl ⟨by rfl, ?_⟩) hHeld ?_ ?_; rotate_left
        ·rintro w' ⟨s0, s1, s2, s3, s4, s5⟩
         go_simp; (with_reducible rfl)
        rotate_left
        ·simp only [Act.put, sa_, sz_, ss_, i64_w, i32_w]
         rfl
        refine join_ (σ := Value × Value × Value) 3 #[true, true, true, true, true, true, true, false, false, false] (fun s_ => [(36, s_.1), (39, s_.2.1), (42, s_.2.2)]) (fun s_ w' => (w'.cell? ⟨gb199, 0, none⟩ = some (.slice Ao69 y214.length co69) ∧ w'.cell? ⟨gb199, 1, none⟩ = some (.slice A0_1 l0_1.length c0_1) ∧ w'.cell? ⟨gb199, 2, none⟩ = some (.bool false) ∧ w'.cell? ⟨gb200, 0, none⟩ = some (.int .i64 a1_0) ∧ w'.cell? ⟨gb200, 1, none⟩ = some (.slice A1_1 l1_1.length c1_1) ∧ w'.cell? ⟨gb200, 2, none⟩ = some (.slice A1_2 l1_2.length c1_2)) ∧ (Kd.V (Kd.slice 23 k23) 24 w' w.heap.size (fun k_ => ((P0_0_ k_ ∨ P0_1_ k_ ∨ P1_1_ k_ ∨ P1_2_ k_) ∨ w.heap.size ≤ k_) ∧ some k_ ≠ (.slice Ao68 y211.length co68 : Value).ownBlock ∧ some k_ ≠ (.slice Ao69 y214.length co69 : Value).ownBlock ∧ some k_ ≠ (s_.2.1 : Value).ownBlock ∧ some k_ ≠ (s_.2.2 : Value).ownBlock ∧ k_ ≠ gb199 ∧ k_ ≠ gb200 ∧ k_ ≠ gb201) (.slice A0_0 l0_0.length c0_0) l0_0) ∧ (Kd.V (Kd.slice 23 k23) 24 w' w.heap.size (fun k_ => ((P0_0_ k_ ∨ P0_1_ k_ ∨ P1_1_ k_ ∨ P1_2_ k_) ∨ w.heap.size ≤ k_) ∧ some k_ ≠ (.slice Ao68 y211.length co68 : Value).ownBlock ∧ some k_ ≠ (.slice Ao69 y214.length co69 : Value).ownBlock ∧ some k_ ≠ (s_.2.1 : Value).ownBlock ∧ some k_ ≠ (s_.2.2 : Value).ownBlock ∧ k_ ≠ gb199 ∧ k_ ≠ gb200 ∧ k_ ≠ gb201) (.slice A0_1 l0_1.length c0_1) l0_1) ∧ (Kd.V k23 23 w' w.heap.size (fun k_ => ((P0_0_ k_ ∨ P0_1_ k_ ∨ P1_1_ k_ ∨ P1_2_ k_) ∨ w.heap.size ≤ k_) ∧ some k_ ≠ (.slice Ao68 y211.length co68 : Value).ownBlock ∧ some k_ ≠ (.slice Ao69 y214.length co69 : Value).ownBlock ∧ some k_ ≠ (s_.2.1 : Value).ownBlock ∧ some k_ ≠ (s_.2.2 : Value).ownBlock ∧ k_ ≠ gb199 ∧ k_ ≠ gb200 ∧ k_ ≠ gb201) (.slice A1_1 l1_1.length c1_1) l1_1) ∧ (Kd.V k23 23 w' w.heap.size (fun k_ => ((P0_0_ k_ ∨ P0_1_ k_ ∨ P1_1_ k_ ∨ P1_2_ k_) ∨ w.heap.size ≤ k_) ∧ some k_ ≠ (.slice Ao68 y211.length co68 : Value).ownBlock ∧ some k_ ≠ (.slice Ao69 y214.length co69 : Value).ownBlock ∧ some k_ ≠ (s_.2.1 : Value).ownBlock ∧ some k_ ≠ (s_.2.2 : Value).ownBlock ∧ k_ ≠ gb199 ∧ k_ ≠ gb200 ∧ k_ ≠ gb201) (.slice A1_2 l1_2.length c1_2) l1_2) ∧ (Kd.N (Kd.slice 23 k23) 24 w' w.heap.size (fun k_ => ((P0_0_ k_ ∨ P0_1_ k_ ∨ P1_1_ k_ ∨ P1_2_ k_) ∨ w.heap.size ≤ k_) ∧ some k_ ≠ (.slice Ao69 y214.length co69 : Value).ownBlock ∧ some k_ ≠ (s_.2.1 : Value).ownBlock ∧ some k_ ≠ (s_.2.2 : Value).ownBlock ∧ k_ ≠ gb199 ∧ k_ ≠ gb200 ∧ k_ ≠ gb201) (.slice Ao68 y211.length co68) y211) ∧ (Kd.N (Kd.slice 23 k23) 24 w' w.heap.size (fun k_ => ((P0_0_ k_ ∨ P0_1_ k_ ∨ P1_1_ k_ ∨ P1_2_ k_) ∨ w.heap.size ≤ k_) ∧ some k_ ≠ (s_.2.1 : Value).ownBlock ∧ some k_ ≠ (s_.2.2 : Value).ownBlock ∧ k_ ≠ gb199 ∧ k_ ≠ gb200 ∧ k_ ≠ gb201) (.slice Ao69 y214.length co69) y214) ∧ (Kd.N (Kd.slice 23 k23) 24 w' w.heap.size (fun k_ => ((P0_0_ k_ ∨ P0_1_ k_ ∨ P1_1_ k_ ∨ P1_2_ k_) ∨ w.heap.size ≤ k_) ∧ some k_ ≠ (.slice Ao68 y211.length co68 : Value).ownBlock ∧ some k_ ≠ (.slice Ao69 y214.length co69 : Value).ownBlock ∧ some k_ ≠ (s_.2.2 : Value).ownBlock ∧ k_ ≠ gb199 ∧ k_ ≠ gb200 ∧ k_ ≠ gb201) s_.2.1 y220) ∧ (Kd.N (Kd.slice 23 k23) 24 w' w.heap.size (fun k_ => ((P0_0_ k_ ∨ P0_1_ k_ ∨ P1_1_ k_ ∨ P1_2_ k_) ∨ w.heap.size ≤ k_) ∧ some k_ ≠ (.slice Ao68 y211.length co68 : Value).ownBlock ∧ some k_ ≠ (.slice Ao69 y214.length co69 : Value).ownBlock ∧ some k_ ≠ (s_.2.1 : Value).ownBlock ∧ k_ ≠ gb199 ∧ k_ ≠ gb200 ∧ k_ ≠ gb201) s_.2.2 y223) ∧ (w'.heap[gb199]? = some (.cells #[.slice Ao69 y214.length co69, .slice A0_1 l0_1.length c0_1, .bool false] 58 (0, 0))) ∧ (w'.heap[gb200]? = some (.cells #[.int .i64 a1_0, .slice A1_1 l1_1.length c1_1, .slice A1_2 l1_2.length c1_2] 39 (0, 0))) ∧ (w'.heap[gb201]? = some (.cells #[.slice none 0 0, .slice none 0 0, .bool false] 58 (0, 0))) ∧ (Below w.heap.size w w')) ?_ ?_; rotate_left
        ·intro hCont
         refine two_ (i := 0) (j := 6) (Ni := some 36) (Nj := some 42) #[true, true, true, false, true, true, false, false, false, false] #[false, true, true, false, true, true, true, false, false, false] rfl rfl rfl rfl (two_of HT_.out (by kernel_rfl)) (by decide) (by decide) (fun K hK => ?_) (fun K hK => ?_)
         ·skip
          refine Kd.N_lit_step (Kd.slice 23 k23) _ 24 ?hg (N' := 36) ?hd (xs := ([] : List (List (S23)))) (inner := []) (ok := (fun k_ => ((P0_0_ k_ ∨ P0_1_ k_ ∨ P1_1_ k_ ∨ P1_2_ k_) ∨ w.heap.size ≤ k_) ∧ some k_ ≠ (.slice Ao68 y211.length co68 : Value).ownBlock ∧ some k_ ≠ (.slice Ao69 y214.length co69 : Value).ownBlock ∧ k_ ≠ gb199 ∧ k_ ≠ gb200 ∧ k_ ≠ gb201)) (okp := (fun k_ => ((P0_0_ k_ ∨ P0_1_ k_ ∨ P1_1_ k_ ∨ P1_2_ k_) ∨ w.heap.size ≤ k_) ∧ some k_ ≠ (.slice Ao68 y211.length co68 : Value).ownBlock ∧ some k_ ≠ (.slice Ao69 y214.length co69 : Value).ownBlock ∧ k_ ≠ gb199 ∧ k_ ≠ gb200 ∧ k_ ≠ gb201)) ?hr ?hp (fun _ hk => hk) ((show ∀ k_, w72.heap.size ≤ k_ → (fun k_ => ((P0_0_ k_ ∨ P0_1_ k_ ∨ P1_1_ k_ ∨ P1_2_ k_) ∨ w.heap.size ≤ k_) ∧ some k_ ≠ (.slice Ao68 y211.length co68 : Value).ownBlock ∧ some k_ ≠ (.slice Ao69 y214.length co69 : Value).ownBlock ∧ k_ ≠ gb199 ∧ k_ ≠ gb200 ∧ k_ ≠ gb201) k_ from fun k_ hk => ⟨(.inr (Nat.le_trans (below_size (bl_)) hk)), Kd.fresh' (Kd.N_lt (kn_ HO213.out)) k_ hk, Kd.fresh' (Kd.N_lt (kn_ HO216.out)) k_ hk, Kd.freshB (g := gb199) (o := .cells #[.slice Ao69 y214.length co69, .slice A0_1 l0_1.length c0_1, .bool false] 58 (0, 0)) (bk_ BK199.out) k_ hk, Kd.freshB (g := gb200) (o := .cells #[.int .i64 a1_0, .slice A1_1 l1_1.length c1_1, .slice A1_2 l1_2.length c1_2] 39 (0, 0)) (bk_ BK200.out) k_ hk, Kd.freshB (g := gb201) (o := .cells #[.slice none 0 0, .slice none 0 0, .bool false] 58 (0, 0)) (bk_ BK201.out) k_ hk⟩) _ (Nat.le_refl _)) (Below.refl _ _) (Nat.le_refl _) (by simp) ?_; (case hd => rfl); (case hg => rfl); (case hr => first | (go_simp; done) | (go_simp; rfl)); (case hp => exact (Reps.none _ _))
          intro v218 w73 ho74 hb hg_ hnew_; clear hg_ hnew_; (first | rw [← Ny217.out] at ho74 | (simp only [Int.reduceToNat] at ho74; rw [← Ny217.out] at ho74)); have n0_ := am_ (Kd.V_elder' (kv_ HO0_0.out) (Kd.N_base ho74) hb); have n1_ := am_ (Kd.V_elder' (kv_ HO0_1.out) (Kd.N_base ho74) hb); have n2_ := am_ (Kd.V_elder' (kv_ HO1_1.out) (Kd.N_base ho74) hb); have n3_ := am_ (Kd.V_elder' (kv_ HO1_2.out) (Kd.N_base ho74) hb); have n4_ := am_ (Kd.N_elder' (kn_ HO213.out) (Kd.N_base ho74) hb); have n5_ := am_ (Kd.N_elder' (kn_ HO216.out) (Kd.N_base ho74) hb); have n6_ := am_ (Kd.N_lower ho74 (below_size (bl_))); have n7_ := am_ (blk_below (bk_ BK199.out) hb); have n8_ := am_ (blk_below (bk_ BK200.out) hb); have n9_ := am_ (blk_below (bk_ BK201.out) hb); have n10_ := am_ (below_step (bl_) hb); clear HO0_0; clear HO0_1; clear HO1_1; clear HO1_2; clear HO213; clear HO216; clear BK199; clear BK200; clear BK201; clear HB; have HO0_0 := n0_; have HO0_1 := n1_; have HO1_1 := n2_; have HO1_2 := n3_; have HO213 := n4_; have HO216 := n5_; have HO219 := n6_; have BK199 := n7_; have BK200 := n8_; have BK201 := n9_; have HB := n10_; clear n0_ n1_ n2_ n3_ n4_ n5_ n6_ n7_ n8_ n9_ n10_; clear hb ho74; refine hK.out _ _ ⟨bc_ BK199.out 0, bc_ BK199.out 1, bc_ BK199.out 2, bc_ BK200.out 0, bc_ BK200.out 1, bc_ BK200.out 2⟩ (fun hHeld => ?_); clear hK K; refine norm_ (a' := ?_) ?_ ?_; rotate_left
          ·show Act.put _ (some 36) _ = _
           simp only [Act.put, sa_, sz_, ss_, i64_w, i32_w]; rfl
          refine two_ (i := 3) (j := 6) (Ni := some 39) (Nj := some 42) #[true, true, true, true, true, true, false, false, false, false] #[true, true, true, false, true, true, true, false, false, false] rfl rfl rfl rfl (two_of HT_.out (by kernel_rfl)) (by decide) (by decide) (fun K hK => ?_) (fun K hK => ?_)
          ·skip
           refine Kd.N_append_rows_step (Kd.slice 23 k23) (w0 := w) w.heap.size (by rfl) (.tmp 36) (.tmp 38) 26 24 (.slice none 0 0) 24 rfl Tryd.underlying26 info24 rfl (by decide) (by omega) v218 y217 l0_1 _ _ _ (fun k_ => ((P0_0_ k_ ∨ P0_1_ k_ ∨ P1_1_ k_ ∨ P1_2_ k_) ∨ w.heap.size ≤ k_) ∧ some k_ ≠ (.slice Ao68 y211.length co68 : Value).ownBlock ∧ some k_ ≠ (.slice Ao69 y214.length co69 : Value).ownBlock ∧ k_ ≠ gb199 ∧ k_ ≠ gb200 ∧ k_ ≠ gb201) (fun k_ => ((fun k_ => ((P0_0_ k_ ∨ P0_1_ k_ ∨ P1_1_ k_ ∨ P1_2_ k_) ∨ w.heap.size ≤ k_) ∧ some k_ ≠ (.slice Ao68 y211.length co68 : Value).ownBlock ∧ some k_ ≠ (.slice Ao69 y214.length co69 : Value).ownBlock ∧ k_ ≠ gb199 ∧ k_ ≠ gb200 ∧ k_ ≠ gb201)) k_ ∧ some k_ ≠ (v218 : Value).ownBlock) rfl rfl ?aO ?aR (fun _ hk => hk) ?aF ?aB ?aS ?aL ?_; (case aR => exact (by skip; exact Kd.V_F (Kd.V_mono (ok' := (fun k_ => ((fun k_ => ((P0_0_ k_ ∨ P0_1_ k_ ∨ P1_1_ k_ ∨ P1_2_ k_) ∨ w.heap.size ≤ k_) ∧ some k_ ≠ (.slice Ao68 y211.length co68 : Value).ownBlock ∧ some k_ ≠ (.slice Ao69 y214.length co69 : Value).ownBlock ∧ k_ ≠ gb199 ∧ k_ ≠ gb200 ∧ k_ ≠ gb201)) k_ ∧ some k_ ≠ (v218 : Value).ownBlock)) (HO0_1.out) (fun k_ hk => ⟨⟨hk.1.1, ⟨hk.1.2.1, ⟨hk.1.2.2.1, ⟨hk.1.2.2.2.1, ⟨hk.1.2.2.2.2.1, hk.1.2.2.2.2.2⟩⟩⟩⟩⟩, hk.2⟩)))); (case aB => exact (bl_)); (case aF => exact (fun k_ hk => ⟨(.inr (Nat.le_trans (below_size (bl_)) hk)), Kd.fresh' (Kd.N_lt (kn_ HO213.out)) k_ hk, Kd.fresh' (Kd.N_lt (kn_ HO216.out)) k_ hk, Kd.freshB (g := gb199) (o := .cells #[.slice Ao69 y214.length co69, .slice A0_1 l0_1.length c0_1, .bool false] 58 (0, 0)) (bk_ BK199.out) k_ hk, Kd.freshB (g := gb200) (o := .cells #[.int .i64 a1_0, .slice A1_1 l1_1.length c1_1, .slice A1_2 l1_2.length c1_2] 39 (0, 0)) (bk_ BK200.out) k_ hk, Kd.freshB (g := gb201) (o := .cells #[.slice none 0 0, .slice none 0 0, .bool false] 58 (0, 0)) (bk_ BK201.out) k_ hk⟩)); (case aO => exact (kn_ HO219.out)); (case aS => exact (below_size (bl_))); (case aL => have := LMc50.out; omega); intro v221 w75 ho hb hg hat; rw [← Ny220.out] at ho; have n0_ := am_ (Kd.V_afterv (ok := (fun k_ => ((P0_0_ k_ ∨ P0_1_ k_ ∨ P1_1_ k_ ∨ P1_2_ k_) ∨ w.heap.size ≤ k_) ∧ some k_ ≠ (.slice Ao68 y211.length co68 : Value).ownBlock ∧ some k_ ≠ (.slice Ao69 y214.length co69 : Value).ownBlock ∧ k_ ≠ gb199 ∧ k_ ≠ gb200 ∧ k_ ≠ gb201)) (kv_ HO0_0.out) hg hat); have n1_ := am_ (Kd.V_afterv (ok := (fun k_ => ((P0_0_ k_ ∨ P0_1_ k_ ∨ P1_1_ k_ ∨ P1_2_ k_) ∨ w.heap.size ≤ k_) ∧ some k_ ≠ (.slice Ao68 y211.length co68 : Value).ownBlock ∧ some k_ ≠ (.slice Ao69 y214.length co69 : Value).ownBlock ∧ k_ ≠ gb199 ∧ k_ ≠ gb200 ∧ k_ ≠ gb201)) (kv_ HO0_1.out) hg hat); have n2_ := am_ (Kd.V_afterv (ok := (fun k_ => ((P0_0_ k_ ∨ P0_1_ k_ ∨ P1_1_ k_ ∨ P1_2_ k_) ∨ w.heap.size ≤ k_) ∧ some k_ ≠ (.slice Ao68 y211.length co68 : Value).ownBlock ∧ some k_ ≠ (.slice Ao69 y214.length co69 : Value).ownBlock ∧ k_ ≠ gb199 ∧ k_ ≠ gb200 ∧ k_ ≠ gb201)) (kv_ HO1_1.out) hg hat); have n3_ := am_ (Kd.V_afterv (ok := (fun k_ => ((P0_0_ k_ ∨ P0_1_ k_ ∨ P1_1_ k_ ∨ P1_2_ k_) ∨ w.heap.size ≤ k_) ∧ some k_ ≠ (.slice Ao68 y211.length co68 : Value).ownBlock ∧ some k_ ≠ (.slice Ao69 y214.length co69 : Value).ownBlock ∧ k_ ≠ gb199 ∧ k_ ≠ gb200 ∧ k_ ≠ gb201)) (kv_ HO1_2.out) hg hat); have n4_ := am_ (blk_grown (g := gb199) (o := .cells #[.slice Ao69 y214.length co69, .slice A0_1 l0_1.length c0_1, .bool false] 58 (0, 0)) (bk_ BK199.out) hg (Kd.N_ne HO219.out BK199.out (by decide))); have n5_ := am_ (blk_grown (g := gb200) (o := .cells #[.int .i64 a1_0, .slice A1_1 l1_1.length c1_1, .slice A1_2 l1_2.length c1_2] 39 (0, 0)) (bk_ BK200.out) hg (Kd.N_ne HO219.out BK200.out (by decide))); have n6_ := am_ (blk_grown (g := gb201) (o := .cells #[.slice none 0 0, .slice none 0 0, .bool false] 58 (0, 0)) (bk_ BK201.out) hg (Kd.N_ne HO219.out BK201.out (by decide))); have n7_ := am_ (Kd.N_afterv (ok := (fun k_ => ((P0_0_ k_ ∨ P0_1_ k_ ∨ P1_1_ k_ ∨ P1_2_ k_) ∨ w.heap.size ≤ k_) ∧ some k_ ≠ (.slice Ao69 y214.length co69 : Value).ownBlock ∧ k_ ≠ gb199 ∧ k_ ≠ gb200 ∧ k_ ≠ gb201)) (kn_ HO213.out) hg hat); have n8_ := am_ (Kd.N_afterv (ok := (fun k_ => ((P0_0_ k_ ∨ P0_1_ k_ ∨ P1_1_ k_ ∨ P1_2_ k_) ∨ w.heap.size ≤ k_) ∧ k_ ≠ gb199 ∧ k_ ≠ gb200 ∧ k_ ≠ gb201)) (kn_ HO216.out) hg hat); have n9_ := am_ (hb); have n10_ := am_ (ho); clear HO0_0; clear HO0_1; clear HO1_1; clear HO1_2; clear BK199; clear BK200; clear BK201; clear HO213; clear HO216; clear HB; clear HO219; have HO0_0 := n0_; have HO0_1 := n1_; have HO1_1 := n2_; have HO1_2 := n3_; have BK199 := n4_; have BK200 := n5_; have BK201 := n6_; have HO213 := n7_; have HO216 := n8_; have HB := n9_; have HO222 := n10_; clear n0_ n1_ n2_ n3_ n4_ n5_ n6_ n7_ n8_ n9_ n10_; clear ho hb hg hat; refine hK.out _ _ ⟨bc_ BK199.out 0, bc_ BK199.out 1, bc_ BK199.out 2, bc_ BK200.out 0, bc_ BK200.out 1, bc_ BK200.out 2⟩ (fun hHeld => ?_); clear hK K; refine norm_ (a' := ?_) ?_ ?_; rotate_left
           ·show Act.put _ (some 39) _ = _
            simp only [Act.put, sa_, sz_, ss_, i64_w, i32_w]; rfl
           refine one_ (i := 6) (N := some 42) #[true, true, true, true, true, true, true, false, false, false] rfl rfl (one_of HT_.out (by kernel_rfl)) (by decide) (fun K hK => ?_)
           refine Kd.N_lit_step (Kd.slice 23 k23) _ 24 ?hg (N' := 42) ?hd (xs := ([l1_2] : List (List (S23)))) (inner := [.slice A1_2 l1_2.length c1_2]) (ok := (fun k_ => ((P0_0_ k_ ∨ P0_1_ k_ ∨ P1_1_ k_ ∨ P1_2_ k_) ∨ w.heap.size ≤ k_) ∧ some k_ ≠ (.slice Ao68 y211.length co68 : Value).ownBlock ∧ some k_ ≠ (.slice Ao69 y214.length co69 : Value).ownBlock ∧ some k_ ≠ (v221 : Value).ownBlock ∧ k_ ≠ gb199 ∧ k_ ≠ gb200 ∧ k_ ≠ gb201)) (okp := (fun k_ => ((P0_0_ k_ ∨ P0_1_ k_ ∨ P1_1_ k_ ∨ P1_2_ k_) ∨ w.heap.size ≤ k_) ∧ some k_ ≠ (.slice Ao68 y211.length co68 : Value).ownBlock ∧ some k_ ≠ (.slice Ao69 y214.length co69 : Value).ownBlock ∧ some k_ ≠ (v221 : Value).ownBlock ∧ k_ ≠ gb199 ∧ k_ ≠ gb200 ∧ k_ ≠ gb201)) ?hr ?hp (fun _ hk => hk) ((show ∀ k_, w75.heap.size ≤ k_ → (fun k_ => ((P0_0_ k_ ∨ P0_1_ k_ ∨ P1_1_ k_ ∨ P1_2_ k_) ∨ w.heap.size ≤ k_) ∧ some k_ ≠ (.slice Ao68 y211.length co68 : Value).ownBlock ∧ some k_ ≠ (.slice Ao69 y214.length co69 : Value).ownBlock ∧ some k_ ≠ (v221 : Value).ownBlock ∧ k_ ≠ gb199 ∧ k_ ≠ gb200 ∧ k_ ≠ gb201) k_ from fun k_ hk => ⟨(.inr (Nat.le_trans (below_size (bl_)) hk)), Kd.fresh' (Kd.N_lt (kn_ HO213.out)) k_ hk, Kd.fresh' (Kd.N_lt (kn_ HO216.out)) k_ hk, Kd.fresh' (Kd.N_lt (kn_ HO222.out)) k_ hk, Kd.freshB (g := gb199) (o := .cells #[.slice Ao69 y214.length co69, .slice A0_1 l0_1.length c0_1, .bool false] 58 (0, 0)) (bk_ BK199.out) k_ hk, Kd.freshB (g := gb200) (o := .cells #[.int .i64 a1_0, .slice A1_1 l1_1.length c1_1, .slice A1_2 l1_2.length c1_2] 39 (0, 0)) (bk_ BK200.out) k_ hk, Kd.freshB (g := gb201) (o := .cells #[.slice none 0 0, .slice none 0 0, .bool false] 58 (0, 0)) (bk_ BK201.out) k_ hk⟩) _ (Nat.le_refl _)) (Below.refl _ _) (Nat.le_refl _) (by simp) ?_; (case hd => rfl); (case hg => rfl); (case hr => first | (go_simp; done) | (go_simp; rfl)); (case hp => exact (Reps.one (show Kd.FK (Kd.slice 23 k23) _ _ l1_2 [.slice A1_2 l1_2.length c1_2] from (Kd.FK_slice_mk (Kd.V_reads' (Kd.V_mono (ok' := (fun k_ => ((P0_0_ k_ ∨ P0_1_ k_ ∨ P1_1_ k_ ∨ P1_2_ k_) ∨ w.heap.size ≤ k_) ∧ some k_ ≠ (.slice Ao68 y211.length co68 : Value).ownBlock ∧ some k_ ≠ (.slice Ao69 y214.length co69 : Value).ownBlock ∧ some k_ ≠ (v221 : Value).ownBlock ∧ k_ ≠ gb199 ∧ k_ ≠ gb200 ∧ k_ ≠ gb201)) (kv_ (HO1_2.out)) (fun k_ hk => ⟨hk.1.1, ⟨hk.1.2.1, ⟨hk.1.2.2.1, ⟨hk.2, ⟨hk.1.2.2.2.1, ⟨hk.1.2.2.2.2.1, hk.1.2.2.2.2.2⟩⟩⟩⟩⟩⟩))).2.1 (Kd.V_F (Kd.V_mono (ok' := (fun k_ => ((P0_0_ k_ ∨ P0_1_ k_ ∨ P1_1_ k_ ∨ P1_2_ k_) ∨ w.heap.size ≤ k_) ∧ some k_ ≠ (.slice Ao68 y211.length co68 : Value).ownBlock ∧ some k_ ≠ (.slice Ao69 y214.length co69 : Value).ownBlock ∧ some k_ ≠ (v221 : Value).ownBlock ∧ k_ ≠ gb199 ∧ k_ ≠ gb200 ∧ k_ ≠ gb201)) (kv_ (HO1_2.out)) (fun k_ hk => ⟨hk.1.1, ⟨hk.1.2.1, ⟨hk.1.2.2.1, ⟨hk.2, ⟨hk.1.2.2.2.1, ⟨hk.1.2.2.2.2.1, hk.1.2.2.2.2.2⟩⟩⟩⟩⟩⟩))))) (Reps.none _ _)))
           intro v224 w76 ho77 hb hg_ hnew_; clear hg_ hnew_; (first | rw [← Ny223.out] at ho77 | (simp only [Int.reduceToNat] at ho77; rw [← Ny223.out] at ho77)); have n0_ := am_ (Kd.V_elder' (kv_ HO0_0.out) (Kd.N_base ho77) hb); have n1_ := am_ (Kd.V_elder' (kv_ HO0_1.out) (Kd.N_base ho77) hb); have n2_ := am_ (Kd.V_elder' (kv_ HO1_1.out) (Kd.N_base ho77) hb); have n3_ := am_ (Kd.V_elder' (kv_ HO1_2.out) (Kd.N_base ho77) hb); have n4_ := am_ (Kd.N_elder' (kn_ HO213.out) (Kd.N_base ho77) hb); have n5_ := am_ (Kd.N_elder' (kn_ HO216.out) (Kd.N_base ho77) hb); have n6_ := am_ (Kd.N_elder' (kn_ HO222.out) (Kd.N_base ho77) hb); have n7_ := am_ (Kd.N_lower ho77 (below_size (bl_))); have n8_ := am_ (blk_below (bk_ BK199.out) hb); have n9_ := am_ (blk_below (bk_ BK200.out) hb); have n10_ := am_ (blk_below (bk_ BK201.out) hb); have n11_ := am_ (below_step (bl_) hb); clear HO0_0; clear HO0_1; clear HO1_1; clear HO1_2; clear HO213; clear HO216; clear HO222; clear BK199; clear BK200; clear BK201; clear HB; have HO0_0 := n0_; have HO0_1 := n1_; have HO1_1 := n2_; have HO1_2 := n3_; have HO213 := n4_; have HO216 := n5_; have HO222 := n6_; have HO225 := n7_; have BK199 := n8_; have BK200 := n9_; have BK201 := n10_; have HB := n11_; clear n0_ n1_ n2_ n3_ n4_ n5_ n6_ n7_ n8_ n9_ n10_ n11_; clear hb ho77; refine hK.out _ _ ⟨bc_ BK199.out 0, bc_ BK199.out 1, bc_ BK199.out 2, bc_ BK200.out 0, bc_ BK200.out 1, bc_ BK200.out 2⟩ (fun hHeld => ?_); clear hK K; refine norm_ (a' := ?_) ?_ ?_; rotate_left
           ·show Act.put _ (some 42) _ = _
            simp only [Act.put, sa_, sz_, ss_, i64_w, i32_w]; rfl
           exact norm_ (by simp only [putAll, Act.put, sa_, sz_, ss_]) (hCont (v218, v221, v224) _ ⟨hHeld, (by (with_reducible repeat (first | apply Kd.V_alloc | apply Kd.V_drewN | apply Kd.V_drew)); exact Kd.V_mono HO0_0.out (fun _ hk => ⟨hk.1.1.1, ⟨hk.1.1.2.1, ⟨hk.1.1.2.2.1, ⟨hk.1.2, ⟨hk.2, ⟨hk.1.1.2.2.2.1, ⟨hk.1.1.2.2.2.2.1, hk.1.1.2.2.2.2.2⟩⟩⟩⟩⟩⟩⟩)), (by (with_reducible repeat (first | apply Kd.V_alloc | apply Kd.V_drewN | apply Kd.V_drew)); exact Kd.V_mono HO0_1.out (fun _ hk => ⟨hk.1.1.1, ⟨hk.1.1.2.1, ⟨hk.1.1.2.2.1, ⟨hk.1.2, ⟨hk.2, ⟨hk.1.1.2.2.2.1, ⟨hk.1.1.2.2.2.2.1, hk.1.1.2.2.2.2.2⟩⟩⟩⟩⟩⟩⟩)), (by (with_reducible repeat (first | apply Kd.V_alloc | apply Kd.V_drewN | apply Kd.V_drew)); exact Kd.V_mono HO1_1.out (fun _ hk => ⟨hk.1.1.1, ⟨hk.1.1.2.1, ⟨hk.1.1.2.2.1, ⟨hk.1.2, ⟨hk.2, ⟨hk.1.1.2.2.2.1, ⟨hk.1.1.2.2.2.2.1, hk.1.1.2.2.2.2.2⟩⟩⟩⟩⟩⟩⟩)), (by (with_reducible repeat (first | apply Kd.V_alloc | apply Kd.V_drewN | apply Kd.V_drew)); exact Kd.V_mono HO1_2.out (fun _ hk => ⟨hk.1.1.1, ⟨hk.1.1.2.1, ⟨hk.1.1.2.2.1, ⟨hk.1.2, ⟨hk.2, ⟨hk.1.1.2.2.2.1, ⟨hk.1.1.2.2.2.2.1, hk.1.1.2.2.2.2.2⟩⟩⟩⟩⟩⟩⟩)), (by (with_reducible repeat (first | apply Kd.N_alloc | apply Kd.N_drewN | apply Kd.N_drew)); exact Kd.N_mono HO213.out (fun _ hk => ⟨hk.1.1.1, ⟨hk.1.1.2.1, ⟨hk.1.2, ⟨hk.2, ⟨hk.1.1.2.2.1, ⟨hk.1.1.2.2.2.1, hk.1.1.2.2.2.2⟩⟩⟩⟩⟩⟩)), (by (with_reducible repeat (first | apply Kd.N_alloc | apply Kd.N_drewN | apply Kd.N_drew)); exact Kd.N_mono HO216.out (fun _ hk => ⟨hk.1.1.1, ⟨hk.1.2, ⟨hk.2, ⟨hk.1.1.2.1, ⟨hk.1.1.2.2.1, hk.1.1.2.2.2⟩⟩⟩⟩⟩)), (by (with_reducible repeat (first | apply Kd.N_alloc | apply Kd.N_drewN | apply Kd.N_drew)); exact Kd.N_mono HO222.out (fun _ hk => ⟨hk.1.1, ⟨hk.1.2.1, ⟨hk.1.2.2.1, ⟨hk.2, ⟨hk.1.2.2.2.1, ⟨hk.1.2.2.2.2.1, hk.1.2.2.2.2.2⟩⟩⟩⟩⟩⟩)), (kn_ HO225.out), (bk_ BK199.out), (bk_ BK200.out), (bk_ BK201.out), (bl_)⟩)
          ·skip
           refine Kd.N_lit_step (Kd.slice 23 k23) _ 24 ?hg (N' := 42) ?hd (xs := ([l1_2] : List (List (S23)))) (inner := [.slice A1_2 l1_2.length c1_2]) (ok := (fun k_ => ((P0_0_ k_ ∨ P0_1_ k_ ∨ P1_1_ k_ ∨ P1_2_ k_) ∨ w.heap.size ≤ k_) ∧ some k_ ≠ (.slice Ao68 y211.length co68 : Value).ownBlock ∧ some k_ ≠ (.slice Ao69 y214.length co69 : Value).ownBlock ∧ some k_ ≠ (v218 : Value).ownBlock ∧ k_ ≠ gb199 ∧ k_ ≠ gb200 ∧ k_ ≠ gb201)) (okp := (fun k_ => ((P0_0_ k_ ∨ P0_1_ k_ ∨ P1_1_ k_ ∨ P1_2_ k_) ∨ w.heap.size ≤ k_) ∧ some k_ ≠ (.slice Ao68 y211.length co68 : Value).ownBlock ∧ some k_ ≠ (.slice Ao69 y214.length co69 : Value).ownBlock ∧ some k_ ≠ (v218 : Value).ownBlock ∧ k_ ≠ gb199 ∧ k_ ≠ gb200 ∧ k_ ≠ gb201)) ?hr ?hp (fun _ hk => hk) ((show ∀ k_, w73.heap.size ≤ k_ → (fun k_ => ((P0_0_ k_ ∨ P0_1_ k_ ∨ P1_1_ k_ ∨ P1_2_ k_) ∨ w.heap.size ≤ k_) ∧ some k_ ≠ (.slice Ao68 y211.length co68 : Value).ownBlock ∧ some k_ ≠ (.slice Ao69 y214.length co69 : Value).ownBlock ∧ some k_ ≠ (v218 : Value).ownBlock ∧ k_ ≠ gb199 ∧ k_ ≠ gb200 ∧ k_ ≠ gb201) k_ from fun k_ hk => ⟨(.inr (Nat.le_trans (below_size (bl_)) hk)), Kd.fresh' (Kd.N_lt (kn_ HO213.out)) k_ hk, Kd.fresh' (Kd.N_lt (kn_ HO216.out)) k_ hk, Kd.fresh' (Kd.N_lt (kn_ HO219.out)) k_ hk, Kd.freshB (g := gb199) (o := .cells #[.slice Ao69 y214.length co69, .slice A0_1 l0_1.length c0_1, .bool false] 58 (0, 0)) (bk_ BK199.out) k_ hk, Kd.freshB (g := gb200) (o := .cells #[.int .i64 a1_0, .slice A1_1 l1_1.length c1_1, .slice A1_2 l1_2.length c1_2] 39 (0, 0)) (bk_ BK200.out) k_ hk, Kd.freshB (g := gb201) (o := .cells #[.slice none 0 0, .slice none 0 0, .bool false] 58 (0, 0)) (bk_ BK201.out) k_ hk⟩) _ (Nat.le_refl _)) (Below.refl _ _) (Nat.le_refl _) (by simp) ?_; (case hd => rfl); (case hg => rfl); (case hr => first | (go_simp; done) | (go_simp; rfl)); (case hp => exact (Reps.one (show Kd.FK (Kd.slice 23 k23) _ _ l1_2 [.slice A1_2 l1_2.length c1_2] from (Kd.FK_slice_mk (Kd.V_reads' (Kd.V_mono (ok' := (fun k_ => ((P0_0_ k_ ∨ P0_1_ k_ ∨ P1_1_ k_ ∨ P1_2_ k_) ∨ w.heap.size ≤ k_) ∧ some k_ ≠ (.slice Ao68 y211.length co68 : Value).ownBlock ∧ some k_ ≠ (.slice Ao69 y214.length co69 : Value).ownBlock ∧ some k_ ≠ (v218 : Value).ownBlock ∧ k_ ≠ gb199 ∧ k_ ≠ gb200 ∧ k_ ≠ gb201)) (kv_ (HO1_2.out)) (fun k_ hk => ⟨hk.1.1, ⟨hk.1.2.1, ⟨hk.1.2.2.1, ⟨hk.2, ⟨hk.1.2.2.2.1, ⟨hk.1.2.2.2.2.1, hk.1.2.2.2.2.2⟩⟩⟩⟩⟩⟩))).2.1 (Kd.V_F (Kd.V_mono (ok' := (fun k_ => ((P0_0_ k_ ∨ P0_1_ k_ ∨ P1_1_ k_ ∨ P1_2_ k_) ∨ w.heap.size ≤ k_) ∧ some k_ ≠ (.slice Ao68 y211.length co68 : Value).ownBlock ∧ some k_ ≠ (.slice Ao69 y214.length co69 : Value).ownBlock ∧ some k_ ≠ (v218 : Value).ownBlock ∧ k_ ≠ gb199 ∧ k_ ≠ gb200 ∧ k_ ≠ gb201)) (kv_ (HO1_2.out)) (fun k_ hk => ⟨hk.1.1, ⟨hk.1.2.1, ⟨hk.1.2.2.1, ⟨hk.2, ⟨hk.1.2.2.2.1, ⟨hk.1.2.2.2.2.1, hk.1.2.2.2.2.2⟩⟩⟩⟩⟩⟩))))) (Reps.none _ _)))
           intro v224 w75 ho76 hb hg_ hnew_; clear hg_ hnew_; (first | rw [← Ny223.out] at ho76 | (simp only [Int.reduceToNat] at ho76; rw [← Ny223.out] at ho76)); have n0_ := am_ (Kd.V_elder' (kv_ HO0_0.out) (Kd.N_base ho76) hb); have n1_ := am_ (Kd.V_elder' (kv_ HO0_1.out) (Kd.N_base ho76) hb); have n2_ := am_ (Kd.V_elder' (kv_ HO1_1.out) (Kd.N_base ho76) hb); have n3_ := am_ (Kd.V_elder' (kv_ HO1_2.out) (Kd.N_base ho76) hb); have n4_ := am_ (Kd.N_elder' (kn_ HO213.out) (Kd.N_base ho76) hb); have n5_ := am_ (Kd.N_elder' (kn_ HO216.out) (Kd.N_base ho76) hb); have n6_ := am_ (Kd.N_elder' (kn_ HO219.out) (Kd.N_base ho76) hb); have n7_ := am_ (Kd.N_lower ho76 (below_size (bl_))); have n8_ := am_ (blk_below (bk_ BK199.out) hb); have n9_ := am_ (blk_below (bk_ BK200.out) hb); have n10_ := am_ (blk_below (bk_ BK201.out) hb); have n11_ := am_ (below_step (bl_) hb); clear HO0_0; clear HO0_1; clear HO1_1; clear HO1_2; clear HO213; clear HO216; clear HO219; clear BK199; clear BK200; clear BK201; clear HB; have HO0_0 := n0_; have HO0_1 := n1_; have HO1_1 := n2_; have HO1_2 := n3_; have HO213 := n4_; have HO216 := n5_; have HO219 := n6_; have HO225 := n7_; have BK199 := n8_; have BK200 := n9_; have BK201 := n10_; have HB := n11_; clear n0_ n1_ n2_ n3_ n4_ n5_ n6_ n7_ n8_ n9_ n10_ n11_; clear hb ho76; refine hK.out _ _ ⟨bc_ BK199.out 0, bc_ BK199.out 1, bc_ BK199.out 2, bc_ BK200.out 0, bc_ BK200.out 1, bc_ BK200.out 2⟩ (fun hHeld => ?_); clear hK K; refine norm_ (a' := ?_) ?_ ?_; rotate_left
           ·show Act.put _ (some 42) _ = _
            simp only [Act.put, sa_, sz_, ss_, i64_w, i32_w]; rfl
           refine one_ (i := 3) (N := some 39) #[true, true, true, true, true, true, true, false, false, false] rfl rfl (one_of HT_.out (by kernel_rfl)) (by decide) (fun K hK => ?_); refine Kd.N_append_rows_step (Kd.slice 23 k23) (w0 := w) w.heap.size (by rfl) (.tmp 36) (.tmp 38) 26 24 (.slice none 0 0) 24 rfl Tryd.underlying26 info24 rfl (by decide) (by omega) v218 y217 l0_1 _ _ _ (fun k_ => ((P0_0_ k_ ∨ P0_1_ k_ ∨ P1_1_ k_ ∨ P1_2_ k_) ∨ w.heap.size ≤ k_) ∧ some k_ ≠ (.slice Ao68 y211.length co68 : Value).ownBlock ∧ some k_ ≠ (.slice Ao69 y214.length co69 : Value).ownBlock ∧ some k_ ≠ (v224 : Value).ownBlock ∧ k_ ≠ gb199 ∧ k_ ≠ gb200 ∧ k_ ≠ gb201) (fun k_ => ((fun k_ => ((P0_0_ k_ ∨ P0_1_ k_ ∨ P1_1_ k_ ∨ P1_2_ k_) ∨ w.heap.size ≤ k_) ∧ some k_ ≠ (.slice Ao68 y211.length co68 : Value).ownBlock ∧ some k_ ≠ (.slice Ao69 y214.length co69 : Value).ownBlock ∧ some k_ ≠ (v224 : Value).ownBlock ∧ k_ ≠ gb199 ∧ k_ ≠ gb200 ∧ k_ ≠ gb201)) k_ ∧ some k_ ≠ (v218 : Value).ownBlock) rfl rfl ?aO ?aR (fun _ hk => hk) ?aF ?aB ?aS ?aL ?_; (case aR => exact (by skip; exact Kd.V_F (Kd.V_mono (ok' := (fun k_ => ((fun k_ => ((P0_0_ k_ ∨ P0_1_ k_ ∨ P1_1_ k_ ∨ P1_2_ k_) ∨ w.heap.size ≤ k_) ∧ some k_ ≠ (.slice Ao68 y211.length co68 : Value).ownBlock ∧ some k_ ≠ (.slice Ao69 y214.length co69 : Value).ownBlock ∧ some k_ ≠ (v224 : Value).ownBlock ∧ k_ ≠ gb199 ∧ k_ ≠ gb200 ∧ k_ ≠ gb201)) k_ ∧ some k_ ≠ (v218 : Value).ownBlock)) (HO0_1.out) (fun k_ hk => ⟨⟨hk.1.1.1, ⟨hk.1.1.2.1, ⟨hk.1.1.2.2.1, ⟨hk.2, ⟨hk.1.1.2.2.2.1, ⟨hk.1.1.2.2.2.2.1, hk.1.1.2.2.2.2.2⟩⟩⟩⟩⟩⟩, hk.1.2⟩)))); (case aB => exact (bl_)); (case aF => exact (fun k_ hk => ⟨(.inr (Nat.le_trans (below_size (bl_)) hk)), Kd.fresh' (Kd.N_lt (kn_ HO213.out)) k_ hk, Kd.fresh' (Kd.N_lt (kn_ HO216.out)) k_ hk, Kd.fresh' (Kd.N_lt (kn_ HO225.out)) k_ hk, Kd.freshB (g := gb199) (o := .cells #[.slice Ao69 y214.length co69, .slice A0_1 l0_1.length c0_1, .bool false] 58 (0, 0)) (bk_ BK199.out) k_ hk, Kd.freshB (g := gb200) (o := .cells #[.int .i64 a1_0, .slice A1_1 l1_1.length c1_1, .slice A1_2 l1_2.length c1_2] 39 (0, 0)) (bk_ BK200.out) k_ hk, Kd.freshB (g := gb201) (o := .cells #[.slice none 0 0, .slice none 0 0, .bool false] 58 (0, 0)) (bk_ BK201.out) k_ hk⟩)); (case aO => exact (by (with_reducible repeat (first | apply Kd.N_alloc | apply Kd.N_drewN | apply Kd.N_drew)); exact Kd.N_mono HO219.out (fun _ hk => ⟨hk.1.1, ⟨hk.1.2.1, ⟨hk.1.2.2.1, ⟨hk.2, ⟨hk.1.2.2.2.1, ⟨hk.1.2.2.2.2.1, hk.1.2.2.2.2.2⟩⟩⟩⟩⟩⟩))); (case aS => exact (below_size (bl_))); (case aL => have := LMc50.out; omega); intro v221 w77 ho hb hg hat; rw [← Ny220.out] at ho; have n0_ := am_ (Kd.V_afterv (ok := (fun k_ => ((P0_0_ k_ ∨ P0_1_ k_ ∨ P1_1_ k_ ∨ P1_2_ k_) ∨ w.heap.size ≤ k_) ∧ some k_ ≠ (.slice Ao68 y211.length co68 : Value).ownBlock ∧ some k_ ≠ (.slice Ao69 y214.length co69 : Value).ownBlock ∧ some k_ ≠ (v224 : Value).ownBlock ∧ k_ ≠ gb199 ∧ k_ ≠ gb200 ∧ k_ ≠ gb201)) (by (with_reducible repeat (first | apply Kd.V_alloc | apply Kd.V_drewN | apply Kd.V_drew)); exact Kd.V_mono HO0_0.out (fun _ hk => ⟨⟨hk.1.1.1, ⟨hk.1.1.2.1, ⟨hk.1.1.2.2.1, ⟨hk.2, ⟨hk.1.1.2.2.2.1, ⟨hk.1.1.2.2.2.2.1, hk.1.1.2.2.2.2.2⟩⟩⟩⟩⟩⟩, hk.1.2⟩)) hg hat); have n1_ := am_ (Kd.V_afterv (ok := (fun k_ => ((P0_0_ k_ ∨ P0_1_ k_ ∨ P1_1_ k_ ∨ P1_2_ k_) ∨ w.heap.size ≤ k_) ∧ some k_ ≠ (.slice Ao68 y211.length co68 : Value).ownBlock ∧ some k_ ≠ (.slice Ao69 y214.length co69 : Value).ownBlock ∧ some k_ ≠ (v224 : Value).ownBlock ∧ k_ ≠ gb199 ∧ k_ ≠ gb200 ∧ k_ ≠ gb201)) (by (with_reducible repeat (first | apply Kd.V_alloc | apply Kd.V_drewN | apply Kd.V_drew)); exact Kd.V_mono HO0_1.out (fun _ hk => ⟨⟨hk.1.1.1, ⟨hk.1.1.2.1, ⟨hk.1.1.2.2.1, ⟨hk.2, ⟨hk.1.1.2.2.2.1, ⟨hk.1.1.2.2.2.2.1, hk.1.1.2.2.2.2.2⟩⟩⟩⟩⟩⟩, hk.1.2⟩)) hg hat); have n2_ := am_ (Kd.V_afterv (ok := (fun k_ => ((P0_0_ k_ ∨ P0_1_ k_ ∨ P1_1_ k_ ∨ P1_2_ k_) ∨ w.heap.size ≤ k_) ∧ some k_ ≠ (.slice Ao68 y211.length co68 : Value).ownBlock ∧ some k_ ≠ (.slice Ao69 y214.length co69 : Value).ownBlock ∧ some k_ ≠ (v224 : Value).ownBlock ∧ k_ ≠ gb199 ∧ k_ ≠ gb200 ∧ k_ ≠ gb201)) (by (with_reducible repeat (first | apply Kd.V_alloc | apply Kd.V_drewN | apply Kd.V_drew)); exact Kd.V_mono HO1_1.out (fun _ hk => ⟨⟨hk.1.1.1, ⟨hk.1.1.2.1, ⟨hk.1.1.2.2.1, ⟨hk.2, ⟨hk.1.1.2.2.2.1, ⟨hk.1.1.2.2.2.2.1, hk.1.1.2.2.2.2.2⟩⟩⟩⟩⟩⟩, hk.1.2⟩)) hg hat); have n3_ := am_ (Kd.V_afterv (ok := (fun k_ => ((P0_0_ k_ ∨ P0_1_ k_ ∨ P1_1_ k_ ∨ P1_2_ k_) ∨ w.heap.size ≤ k_) ∧ some k_ ≠ (.slice Ao68 y211.length co68 : Value).ownBlock ∧ some k_ ≠ (.slice Ao69 y214.length co69 : Value).ownBlock ∧ some k_ ≠ (v224 : Value).ownBlock ∧ k_ ≠ gb199 ∧ k_ ≠ gb200 ∧ k_ ≠ gb201)) (by (with_reducible repeat (first | apply Kd.V_alloc | apply Kd.V_drewN | apply Kd.V_drew)); exact Kd.V_mono HO1_2.out (fun _ hk => ⟨⟨hk.1.1.1, ⟨hk.1.1.2.1, ⟨hk.1.1.2.2.1, ⟨hk.2, ⟨hk.1.1.2.2.2.1, ⟨hk.1.1.2.2.2.2.1, hk.1.1.2.2.2.2.2⟩⟩⟩⟩⟩⟩, hk.1.2⟩)) hg hat); have n4_ := am_ (blk_grown (g := gb199) (o := .cells #[.slice Ao69 y214.length co69, .slice A0_1 l0_1.length c0_1, .bool false] 58 (0, 0)) (bk_ BK199.out) hg (Kd.N_ne HO219.out BK199.out (by decide))); have n5_ := am_ (blk_grown (g := gb200) (o := .cells #[.int .i64 a1_0, .slice A1_1 l1_1.length c1_1, .slice A1_2 l1_2.length c1_2] 39 (0, 0)) (bk_ BK200.out) hg (Kd.N_ne HO219.out BK200.out (by decide))); have n6_ := am_ (blk_grown (g := gb201) (o := .cells #[.slice none 0 0, .slice none 0 0, .bool false] 58 (0, 0)) (bk_ BK201.out) hg (Kd.N_ne HO219.out BK201.out (by decide))); have n7_ := am_ (Kd.N_afterv (ok := (fun k_ => ((P0_0_ k_ ∨ P0_1_ k_ ∨ P1_1_ k_ ∨ P1_2_ k_) ∨ w.heap.size ≤ k_) ∧ some k_ ≠ (.slice Ao69 y214.length co69 : Value).ownBlock ∧ some k_ ≠ (v224 : Value).ownBlock ∧ k_ ≠ gb199 ∧ k_ ≠ gb200 ∧ k_ ≠ gb201)) (by (with_reducible repeat (first | apply Kd.N_alloc | apply Kd.N_drewN | apply Kd.N_drew)); exact Kd.N_mono HO213.out (fun _ hk => ⟨⟨hk.1.1.1, ⟨hk.1.1.2.1, ⟨hk.2, ⟨hk.1.1.2.2.1, ⟨hk.1.1.2.2.2.1, hk.1.1.2.2.2.2⟩⟩⟩⟩⟩, hk.1.2⟩)) hg hat); have n8_ := am_ (Kd.N_afterv (ok := (fun k_ => ((P0_0_ k_ ∨ P0_1_ k_ ∨ P1_1_ k_ ∨ P1_2_ k_) ∨ w.heap.size ≤ k_) ∧ some k_ ≠ (v224 : Value).ownBlock ∧ k_ ≠ gb199 ∧ k_ ≠ gb200 ∧ k_ ≠ gb201)) (by (with_reducible repeat (first | apply Kd.N_alloc | apply Kd.N_drewN | apply Kd.N_drew)); exact Kd.N_mono HO216.out (fun _ hk => ⟨⟨hk.1.1.1, ⟨hk.2, ⟨hk.1.1.2.1, ⟨hk.1.1.2.2.1, hk.1.1.2.2.2⟩⟩⟩⟩, hk.1.2⟩)) hg hat); have n9_ := am_ (Kd.N_afterv (ok := (fun k_ => ((P0_0_ k_ ∨ P0_1_ k_ ∨ P1_1_ k_ ∨ P1_2_ k_) ∨ w.heap.size ≤ k_) ∧ some k_ ≠ (.slice Ao68 y211.length co68 : Value).ownBlock ∧ some k_ ≠ (.slice Ao69 y214.length co69 : Value).ownBlock ∧ k_ ≠ gb199 ∧ k_ ≠ gb200 ∧ k_ ≠ gb201)) (by (with_reducible repeat (first | apply Kd.N_alloc | apply Kd.N_drewN | apply Kd.N_drew)); exact Kd.N_mono HO225.out (fun _ hk => ⟨⟨hk.1, ⟨hk.2.1, ⟨hk.2.2.1, ⟨hk.2.2.2.2.1, ⟨hk.2.2.2.2.2.1, hk.2.2.2.2.2.2⟩⟩⟩⟩⟩, hk.2.2.2.1⟩)) hg hat); have n10_ := am_ (hb); have n11_ := am_ (ho); clear HO0_0; clear HO0_1; clear HO1_1; clear HO1_2; clear BK199; clear BK200; clear BK201; clear HO213; clear HO216; clear HO225; clear HB; clear HO219; have HO0_0 := n0_; have HO0_1 := n1_; have HO1_1 := n2_; have HO1_2 := n3_; have BK199 := n4_; have BK200 := n5_; have BK201 := n6_; have HO213 := n7_; have HO216 := n8_; have HO225 := n9_; have HB := n10_; have HO222 := n11_; clear n0_ n1_ n2_ n3_ n4_ n5_ n6_ n7_ n8_ n9_ n10_ n11_; clear ho hb hg hat; refine hK.out _ _ ⟨bc_ BK199.out 0, bc_ BK199.out 1, bc_ BK199.out 2, bc_ BK200.out 0, bc_ BK200.out 1, bc_ BK200.out 2⟩ (fun hHeld => ?_); clear hK K; refine norm_ (a' := ?_) ?_ ?_; rotate_left
           ·show Act.put _ (some 39) _ = _
            simp only [Act.put, sa_, sz_, ss_, i64_w, i32_w]; rfl
           exact norm_ (by simp only [putAll, Act.put, sa_, sz_, ss_]) (hCont (v218, v221, v224) _ ⟨hHeld, (by (with_reducible repeat (first | apply Kd.V_alloc | apply Kd.V_drewN | apply Kd.V_drew)); exact Kd.V_mono HO0_0.out (fun _ hk => ⟨hk.1.1, ⟨hk.1.2.1, ⟨hk.1.2.2.1, ⟨hk.2, ⟨hk.1.2.2.2.1, ⟨hk.1.2.2.2.2.1, ⟨hk.1.2.2.2.2.2.1, hk.1.2.2.2.2.2.2⟩⟩⟩⟩⟩⟩⟩)), (by (with_reducible repeat (first | apply Kd.V_alloc | apply Kd.V_drewN | apply Kd.V_drew)); exact Kd.V_mono HO0_1.out (fun _ hk => ⟨hk.1.1, ⟨hk.1.2.1, ⟨hk.1.2.2.1, ⟨hk.2, ⟨hk.1.2.2.2.1, ⟨hk.1.2.2.2.2.1, ⟨hk.1.2.2.2.2.2.1, hk.1.2.2.2.2.2.2⟩⟩⟩⟩⟩⟩⟩)), (by (with_reducible repeat (first | apply Kd.V_alloc | apply Kd.V_drewN | apply Kd.V_drew)); exact Kd.V_mono HO1_1.out (fun _ hk => ⟨hk.1.1, ⟨hk.1.2.1, ⟨hk.1.2.2.1, ⟨hk.2, ⟨hk.1.2.2.2.1, ⟨hk.1.2.2.2.2.1, ⟨hk.1.2.2.2.2.2.1, hk.1.2.2.2.2.2.2⟩⟩⟩⟩⟩⟩⟩)), (by (with_reducible repeat (first | apply Kd.V_alloc | apply Kd.V_drewN | apply Kd.V_drew)); exact Kd.V_mono HO1_2.out (fun _ hk => ⟨hk.1.1, ⟨hk.1.2.1, ⟨hk.1.2.2.1, ⟨hk.2, ⟨hk.1.2.2.2.1, ⟨hk.1.2.2.2.2.1, ⟨hk.1.2.2.2.2.2.1, hk.1.2.2.2.2.2.2⟩⟩⟩⟩⟩⟩⟩)), (by (with_reducible repeat (first | apply Kd.N_alloc | apply Kd.N_drewN | apply Kd.N_drew)); exact Kd.N_mono HO213.out (fun _ hk => ⟨hk.1.1, ⟨hk.1.2.1, ⟨hk.2, ⟨hk.1.2.2.1, ⟨hk.1.2.2.2.1, ⟨hk.1.2.2.2.2.1, hk.1.2.2.2.2.2⟩⟩⟩⟩⟩⟩)), (by (with_reducible repeat (first | apply Kd.N_alloc | apply Kd.N_drewN | apply Kd.N_drew)); exact Kd.N_mono HO216.out (fun _ hk => ⟨hk.1.1, ⟨hk.2, ⟨hk.1.2.1, ⟨hk.1.2.2.1, ⟨hk.1.2.2.2.1, hk.1.2.2.2.2⟩⟩⟩⟩⟩)), (kn_ HO222.out), (by (with_reducible repeat (first | apply Kd.N_alloc | apply Kd.N_drewN | apply Kd.N_drew)); exact Kd.N_mono HO225.out (fun _ hk => ⟨hk.1.1, ⟨hk.1.2.1, ⟨hk.1.2.2.1, ⟨hk.2, ⟨hk.1.2.2.2.1, ⟨hk.1.2.2.2.2.1, hk.1.2.2.2.2.2⟩⟩⟩⟩⟩⟩)), (bk_ BK199.out), (bk_ BK200.out), (bk_ BK201.out), (bl_)⟩)
         ·skip
          refine Kd.N_lit_step (Kd.slice 23 k23) _ 24 ?hg (N' := 42) ?hd (xs := ([l1_2] : List (List (S23)))) (inner := [.slice A1_2 l1_2.length c1_2]) (ok := (fun k_ => ((P0_0_ k_ ∨ P0_1_ k_ ∨ P1_1_ k_ ∨ P1_2_ k_) ∨ w.heap.size ≤ k_) ∧ some k_ ≠ (.slice Ao68 y211.length co68 : Value).ownBlock ∧ some k_ ≠ (.slice Ao69 y214.length co69 : Value).ownBlock ∧ k_ ≠ gb199 ∧ k_ ≠ gb200 ∧ k_ ≠ gb201)) (okp := (fun k_ => ((P0_0_ k_ ∨ P0_1_ k_ ∨ P1_1_ k_ ∨ P1_2_ k_) ∨ w.heap.size ≤ k_) ∧ some k_ ≠ (.slice Ao68 y211.length co68 : Value).ownBlock ∧ some k_ ≠ (.slice Ao69 y214.length co69 : Value).ownBlock ∧ k_ ≠ gb199 ∧ k_ ≠ gb200 ∧ k_ ≠ gb201)) ?hr ?hp (fun _ hk => hk) ((show ∀ k_, w72.heap.size ≤ k_ → (fun k_ => ((P0_0_ k_ ∨ P0_1_ k_ ∨ P1_1_ k_ ∨ P1_2_ k_) ∨ w.heap.size ≤ k_) ∧ some k_ ≠ (.slice Ao68 y211.length co68 : Value).ownBlock ∧ some k_ ≠ (.slice Ao69 y214.length co69 : Value).ownBlock ∧ k_ ≠ gb199 ∧ k_ ≠ gb200 ∧ k_ ≠ gb201) k_ from fun k_ hk => ⟨(.inr (Nat.le_trans (below_size (bl_)) hk)), Kd.fresh' (Kd.N_lt (kn_ HO213.out)) k_ hk, Kd.fresh' (Kd.N_lt (kn_ HO216.out)) k_ hk, Kd.freshB (g := gb199) (o := .cells #[.slice Ao69 y214.length co69, .slice A0_1 l0_1.length c0_1, .bool false] 58 (0, 0)) (bk_ BK199.out) k_ hk, Kd.freshB (g := gb200) (o := .cells #[.int .i64 a1_0, .slice A1_1 l1_1.length c1_1, .slice A1_2 l1_2.length c1_2] 39 (0, 0)) (bk_ BK200.out) k_ hk, Kd.freshB (g := gb201) (o := .cells #[.slice none 0 0, .slice none 0 0, .bool false] 58 (0, 0)) (bk_ BK201.out) k_ hk⟩) _ (Nat.le_refl _)) (Below.refl _ _) (Nat.le_refl _) (by simp) ?_; (case hd => rfl); (case hg => rfl); (case hr => first | (go_simp; done) | (go_simp; rfl)); (case hp => exact (Reps.one (show Kd.FK (Kd.slice 23 k23) _ _ l1_2 [.slice A1_2 l1_2.length c1_2] from (Kd.FK_slice_mk (Kd.V_reads' (Kd.V_mono (ok' := (fun k_ => ((P0_0_ k_ ∨ P0_1_ k_ ∨ P1_1_ k_ ∨ P1_2_ k_) ∨ w.heap.size ≤ k_) ∧ some k_ ≠ (.slice Ao68 y211.length co68 : Value).ownBlock ∧ some k_ ≠ (.slice Ao69 y214.length co69 : Value).ownBlock ∧ k_ ≠ gb199 ∧ k_ ≠ gb200 ∧ k_ ≠ gb201)) (kv_ (HO1_2.out)) (fun k_ hk => ⟨hk.1, ⟨hk.2.1, ⟨hk.2.2.1, ⟨hk.2.2.2.1, ⟨hk.2.2.2.2.1, hk.2.2.2.2.2⟩⟩⟩⟩⟩))).2.1 (Kd.V_F (Kd.V_mono (ok' := (fun k_ => ((P0_0_ k_ ∨ P0_1_ k_ ∨ P1_1_ k_ ∨ P1_2_ k_) ∨ w.heap.size ≤ k_) ∧ some k_ ≠ (.slice Ao68 y211.length co68 : Value).ownBlock ∧ some k_ ≠ (.slice Ao69 y214.length co69 : Value).ownBlock ∧ k_ ≠ gb199 ∧ k_ ≠ gb200 ∧ k_ ≠ gb201)) (kv_ (HO1_2.out)) (fun k_ hk => ⟨hk.1, ⟨hk.2.1, ⟨hk.2.2.1, ⟨hk.2.2.2.1, ⟨hk.2.2.2.2.1, hk.2.2.2.2.2⟩⟩⟩⟩⟩))))) (Reps.none _ _)))
          intro v224 w73 ho74 hb hg_ hnew_; clear hg_ hnew_; (first | rw [← Ny223.out] at ho74 | (simp only [Int.reduceToNat] at ho74; rw [← Ny223.out] at ho74)); have n0_ := am_ (Kd.V_elder' (kv_ HO0_0.out) (Kd.N_base ho74) hb); have n1_ := am_ (Kd.V_elder' (kv_ HO0_1.out) (Kd.N_base ho74) hb); have n2_ := am_ (Kd.V_elder' (kv_ HO1_1.out) (Kd.N_base ho74) hb); have n3_ := am_ (Kd.V_elder' (kv_ HO1_2.out) (Kd.N_base ho74) hb); have n4_ := am_ (Kd.N_elder' (kn_ HO213.out) (Kd.N_base ho74) hb); have n5_ := am_ (Kd.N_elder' (kn_ HO216.out) (Kd.N_base ho74) hb); have n6_ := am_ (Kd.N_lower ho74 (below_size (bl_))); have n7_ := am_ (blk_below (bk_ BK199.out) hb); have n8_ := am_ (blk_below (bk_ BK200.out) hb); have n9_ := am_ (blk_below (bk_ BK201.out) hb); have n10_ := am_ (below_step (bl_) hb); clear HO0_0; clear HO0_1; clear HO1_1; clear HO1_2; clear HO213; clear HO216; clear BK199; clear BK200; clear BK201; clear HB; have HO0_0 := n0_; have HO0_1 := n1_; have HO1_1 := n2_; have HO1_2 := n3_; have HO213 := n4_; have HO216 := n5_; have HO225 := n6_; have BK199 := n7_; have BK200 := n8_; have BK201 := n9_; have HB := n10_; clear n0_ n1_ n2_ n3_ n4_ n5_ n6_ n7_ n8_ n9_ n10_; clear hb ho74; refine hK.out _ _ ⟨bc_ BK199.out 0, bc_ BK199.out 1, bc_ BK199.out 2, bc_ BK200.out 0, bc_ BK200.out 1, bc_ BK200.out 2⟩ (fun hHeld => ?_); clear hK K; refine norm_ (a' := ?_) ?_ ?_; rotate_left
          ·show Act.put _ (some 42) _ = _
           simp only [Act.put, sa_, sz_, ss_, i64_w, i32_w]; rfl
          refine one_ (i := 0) (N := some 36) #[true, true, true, false, true, true, true, false, false, false] rfl rfl (one_of HT_.out (by kernel_rfl)) (by decide) (fun K hK => ?_)
          refine Kd.N_lit_step (Kd.slice 23 k23) _ 24 ?hg (N' := 36) ?hd (xs := ([] : List (List (S23)))) (inner := []) (ok := (fun k_ => ((P0_0_ k_ ∨ P0_1_ k_ ∨ P1_1_ k_ ∨ P1_2_ k_) ∨ w.heap.size ≤ k_) ∧ some k_ ≠ (.slice Ao68 y211.length co68 : Value).ownBlock ∧ some k_ ≠ (.slice Ao69 y214.length co69 : Value).ownBlock ∧ some k_ ≠ (v224 : Value).ownBlock ∧ k_ ≠ gb199 ∧ k_ ≠ gb200 ∧ k_ ≠ gb201)) (okp := (fun k_ => ((P0_0_ k_ ∨ P0_1_ k_ ∨ P1_1_ k_ ∨ P1_2_ k_) ∨ w.heap.size ≤ k_) ∧ some k_ ≠ (.slice Ao68 y211.length co68 : Value).ownBlock ∧ some k_ ≠ (.slice Ao69 y214.length co69 : Value).ownBlock ∧ some k_ ≠ (v224 : Value).ownBlock ∧ k_ ≠ gb199 ∧ k_ ≠ gb200 ∧ k_ ≠ gb201)) ?hr ?hp (fun _ hk => hk) ((show ∀ k_, w73.heap.size ≤ k_ → (fun k_ => ((P0_0_ k_ ∨ P0_1_ k_ ∨ P1_1_ k_ ∨ P1_2_ k_) ∨ w.heap.size ≤ k_) ∧ some k_ ≠ (.slice Ao68 y211.length co68 : Value).ownBlock ∧ some k_ ≠ (.slice Ao69 y214.length co69 : Value).ownBlock ∧ some k_ ≠ (v224 : Value).ownBlock ∧ k_ ≠ gb199 ∧ k_ ≠ gb200 ∧ k_ ≠ gb201) k_ from fun k_ hk => ⟨(.inr (Nat.le_trans (below_size (bl_)) hk)), Kd.fresh' (Kd.N_lt (kn_ HO213.out)) k_ hk, Kd.fresh' (Kd.N_lt (kn_ HO216.out)) k_ hk, Kd.fresh' (Kd.N_lt (kn_ HO225.out)) k_ hk, Kd.freshB (g := gb199) (o := .cells #[.slice Ao69 y214.length co69, .slice A0_1 l0_1.length c0_1, .bool false] 58 (0, 0)) (bk_ BK199.out) k_ hk, Kd.freshB (g := gb200) (o := .cells #[.int .i64 a1_0, .slice A1_1 l1_1.length c1_1, .slice A1_2 l1_2.length c1_2] 39 (0, 0)) (bk_ BK200.out) k_ hk, Kd.freshB (g := gb201) (o := .cells #[.slice none 0 0, .slice none 0 0, .bool false] 58 (0, 0)) (bk_ BK201.out) k_ hk⟩) _ (Nat.le_refl _)) (Below.refl _ _) (Nat.le_refl _) (by simp) ?_; (case hd => rfl); (case hg => rfl); (case hr => first | (go_simp; done) | (go_simp; rfl)); (case hp => exact (Reps.none _ _))
          intro v218 w75 ho76 hb hg_ hnew_; clear hg_ hnew_; (first | rw [← Ny217.out] at ho76 | (simp only [Int.reduceToNat] at ho76; rw [← Ny217.out] at ho76)); have n0_ := am_ (Kd.V_elder' (kv_ HO0_0.out) (Kd.N_base ho76) hb); have n1_ := am_ (Kd.V_elder' (kv_ HO0_1.out) (Kd.N_base ho76) hb); have n2_ := am_ (Kd.V_elder' (kv_ HO1_1.out) (Kd.N_base ho76) hb); have n3_ := am_ (Kd.V_elder' (kv_ HO1_2.out) (Kd.N_base ho76) hb); have n4_ := am_ (Kd.N_elder' (kn_ HO213.out) (Kd.N_base ho76) hb); have n5_ := am_ (Kd.N_elder' (kn_ HO216.out) (Kd.N_base ho76) hb); have n6_ := am_ (Kd.N_elder' (kn_ HO225.out) (Kd.N_base ho76) hb); have n7_ := am_ (Kd.N_lower ho76 (below_size (bl_))); have n8_ := am_ (blk_below (bk_ BK199.out) hb); have n9_ := am_ (blk_below (bk_ BK200.out) hb); have n10_ := am_ (blk_below (bk_ BK201.out) hb); have n11_ := am_ (below_step (bl_) hb); clear HO0_0; clear HO0_1; clear HO1_1; clear HO1_2; clear HO213; clear HO216; clear HO225; clear BK199; clear BK200; clear BK201; clear HB; have HO0_0 := n0_; have HO0_1 := n1_; have HO1_1 := n2_; have HO1_2 := n3_; have HO213 := n4_; have HO216 := n5_; have HO225 := n6_; have HO219 := n7_; have BK199 := n8_; have BK200 := n9_; have BK201 := n10_; have HB := n11_; clear n0_ n1_ n2_ n3_ n4_ n5_ n6_ n7_ n8_ n9_ n10_ n11_; clear hb ho76; refine hK.out _ _ ⟨bc_ BK199.out 0, bc_ BK199.out 1, bc_ BK199.out 2, bc_ BK200.out 0, bc_ BK200.out 1, bc_ BK200.out 2⟩ (fun hHeld => ?_); clear hK K; refine norm_ (a' := ?_) ?_ ?_; rotate_left
          ·show Act.put _ (some 36) _ = _
           simp only [Act.put, sa_, sz_, ss_, i64_w, i32_w]; rfl
          refine one_ (i := 3) (N := some 39) #[true, true, true, true, true, true, true, false, false, false] rfl rfl (one_of HT_.out (by kernel_rfl)) (by decide) (fun K hK => ?_); refine Kd.N_append_rows_step (Kd.slice 23 k23) (w0 := w) w.heap.size (by rfl) (.tmp 36) (.tmp 38) 26 24 (.slice none 0 0) 24 rfl Tryd.underlying26 info24 rfl (by decide) (by omega) v218 y217 l0_1 _ _ _ (fun k_ => ((P0_0_ k_ ∨ P0_1_ k_ ∨ P1_1_ k_ ∨ P1_2_ k_) ∨ w.heap.size ≤ k_) ∧ some k_ ≠ (.slice Ao68 y211.length co68 : Value).ownBlock ∧ some k_ ≠ (.slice Ao69 y214.length co69 : Value).ownBlock ∧ some k_ ≠ (v224 : Value).ownBlock ∧ k_ ≠ gb199 ∧ k_ ≠ gb200 ∧ k_ ≠ gb201) (fun k_ => ((fun k_ => ((P0_0_ k_ ∨ P0_1_ k_ ∨ P1_1_ k_ ∨ P1_2_ k_) ∨ w.heap.size ≤ k_) ∧ some k_ ≠ (.slice Ao68 y211.length co68 : Value).ownBlock ∧ some k_ ≠ (.slice Ao69 y214.length co69 : Value).ownBlock ∧ some k_ ≠ (v224 : Value).ownBlock ∧ k_ ≠ gb199 ∧ k_ ≠ gb200 ∧ k_ ≠ gb201)) k_ ∧ some k_ ≠ (v218 : Value).ownBlock) rfl rfl ?aO ?aR (fun _ hk => hk) ?aF ?aB ?aS ?aL ?_; (case aR => exact (by skip; exact Kd.V_F (Kd.V_mono (ok' := (fun k_ => ((fun k_ => ((P0_0_ k_ ∨ P0_1_ k_ ∨ P1_1_ k_ ∨ P1_2_ k_) ∨ w.heap.size ≤ k_) ∧ some k_ ≠ (.slice Ao68 y211.length co68 : Value).ownBlock ∧ some k_ ≠ (.slice Ao69 y214.length co69 : Value).ownBlock ∧ some k_ ≠ (v224 : Value).ownBlock ∧ k_ ≠ gb199 ∧ k_ ≠ gb200 ∧ k_ ≠ gb201)) k_ ∧ some k_ ≠ (v218 : Value).ownBlock)) (HO0_1.out) (fun k_ hk => ⟨⟨hk.1.1.1, ⟨hk.1.1.2.1, ⟨hk.1.1.2.2.1, ⟨hk.1.2, ⟨hk.1.1.2.2.2.1, ⟨hk.1.1.2.2.2.2.1, hk.1.1.2.2.2.2.2⟩⟩⟩⟩⟩⟩, hk.2⟩)))); (case aB => exact (bl_)); (case aF => exact (fun k_ hk => ⟨(.inr (Nat.le_trans (below_size (bl_)) hk)), Kd.fresh' (Kd.N_lt (kn_ HO213.out)) k_ hk, Kd.fresh' (Kd.N_lt (kn_ HO216.out)) k_ hk, Kd.fresh' (Kd.N_lt (kn_ HO225.out)) k_ hk, Kd.freshB (g := gb199) (o := .cells #[.slice Ao69 y214.length co69, .slice A0_1 l0_1.length c0_1, .bool false] 58 (0, 0)) (bk_ BK199.out) k_ hk, Kd.freshB (g := gb200) (o := .cells #[.int .i64 a1_0, .slice A1_1 l1_1.length c1_1, .slice A1_2 l1_2.length c1_2] 39 (0, 0)) (bk_ BK200.out) k_ hk, Kd.freshB (g := gb201) (o := .cells #[.slice none 0 0, .slice none 0 0, .bool false] 58 (0, 0)) (bk_ BK201.out) k_ hk⟩)); (case aO => exact (kn_ HO219.out)); (case aS => exact (below_size (bl_))); (case aL => have := LMc50.out; omega); intro v221 w77 ho hb hg hat; rw [← Ny220.out] at ho; have n0_ := am_ (Kd.V_afterv (ok := (fun k_ => ((P0_0_ k_ ∨ P0_1_ k_ ∨ P1_1_ k_ ∨ P1_2_ k_) ∨ w.heap.size ≤ k_) ∧ some k_ ≠ (.slice Ao68 y211.length co68 : Value).ownBlock ∧ some k_ ≠ (.slice Ao69 y214.length co69 : Value).ownBlock ∧ some k_ ≠ (v224 : Value).ownBlock ∧ k_ ≠ gb199 ∧ k_ ≠ gb200 ∧ k_ ≠ gb201)) (by (with_reducible repeat (first | apply Kd.V_alloc | apply Kd.V_drewN | apply Kd.V_drew)); exact Kd.V_mono HO0_0.out (fun _ hk => ⟨⟨hk.1.1.1, ⟨hk.1.1.2.1, ⟨hk.1.1.2.2.1, ⟨hk.1.2, ⟨hk.1.1.2.2.2.1, ⟨hk.1.1.2.2.2.2.1, hk.1.1.2.2.2.2.2⟩⟩⟩⟩⟩⟩, hk.2⟩)) hg hat); have n1_ := am_ (Kd.V_afterv (ok := (fun k_ => ((P0_0_ k_ ∨ P0_1_ k_ ∨ P1_1_ k_ ∨ P1_2_ k_) ∨ w.heap.size ≤ k_) ∧ some k_ ≠ (.slice Ao68 y211.length co68 : Value).ownBlock ∧ some k_ ≠ (.slice Ao69 y214.length co69 : Value).ownBlock ∧ some k_ ≠ (v224 : Value).ownBlock ∧ k_ ≠ gb199 ∧ k_ ≠ gb200 ∧ k_ ≠ gb201)) (by (with_reducible repeat (first | apply Kd.V_alloc | apply Kd.V_drewN | apply Kd.V_drew)); exact Kd.V_mono HO0_1.out (fun _ hk => ⟨⟨hk.1.1.1, ⟨hk.1.1.2.1, ⟨hk.1.1.2.2.1, ⟨hk.1.2, ⟨hk.1.1.2.2.2.1, ⟨hk.1.1.2.2.2.2.1, hk.1.1.2.2.2.2.2⟩⟩⟩⟩⟩⟩, hk.2⟩)) hg hat); have n2_ := am_ (Kd.V_afterv (ok := (fun k_ => ((P0_0_ k_ ∨ P0_1_ k_ ∨ P1_1_ k_ ∨ P1_2_ k_) ∨ w.heap.size ≤ k_) ∧ some k_ ≠ (.slice Ao68 y211.length co68 : Value).ownBlock ∧ some k_ ≠ (.slice Ao69 y214.length co69 : Value).ownBlock ∧ some k_ ≠ (v224 : Value).ownBlock ∧ k_ ≠ gb199 ∧ k_ ≠ gb200 ∧ k_ ≠ gb201)) (by (with_reducible repeat (first | apply Kd.V_alloc | apply Kd.V_drewN | apply Kd.V_drew)); exact Kd.V_mono HO1_1.out (fun _ hk => ⟨⟨hk.1.1.1, ⟨hk.1.1.2.1, ⟨hk.1.1.2.2.1, ⟨hk.1.2, ⟨hk.1.1.2.2.2.1, ⟨hk.1.1.2.2.2.2.1, hk.1.1.2.2.2.2.2⟩⟩⟩⟩⟩⟩, hk.2⟩)) hg hat); have n3_ := am_ (Kd.V_afterv (ok := (fun k_ => ((P0_0_ k_ ∨ P0_1_ k_ ∨ P1_1_ k_ ∨ P1_2_ k_) ∨ w.heap.size ≤ k_) ∧ some k_ ≠ (.slice Ao68 y211.length co68 : Value).ownBlock ∧ some k_ ≠ (.slice Ao69 y214.length co69 : Value).ownBlock ∧ some k_ ≠ (v224 : Value).ownBlock ∧ k_ ≠ gb199 ∧ k_ ≠ gb200 ∧ k_ ≠ gb201)) (by (with_reducible repeat (first | apply Kd.V_alloc | apply Kd.V_drewN | apply Kd.V_drew)); exact Kd.V_mono HO1_2.out (fun _ hk => ⟨⟨hk.1.1.1, ⟨hk.1.1.2.1, ⟨hk.1.1.2.2.1, ⟨hk.1.2, ⟨hk.1.1.2.2.2.1, ⟨hk.1.1.2.2.2.2.1, hk.1.1.2.2.2.2.2⟩⟩⟩⟩⟩⟩, hk.2⟩)) hg hat); have n4_ := am_ (blk_grown (g := gb199) (o := .cells #[.slice Ao69 y214.length co69, .slice A0_1 l0_1.length c0_1, .bool false] 58 (0, 0)) (bk_ BK199.out) hg (Kd.N_ne HO219.out BK199.out (by decide))); have n5_ := am_ (blk_grown (g := gb200) (o := .cells #[.int .i64 a1_0, .slice A1_1 l1_1.length c1_1, .slice A1_2 l1_2.length c1_2] 39 (0, 0)) (bk_ BK200.out) hg (Kd.N_ne HO219.out BK200.out (by decide))); have n6_ := am_ (blk_grown (g := gb201) (o := .cells #[.slice none 0 0, .slice none 0 0, .bool false] 58 (0, 0)) (bk_ BK201.out) hg (Kd.N_ne HO219.out BK201.out (by decide))); have n7_ := am_ (Kd.N_afterv (ok := (fun k_ => ((P0_0_ k_ ∨ P0_1_ k_ ∨ P1_1_ k_ ∨ P1_2_ k_) ∨ w.heap.size ≤ k_) ∧ some k_ ≠ (.slice Ao69 y214.length co69 : Value).ownBlock ∧ some k_ ≠ (v224 : Value).ownBlock ∧ k_ ≠ gb199 ∧ k_ ≠ gb200 ∧ k_ ≠ gb201)) (by (with_reducible repeat (first | apply Kd.N_alloc | apply Kd.N_drewN | apply Kd.N_drew)); exact Kd.N_mono HO213.out (fun _ hk => ⟨⟨hk.1.1.1, ⟨hk.1.1.2.1, ⟨hk.1.2, ⟨hk.1.1.2.2.1, ⟨hk.1.1.2.2.2.1, hk.1.1.2.2.2.2⟩⟩⟩⟩⟩, hk.2⟩)) hg hat); have n8_ := am_ (Kd.N_afterv (ok := (fun k_ => ((P0_0_ k_ ∨ P0_1_ k_ ∨ P1_1_ k_ ∨ P1_2_ k_) ∨ w.heap.size ≤ k_) ∧ some k_ ≠ (v224 : Value).ownBlock ∧ k_ ≠ gb199 ∧ k_ ≠ gb200 ∧ k_ ≠ gb201)) (by (with_reducible repeat (first | apply Kd.N_alloc | apply Kd.N_drewN | apply Kd.N_drew)); exact Kd.N_mono HO216.out (fun _ hk => ⟨⟨hk.1.1.1, ⟨hk.1.2, ⟨hk.1.1.2.1, ⟨hk.1.1.2.2.1, hk.1.1.2.2.2⟩⟩⟩⟩, hk.2⟩)) hg hat); have n9_ := am_ (Kd.N_afterv (ok := (fun k_ => ((P0_0_ k_ ∨ P0_1_ k_ ∨ P1_1_ k_ ∨ P1_2_ k_) ∨ w.heap.size ≤ k_) ∧ some k_ ≠ (.slice Ao68 y211.length co68 : Value).ownBlock ∧ some k_ ≠ (.slice Ao69 y214.length co69 : Value).ownBlock ∧ k_ ≠ gb199 ∧ k_ ≠ gb200 ∧ k_ ≠ gb201)) (kn_ HO225.out) hg hat); have n10_ := am_ (hb); have n11_ := am_ (ho); clear HO0_0; clear HO0_1; clear HO1_1; clear HO1_2; clear BK199; clear BK200; clear BK201; clear HO213; clear HO216; clear HO225; clear HB; clear HO219; have HO0_0 := n0_; have HO0_1 := n1_; have HO1_1 := n2_; have HO1_2 := n3_; have BK199 := n4_; have BK200 := n5_; have BK201 := n6_; have HO213 := n7_; have HO216 := n8_; have HO225 := n9_; have HB := n10_; have HO222 := n11_; clear n0_ n1_ n2_ n3_ n4_ n5_ n6_ n7_ n8_ n9_ n10_ n11_; clear ho hb hg hat; refine hK.out _ _ ⟨bc_ BK199.out 0, bc_ BK199.out 1, bc_ BK199.out 2, bc_ BK200.out 0, bc_ BK200.out 1, bc_ BK200.out 2⟩ (fun hHeld => ?_); clear hK K; refine norm_ (a' := ?_) ?_ ?_; rotate_left
          ·show Act.put _ (some 39) _ = _
           simp only [Act.put, sa_, sz_, ss_, i64_w, i32_w]; rfl
          exact norm_ (by simp only [putAll, Act.put, sa_, sz_, ss_]) (hCont (v218, v221, v224) _ ⟨hHeld, (by (with_reducible repeat (first | apply Kd.V_alloc | apply Kd.V_drewN | apply Kd.V_drew)); exact Kd.V_mono HO0_0.out (fun _ hk => ⟨hk.1.1, ⟨hk.1.2.1, ⟨hk.1.2.2.1, ⟨hk.2, ⟨hk.1.2.2.2.1, ⟨hk.1.2.2.2.2.1, ⟨hk.1.2.2.2.2.2.1, hk.1.2.2.2.2.2.2⟩⟩⟩⟩⟩⟩⟩)), (by (with_reducible repeat (first | apply Kd.V_alloc | apply Kd.V_drewN | apply Kd.V_drew)); exact Kd.V_mono HO0_1.out (fun _ hk => ⟨hk.1.1, ⟨hk.1.2.1, ⟨hk.1.2.2.1, ⟨hk.2, ⟨hk.1.2.2.2.1, ⟨hk.1.2.2.2.2.1, ⟨hk.1.2.2.2.2.2.1, hk.1.2.2.2.2.2.2⟩⟩⟩⟩⟩⟩⟩)), (by (with_reducible repeat (first | apply Kd.V_alloc | apply Kd.V_drewN | apply Kd.V_drew)); exact Kd.V_mono HO1_1.out (fun _ hk => ⟨hk.1.1, ⟨hk.1.2.1, ⟨hk.1.2.2.1, ⟨hk.2, ⟨hk.1.2.2.2.1, ⟨hk.1.2.2.2.2.1, ⟨hk.1.2.2.2.2.2.1, hk.1.2.2.2.2.2.2⟩⟩⟩⟩⟩⟩⟩)), (by (with_reducible repeat (first | apply Kd.V_alloc | apply Kd.V_drewN | apply Kd.V_drew)); exact Kd.V_mono HO1_2.out (fun _ hk => ⟨hk.1.1, ⟨hk.1.2.1, ⟨hk.1.2.2.1, ⟨hk.2, ⟨hk.1.2.2.2.1, ⟨hk.1.2.2.2.2.1, ⟨hk.1.2.2.2.2.2.1, hk.1.2.2.2.2.2.2⟩⟩⟩⟩⟩⟩⟩)), (by (with_reducible repeat (first | apply Kd.N_alloc | apply Kd.N_drewN | apply Kd.N_drew)); exact Kd.N_mono HO213.out (fun _ hk => ⟨hk.1.1, ⟨hk.1.2.1, ⟨hk.2, ⟨hk.1.2.2.1, ⟨hk.1.2.2.2.1, ⟨hk.1.2.2.2.2.1, hk.1.2.2.2.2.2⟩⟩⟩⟩⟩⟩)), (by (with_reducible repeat (first | apply Kd.N_alloc | apply Kd.N_drewN | apply Kd.N_drew)); exact Kd.N_mono HO216.out (fun _ hk => ⟨hk.1.1, ⟨hk.2, ⟨hk.1.2.1, ⟨hk.1.2.2.1, ⟨hk.1.2.2.2.1, hk.1.2.2.2.2⟩⟩⟩⟩⟩)), (kn_ HO222.out), (by (with_reducible repeat (first | apply Kd.N_alloc | apply Kd.N_drewN | apply Kd.N_drew)); exact Kd.N_mono HO225.out (fun _ hk => ⟨hk.1.1, ⟨hk.1.2.1, ⟨hk.1.2.2.1, ⟨hk.2, ⟨hk.1.2.2.2.1, ⟨hk.1.2.2.2.2.1, hk.1.2.2.2.2.2⟩⟩⟩⟩⟩⟩)), (bk_ BK199.out), (bk_ BK200.out), (bk_ BK201.out), (bl_)⟩)
        rintro ⟨v218, v221, v224⟩ w78 ⟨hS_, h0_, h1_, h2_, h3_, h4_, h5_, h6_, h7_, h8_, h9_, h10_, h11_⟩; have n0_ : Aside0 (Kd.V (Kd.slice 23 k23) 24 w78 w.heap.size (fun k_ => ((P0_0_ k_ ∨ P0_1_ k_ ∨ P1_1_ k_ ∨ P1_2_ k_) ∨ w.heap.size ≤ k_) ∧ some k_ ≠ (.slice Ao68 y211.length co68 : Value).ownBlock ∧ some k_ ≠ (.slice Ao69 y214.length co69 : Value).ownBlock ∧ some k_ ≠ (v221 : Value).ownBlock ∧ some k_ ≠ (v224 : Value).ownBlock ∧ k_ ≠ gb199 ∧ k_ ≠ gb200 ∧ k_ ≠ gb201) (.slice A0_0 l0_0.length c0_0) l0_0) := ⟨h0_⟩; have n1_ : Aside0 (Kd.V (Kd.slice 23 k23) 24 w78 w.heap.size (fun k_ => ((P0_0_ k_ ∨ P0_1_ k_ ∨ P1_1_ k_ ∨ P1_2_ k_) ∨ w.heap.size ≤ k_) ∧ some k_ ≠ (.slice Ao68 y211.length co68 : Value).ownBlock ∧ some k_ ≠ (.slice Ao69 y214.length co69 : Value).ownBlock ∧ some k_ ≠ (v221 : Value).ownBlock ∧ some k_ ≠ (v224 : Value).ownBlock ∧ k_ ≠ gb199 ∧ k_ ≠ gb200 ∧ k_ ≠ gb201) (.slice A0_1 l0_1.length c0_1) l0_1) := ⟨h1_⟩; have n2_ : Aside0 (Kd.V k23 23 w78 w.heap.size (fun k_ => ((P0_0_ k_ ∨ P0_1_ k_ ∨ P1_1_ k_ ∨ P1_2_ k_) ∨ w.heap.size ≤ k_) ∧ some k_ ≠ (.slice Ao68 y211.length co68 : Value).ownBlock ∧ some k_ ≠ (.slice Ao69 y214.length co69 : Value).ownBlock ∧ some k_ ≠ (v221 : Value).ownBlock ∧ some k_ ≠ (v224 : Value).ownBlock ∧ k_ ≠ gb199 ∧ k_ ≠ gb200 ∧ k_ ≠ gb201) (.slice A1_1 l1_1.length c1_1) l1_1) := ⟨h2_⟩; have n3_ : Aside0 (Kd.V k23 23 w78 w.heap.size (fun k_ => ((P0_0_ k_ ∨ P0_1_ k_ ∨ P1_1_ k_ ∨ P1_2_ k_) ∨ w.heap.size ≤ k_) ∧ some k_ ≠ (.slice Ao68 y211.length co68 : Value).ownBlock ∧ some k_ ≠ (.slice Ao69 y214.length co69 : Value).ownBlock ∧ some k_ ≠ (v221 : Value).ownBlock ∧ some k_ ≠ (v224 : Value).ownBlock ∧ k_ ≠ gb199 ∧ k_ ≠ gb200 ∧ k_ ≠ gb201) (.slice A1_2 l1_2.length c1_2) l1_2) := ⟨h3_⟩; have n4_ : Aside0 (Kd.N (Kd.slice 23 k23) 24 w78 w.heap.size (fun k_ => ((P0_0_ k_ ∨ P0_1_ k_ ∨ P1_1_ k_ ∨ P1_2_ k_) ∨ w.heap.size ≤ k_) ∧ some k_ ≠ (.slice Ao69 y214.length co69 : Value).ownBlock ∧ some k_ ≠ (v221 : Value).ownBlock ∧ some k_ ≠ (v224 : Value).ownBlock ∧ k_ ≠ gb199 ∧ k_ ≠ gb200 ∧ k_ ≠ gb201) (.slice Ao68 y211.length co68) y211) := ⟨h4_⟩; have n5_ : Aside0 (Kd.N (Kd.slice 23 k23) 24 w78 w.heap.size (fun k_ => ((P0_0_ k_ ∨ P0_1_ k_ ∨ P1_1_ k_ ∨ P1_2_ k_) ∨ w.heap.size ≤ k_) ∧ some k_ ≠ (v221 : Value).ownBlock ∧ some k_ ≠ (v224 : Value).ownBlock ∧ k_ ≠ gb199 ∧ k_ ≠ gb200 ∧ k_ ≠ gb201) (.slice Ao69 y214.length co69) y214) := ⟨h5_⟩; have n6_ : Aside0 (Kd.N (Kd.slice 23 k23) 24 w78 w.heap.size (fun k_ => ((P0_0_ k_ ∨ P0_1_ k_ ∨ P1_1_ k_ ∨ P1_2_ k_) ∨ w.heap.size ≤ k_) ∧ some k_ ≠ (.slice Ao68 y211.length co68 : Value).ownBlock ∧ some k_ ≠ (.slice Ao69 y214.length co69 : Value).ownBlock ∧ some k_ ≠ (v224 : Value).ownBlock ∧ k_ ≠ gb199 ∧ k_ ≠ gb200 ∧ k_ ≠ gb201) v221 y220) := ⟨h6_⟩; have n7_ : Aside0 (Kd.N (Kd.slice 23 k23) 24 w78 w.heap.size (fun k_ => ((P0_0_ k_ ∨ P0_1_ k_ ∨ P1_1_ k_ ∨ P1_2_ k_) ∨ w.heap.size ≤ k_) ∧ some k_ ≠ (.slice Ao68 y211.length co68 : Value).ownBlock ∧ some k_ ≠ (.slice Ao69 y214.length co69 : Value).ownBlock ∧ some k_ ≠ (v221 : Value).ownBlock ∧ k_ ≠ gb199 ∧ k_ ≠ gb200 ∧ k_ ≠ gb201) v224 y223) := ⟨h7_⟩; have n8_ : Aside0 (w78.heap[gb199]? = some (.cells #[.slice Ao69 y214.length co69, .slice A0_1 l0_1.length c0_1, .bool false] 58 (0, 0))) := ⟨h8_⟩; have n9_ : Aside0 (w78.heap[gb200]? = some (.cells #[.int .i64 a1_0, .slice A1_1 l1_1.length c1_1, .slice A1_2 l1_2.length c1_2] 39 (0, 0))) := ⟨h9_⟩; have n10_ : Aside0 (w78.heap[gb201]? = some (.cells #[.slice none 0 0, .slice none 0 0, .bool false] 58 (0, 0))) := ⟨h10_⟩; have n11_ : Aside0 (Below w.heap.size w w78) := ⟨h11_⟩; clear HO0_0; clear HO0_1; clear HO1_1; clear HO1_2; clear HO213; clear HO216; clear BK199; clear BK200; clear BK201; clear HB; clear h0_ h1_ h2_ h3_ h4_ h5_ h6_ h7_ h8_ h9_ h10_ h11_; have HO0_0 := n0_; have HO0_1 := n1_; have HO1_1 := n2_; have HO1_2 := n3_; have HO213 := n4_; have HO216 := n5_; have HO222 := n6_; have HO225 := n7_; have BK199 := n8_; have BK200 := n9_; have BK201 := n10_; have HB := n11_; clear n0_ n1_ n2_ n3_ n4_ n5_ n6_ n7_ n8_ n9_ n10_ n11_; have hHeld : w78.cell? ⟨gb199, 0, none⟩ = some (.slice Ao69 y214.length co69) ∧ w78.cell? ⟨gb199, 1, none⟩ = some (.slice A0_1 l0_1.length c0_1) ∧ w78.cell? ⟨gb199, 2, none⟩ = some (.bool false) ∧ w78.cell? ⟨gb200, 0, none⟩ = some (.int .i64 a1_0) ∧ w78.cell? ⟨gb200, 1, none⟩ = some (.slice A1_1 l1_1.length c1_1) ∧ w78.cell? ⟨gb200, 2, none⟩ = some (.slice A1_2 l1_2.length c1_2) := hS_; obtain ⟨Ao80, co80, eo80⟩ := Kd.N_slice HO225.out; (first | subst eo80 | (injection eo80 with f1_ f2_ f3_; have f4_ := f1_.symm; have f5_ := f3_.symm; clear f1_ f2_ f3_; subst f4_; subst f5_)); refine norm_ (a' := ?_) ?_ ?_; rotate_left
        ·simp only [putAll, Act.put, sa_, sz_, ss_]
         rfl
        refine one_ (i := 7) (N := some 43) #[true, true, true, true, true, true, true, true, false, false] rfl rfl (one_of HT_.out (by kernel_rfl)) (by decide) (fun K hK => ?_); refine Kd.N_append_rows_step (Kd.slice 23 k23) (w0 := w) w.heap.size (by rfl) (.tmp 39) (.tmp 42) 26 24 (.slice none 0 0) 24 rfl Tryd.underlying26 info24 rfl (by decide) (by omega) v221 y220 y223 _ _ _ (fun k_ => ((P0_0_ k_ ∨ P0_1_ k_ ∨ P1_1_ k_ ∨ P1_2_ k_) ∨ w.heap.size ≤ k_) ∧ some k_ ≠ (.slice Ao68 y211.length co68 : Value).ownBlock ∧ some k_ ≠ (.slice Ao69 y214.length co69 : Value).ownBlock ∧ k_ ≠ gb199 ∧ k_ ≠ gb200 ∧ k_ ≠ gb201) (fun k_ => ((fun k_ => ((P0_0_ k_ ∨ P0_1_ k_ ∨ P1_1_ k_ ∨ P1_2_ k_) ∨ w.heap.size ≤ k_) ∧ some k_ ≠ (.slice Ao68 y211.length co68 : Value).ownBlock ∧ some k_ ≠ (.slice Ao69 y214.length co69 : Value).ownBlock ∧ k_ ≠ gb199 ∧ k_ ≠ gb200 ∧ k_ ≠ gb201)) k_ ∧ some k_ ≠ (v221 : Value).ownBlock) rfl rfl ?aO ?aR (fun _ hk => hk) ?aF ?aB ?aS ?aL ?_; (case aR => exact (by skip; exact Kd.N_F (Kd.N_mono (ok' := (fun k_ => ((fun k_ => ((P0_0_ k_ ∨ P0_1_ k_ ∨ P1_1_ k_ ∨ P1_2_ k_) ∨ w.heap.size ≤ k_) ∧ some k_ ≠ (.slice Ao68 y211.length co68 : Value).ownBlock ∧ some k_ ≠ (.slice Ao69 y214.length co69 : Value).ownBlock ∧ k_ ≠ gb199 ∧ k_ ≠ gb200 ∧ k_ ≠ gb201)) k_ ∧ some k_ ≠ (v221 : Value).ownBlock)) (HO225.out) (fun k_ hk => ⟨⟨hk.1, ⟨hk.2.1, ⟨hk.2.2.1, ⟨hk.2.2.2.2.1, ⟨hk.2.2.2.2.2.1, hk.2.2.2.2.2.2⟩⟩⟩⟩⟩, hk.2.2.2.1⟩)))); (case aB => exact (bl_)); (case aF => exact (fun k_ hk => ⟨(.inr (Nat.le_trans (below_size (bl_)) hk)), Kd.fresh' (Kd.N_lt (kn_ HO213.out)) k_ hk, Kd.fresh' (Kd.N_lt (kn_ HO216.out)) k_ hk, Kd.freshB (g := gb199) (o := .cells #[.slice Ao69 y214.length co69, .slice A0_1 l0_1.length c0_1, .bool false] 58 (0, 0)) (bk_ BK199.out) k_ hk, Kd.freshB (g := gb200) (o := .cells #[.int .i64 a1_0, .slice A1_1 l1_1.length c1_1, .slice A1_2 l1_2.length c1_2] 39 (0, 0)) (bk_ BK200.out) k_ hk, Kd.freshB (g := gb201) (o := .cells #[.slice none 0 0, .slice none 0 0, .bool false] 58 (0, 0)) (bk_ BK201.out) k_ hk⟩)); (case aO => exact (by (with_reducible repeat (first | apply Kd.N_alloc | apply Kd.N_drewN | apply Kd.N_drew)); exact Kd.N_mono HO222.out (fun _ hk => ⟨hk.1, ⟨hk.2.1, ⟨hk.2.2.1, ⟨hk.2.2.2.2.1, ⟨hk.2.2.2.2.2.1, hk.2.2.2.2.2.2⟩⟩⟩⟩⟩))); (case aS => exact (below_size (bl_))); (case aL => have := LMc51.out; omega); intro v227 w79 ho hb hg hat; rw [← Ny226.out] at ho; have n0_ := am_ (Kd.V_afterv (ok := (fun k_ => ((P0_0_ k_ ∨ P0_1_ k_ ∨ P1_1_ k_ ∨ P1_2_ k_) ∨ w.heap.size ≤ k_) ∧ some k_ ≠ (.slice Ao68 y211.length co68 : Value).ownBlock ∧ some k_ ≠ (.slice Ao69 y214.length co69 : Value).ownBlock ∧ some k_ ≠ (.slice Ao80 y223.length co80 : Value).ownBlock ∧ k_ ≠ gb199 ∧ k_ ≠ gb200 ∧ k_ ≠ gb201)) (by (with_reducible repeat (first | apply Kd.V_alloc | apply Kd.V_drewN | apply Kd.V_drew)); exact Kd.V_mono HO0_0.out (fun _ hk => ⟨⟨hk.1, ⟨hk.2.1, ⟨hk.2.2.1, ⟨hk.2.2.2.2.1, ⟨hk.2.2.2.2.2.1, ⟨hk.2.2.2.2.2.2.1, hk.2.2.2.2.2.2.2⟩⟩⟩⟩⟩⟩, hk.2.2.2.1⟩)) hg hat); have n1_ := am_ (Kd.V_afterv (ok := (fun k_ => ((P0_0_ k_ ∨ P0_1_ k_ ∨ P1_1_ k_ ∨ P1_2_ k_) ∨ w.heap.size ≤ k_) ∧ some k_ ≠ (.slice Ao68 y211.length co68 : Value).ownBlock ∧ some k_ ≠ (.slice Ao69 y214.length co69 : Value).ownBlock ∧ some k_ ≠ (.slice Ao80 y223.length co80 : Value).ownBlock ∧ k_ ≠ gb199 ∧ k_ ≠ gb200 ∧ k_ ≠ gb201)) (by (with_reducible repeat (first | apply Kd.V_alloc | apply Kd.V_drewN | apply Kd.V_drew)); exact Kd.V_mono HO0_1.out (fun _ hk => ⟨⟨hk.1, ⟨hk.2.1, ⟨hk.2.2.1, ⟨hk.2.2.2.2.1, ⟨hk.2.2.2.2.2.1, ⟨hk.2.2.2.2.2.2.1, hk.2.2.2.2.2.2.2⟩⟩⟩⟩⟩⟩, hk.2.2.2.1⟩)) hg hat); have n2_ := am_ (Kd.V_afterv (ok := (fun k_ => ((P0_0_ k_ ∨ P0_1_ k_ ∨ P1_1_ k_ ∨ P1_2_ k_) ∨ w.heap.size ≤ k_) ∧ some k_ ≠ (.slice Ao68 y211.length co68 : Value).ownBlock ∧ some k_ ≠ (.slice Ao69 y214.length co69 : Value).ownBlock ∧ some k_ ≠ (.slice Ao80 y223.length co80 : Value).ownBlock ∧ k_ ≠ gb199 ∧ k_ ≠ gb200 ∧ k_ ≠ gb201)) (by (with_reducible repeat (first | apply Kd.V_alloc | apply Kd.V_drewN | apply Kd.V_drew)); exact Kd.V_mono HO1_1.out (fun _ hk => ⟨⟨hk.1, ⟨hk.2.1, ⟨hk.2.2.1, ⟨hk.2.2.2.2.1, ⟨hk.2.2.2.2.2.1, ⟨hk.2.2.2.2.2.2.1, hk.2.2.2.2.2.2.2⟩⟩⟩⟩⟩⟩, hk.2.2.2.1⟩)) hg hat); have n3_ := am_ (Kd.V_afterv (ok := (fun k_ => ((P0_0_ k_ ∨ P0_1_ k_ ∨ P1_1_ k_ ∨ P1_2_ k_) ∨ w.heap.size ≤ k_) ∧ some k_ ≠ (.slice Ao68 y211.length co68 : Value).ownBlock ∧ some k_ ≠ (.slice Ao69 y214.length co69 : Value).ownBlock ∧ some k_ ≠ (.slice Ao80 y223.length co80 : Value).ownBlock ∧ k_ ≠ gb199 ∧ k_ ≠ gb200 ∧ k_ ≠ gb201)) (by (with_reducible repeat (first | apply Kd.V_alloc | apply Kd.V_drewN | apply Kd.V_drew)); exact Kd.V_mono HO1_2.out (fun _ hk => ⟨⟨hk.1, ⟨hk.2.1, ⟨hk.2.2.1, ⟨hk.2.2.2.2.1, ⟨hk.2.2.2.2.2.1, ⟨hk.2.2.2.2.2.2.1, hk.2.2.2.2.2.2.2⟩⟩⟩⟩⟩⟩, hk.2.2.2.1⟩)) hg hat); have n4_ := am_ (blk_grown (g := gb199) (o := .cells #[.slice Ao69 y214.length co69, .slice A0_1 l0_1.length c0_1, .bool false] 58 (0, 0)) (bk_ BK199.out) hg (Kd.N_ne HO222.out BK199.out (by decide))); have n5_ := am_ (blk_grown (g := gb200) (o := .cells #[.int .i64 a1_0, .slice A1_1 l1_1.length c1_1, .slice A1_2 l1_2.length c1_2] 39 (0, 0)) (bk_ BK200.out) hg (Kd.N_ne HO222.out BK200.out (by decide))); have n6_ := am_ (blk_grown (g := gb201) (o := .cells #[.slice none 0 0, .slice none 0 0, .bool false] 58 (0, 0)) (bk_ BK201.out) hg (Kd.N_ne HO222.out BK201.out (by decide))); have n7_ := am_ (Kd.N_afterv (ok := (fun k_ => ((P0_0_ k_ ∨ P0_1_ k_ ∨ P1_1_ k_ ∨ P1_2_ k_) ∨ w.heap.size ≤ k_) ∧ some k_ ≠ (.slice Ao69 y214.length co69 : Value).ownBlock ∧ some k_ ≠ (.slice Ao80 y223.length co80 : Value).ownBlock ∧ k_ ≠ gb199 ∧ k_ ≠ gb200 ∧ k_ ≠ gb201)) (by (with_reducible repeat (first | apply Kd.N_alloc | apply Kd.N_drewN | apply Kd.N_drew)); exact Kd.N_mono HO213.out (fun _ hk => ⟨⟨hk.1, ⟨hk.2.1, ⟨hk.2.2.2.1, ⟨hk.2.2.2.2.1, ⟨hk.2.2.2.2.2.1, hk.2.2.2.2.2.2⟩⟩⟩⟩⟩, hk.2.2.1⟩)) hg hat); have n8_ := am_ (Kd.N_afterv (ok := (fun k_ => ((P0_0_ k_ ∨ P0_1_ k_ ∨ P1_1_ k_ ∨ P1_2_ k_) ∨ w.heap.size ≤ k_) ∧ some k_ ≠ (.slice Ao80 y223.length co80 : Value).ownBlock ∧ k_ ≠ gb199 ∧ k_ ≠ gb200 ∧ k_ ≠ gb201)) (by (with_reducible repeat (first | apply Kd.N_alloc | apply Kd.N_drewN | apply Kd.N_drew)); exact Kd.N_mono HO216.out (fun _ hk => ⟨⟨hk.1, ⟨hk.2.2.1, ⟨hk.2.2.2.1, ⟨hk.2.2.2.2.1, hk.2.2.2.2.2⟩⟩⟩⟩, hk.2.1⟩)) hg hat); have n9_ := am_ (Kd.N_afterv (ok := (fun k_ => ((P0_0_ k_ ∨ P0_1_ k_ ∨ P1_1_ k_ ∨ P1_2_ k_) ∨ w.heap.size ≤ k_) ∧ some k_ ≠ (.slice Ao68 y211.length co68 : Value).ownBlock ∧ some k_ ≠ (.slice Ao69 y214.length co69 : Value).ownBlock ∧ k_ ≠ gb199 ∧ k_ ≠ gb200 ∧ k_ ≠ gb201)) (by (with_reducible repeat (first | apply Kd.N_alloc | apply Kd.N_drewN | apply Kd.N_drew)); exact Kd.N_mono HO225.out (fun _ hk => ⟨⟨hk.1, ⟨hk.2.1, ⟨hk.2.2.1, ⟨hk.2.2.2.2.1, ⟨hk.2.2.2.2.2.1, hk.2.2.2.2.2.2⟩⟩⟩⟩⟩, hk.2.2.2.1⟩)) hg hat); have n10_ := am_ (hb); have n11_ := am_ (ho); clear HO0_0; clear HO0_1; clear HO1_1; clear HO1_2; clear BK199; clear BK200; clear BK201; clear HO213; clear HO216; clear HO225; clear HB; clear HO222; have HO0_0 := n0_; have HO0_1 := n1_; have HO1_1 := n2_; have HO1_2 := n3_; have BK199 := n4_; have BK200 := n5_; have BK201 := n6_; have HO213 := n7_; have HO216 := n8_; have HO225 := n9_; have HB := n10_; have HO228 := n11_; clear n0_ n1_ n2_ n3_ n4_ n5_ n6_ n7_ n8_ n9_ n10_ n11_; clear ho hb hg hat; obtain ⟨Ao81, co81, eo81⟩ := Kd.N_slice HO228.out; (first | subst eo81 | (injection eo81 with f1_ f2_ f3_; have f4_ := f1_.symm; have f5_ := f3_.symm; clear f1_ f2_ f3_; subst f4_; subst f5_)); refine hK.out _ _ ⟨bc_ BK199.out 0, bc_ BK199.out 1, bc_ BK199.out 2, bc_ BK200.out 0, bc_ BK200.out 1, bc_ BK200.out 2⟩ (fun hHeld => ?_); clear hK K; refine norm_ (a' := ?_) ?_ ?_; rotate_left
        ·show Act.put _ (some 43) _ = _
         simp only [Act.put, sa_, sz_, ss_, i64_w, i32_w]; rfl
        refine pure_ (i := 8) (N := some 44) (v := ?_) (a' := ?_) #[true, true, true, true, true, true, true, true, true, false] rfl rfl (any_of HT_.out (by kernel_rfl)) (fun _ _ _ h => h) (Or.inl ⟨by rfl, ?_⟩) ?_ ?_; rotate_left
        ·intro w'
         go_simp; (with_reducible rfl)
        rotate_left
        ·simp only [Act.put, sa_, sz_, ss_, i64_w, i32_w]
         rfl
        refine last_ (i := 9) (N := none) #[true, true, true, true, true, true, true, true, true, true] rfl rfl (one_of HT_.out (by kernel_rfl)) (by decide) (fun K hK => ?_); have hs82 : w79.cell? ⟨gb199, 1, none⟩ = some (.slice A0_1 l0_1.length c0_1) := bc_ BK199.out 1; have hfs82 := blk_frozen BK199.out 1; have hns82_1 := NB200_199.out; have hns82_2 := NB201_199.out; have hms82_1 := NB199_200.out; have hms82_2 := NB199_201.out; refine skip_ (w1 := ?_) (by rfl) rfl ?_ ?_; rotate_left
        ·go_simp
         rfl
        refine hK.out _ _ ?_; clear hK K; refine done_ (done_of HT_.out (by kernel_rfl)) ?_; obtain ⟨hcz83_0, hcz83_1, hcz83_2, hfz83_0, hfz83_1, hfz83_2⟩ := bw3_ BK199.out; obtain ⟨hcz84_0, hcz84_1, hcz84_2, hfz84_0, hfz84_1, hfz84_2⟩ := bw3_ BK201.out
        try go_wp2
        refine bodyPost_ret (results_ctt rfl _ _ gb201 58 #[.slice Ao69 y214.length co69, .slice Ao81 y226.length co81, .bool false] (0, 0) _ rfl (by refine bp_ ?_; refine blk_put (cs := #[.slice Ao69 y214.length co69, .slice Ao81 y226.length co81, .bool false]) ?_ 2 _ rfl; refine bp_ ?_; refine blk_put (cs := #[.slice Ao69 y214.length co69, .slice none 0 0, .bool false]) ?_ 1 _ rfl; refine bp_ ?_; refine blk_put (cs := #[.slice none 0 0, .slice none 0 0, .bool false]) ?_ 0 _ rfl; refine bp_ ?_; refine blk_far ?_ NB201_199.out _; refine bp_ ?_; exact BK201.out) Tryd.underlying58 rfl (by kernel_rfl)) rfl ?_; exact ⟨_, _, _, ew_, Kd.N_V (by (with_reducible repeat (first | apply Kd.N_alloc | apply Kd.N_drewN | apply Kd.N_drew)); exact Kd.N_mono (Kd.N_far (p := ⟨gb201, 2, none⟩) (Kd.N_far (p := ⟨gb201, 1, none⟩) (Kd.N_far (p := ⟨gb201, 0, none⟩) (Kd.N_far (p := ⟨gb199, 1, none⟩) (Kd.N_mono (Kd.N_mono HO216.out (fun k_ hk => (⟨hk, hk.1.2.2.1⟩ : _ ∧ k_ ≠ gb199))) (fun k_ hk => (⟨hk, hk.1.1.2.2.2.2⟩ : _ ∧ k_ ≠ gb201))) (fun _ hk => hk.1.2) (.slice Ao81 y226.length co81)) (fun _ hk => hk.2) (.slice Ao69 y214.length co69)) (fun _ hk => hk.2) (.slice Ao81 y226.length co81)) (fun _ hk => hk.2) (.bool false)) (fun _ hk => ⟨hk.1.1.1.1, (by simp [Value.ownBlock])⟩)), Kd.N_V (by (with_reducible repeat (first | apply Kd.N_alloc | apply Kd.N_drewN | apply Kd.N_drew)); exact Kd.N_mono (Kd.N_far (p := ⟨gb201, 2, none⟩) (Kd.N_far (p := ⟨gb201, 1, none⟩) (Kd.N_far (p := ⟨gb201, 0, none⟩) (Kd.N_far (p := ⟨gb199, 1, none⟩) (Kd.N_mono (Kd.N_mono HO228.out (fun k_ hk => (⟨hk, hk.2.2.2.1⟩ : _ ∧ k_ ≠ gb199))) (fun k_ hk => (⟨hk, hk.1.2.2.2.2.2⟩ : _ ∧ k_ ≠ gb201))) (fun _ hk => hk.1.2) (.slice Ao81 y226.length co81)) (fun _ hk => hk.2) (.slice Ao69 y214.length co69)) (fun _ hk => hk.2) (.slice Ao81 y226.length co81)) (fun _ hk => hk.2) (.bool false)) (fun _ hk => ⟨hk.1.1.1, (by simp [Value.ownBlock])⟩)), by first | exact Kd.S_nil _ _ _ _ _ | exact Kd.N_nil _ _ _ _ _ | exact Kd.V_nil _ _ _ _ _ | exact Kd.Q_nil _ _ _ _ _ | exact Kd.R_nil _ _ _ _ _, bl_⟩
       ·rw [if_neg c51] at H
        exact absurd H (by simp)
      ·rw [if_neg c50] at H
       exact absurd H (by simp)
     ·rw [if_neg c49] at H
      exact absurd H (by simp)
    ·rw [if_neg c48] at H
     exact absurd H (by simp)
end Go.Proofs.YtcfgjaggccnoaaaDoor.PTableSteps
namespace Go.Proofs.YtcfgjaggccnoaaaDoor.PTableSteps
open Go.RowKit Go.Proofs.YtcfgjaggccnoaaaDoorW.PrintWords Go.Proofs.YtcfgjaggccnoaaaDoorW.PrintLast Go.Proofs.YtcfgjaggccnoaaaDoorW.PrintMore
attribute [local go_sem] max2_int min2_int max_two min_two max_three min_three max_four min_four
set_option linter.unusedVariables false
set_option linter.unusedSimpArgs false
set_option maxRecDepth 100000
set_option maxHeartbeats 4000000
theorem dr_below {w w1 : World} (h : Drawn0 w w1) : Below w.heap.size w w1 := by
  obtain ⟨n, rfl⟩ := h
  exact pw_below_drewN (Below.refl _ _) n
theorem bucket_any {w : World} {base gT gB : Nat} {S D : Nat → Prop} {T : Tb} {v : Nat → Value} (h : TB w base S D gT T gB v) (hT : TabOK w) {key : List S23} {A : Option Addr} {c : Nat} (hK : Kd.C k23 w A key.length key) (hc : key.length ≤ c) {k : Nat} {hs i : Int} (hr : hash_Row.f k T.seed key = some hs) (hb : hash_Bucket.f hs T.n = some i) (h0 : 0 ≤ i) (h1 : i < (T.n : Int)) :
    Calls Tryd.prog 78 #[.pointer (some ⟨gT, 0, none⟩), .slice A key.length c] w fun r w' => r = .returned (.pointer (some ⟨gB, i.toNat, none⟩)) ∧ Below w.heap.size w w' := by
  have HG := Lib.hid h.tb; have GL := Lib.hid h.lt; have HT := Lib.hid hT; have HK := Lib.hid hK; have HC := Lib.hid hc; have HR := Lib.hid hr; have HB := Lib.hid hb
  have d0 : decide (0 ≤ i) = true := decide_eq_true h0
  have d1 : decide (i < (T.n : Int)) = true := decide_eq_true h1
  clear h hT hK hc hr hb
  go_enter Tryd.func78, Tryd.ntmps78
  try go_wp2
  refine startW_ (X := fun w' => Below w.heap.size w w') (n := 18) (S := fun w' => Below w.heap.size w w') (ds := []) #[false, false, false, false, false, false, false, false, false, false, false, false, false, false, false, false, false, false] (by kernel_rfl) rfl rfl (Below.drew (Below.refl _ _)) (fun w' h => h) (fun w2 hX_ hHeld => ?_)
  clear hX_
  refine pure_ (i := 0) (N := some 5) (v := ?_) (a' := ?_) #[true, false, false, false, false, false, false, false, false, false, false, false, false, false, false, false, false, false] rfl rfl (by kernel_rfl) (fun _ _ _ h => h) (Or.inl ⟨by rfl, ?_⟩) ?_ ?_; rotate_left
  · intro w'
    go_simp; (with_reducible rfl)
  rotate_left
  · simp only [Act.put, sa_, sz_, ss_, i64_w, i32_w]
    rfl
  refine take_ (i := 1) (N := some 6) (v := ?_) (a' := ?_) #[true, true, false, false, false, false, false, false, false, false, false, false, false, false, false, false, false, false] rfl rfl (by kernel_rfl) (fun _ _ _ h => h) (Or.inl ⟨by rfl, ?_⟩) hHeld ?_ ?_; rotate_left
  · intro w' hS; go_simp; (with_reducible rfl)
  rotate_left
  · simp only [Act.put, sa_, sz_, ss_, i64_w, i32_w]
    rfl
  refine take_ (i := 2) (N := some 7) (v := ?_) (a' := ?_) #[true, true, true, false, false, false, false, false, false, false, false, false, false, false, false, false, false, false] rfl rfl (by kernel_rfl) (fun _ _ _ h => h) (Or.inl ⟨by rfl, ?_⟩) hHeld ?_ ?_; rotate_left
  · intro w' hS; go_simp; (with_reducible rfl)
  rotate_left
  · simp only [Act.put, sa_, sz_, ss_, i64_w, i32_w]
    rfl
  refine take_ (i := 3) (N := some 8) (v := ?_) (a' := ?_) #[true, true, true, true, false, false, false, false, false, false, false, false, false, false, false, false, false, false] rfl rfl (by kernel_rfl) (fun _ _ _ h => h) (Or.inl ⟨by rfl, ?_⟩) hHeld ?_ ?_; rotate_left
  · intro w' hS; obtain ⟨s0, s1, s2, s3, f0, f1, f2, f3⟩ := bw4_ ((hS.block gT GL.out).trans HG.out); go_simp; (with_reducible rfl)
  rotate_left
  · simp only [Act.put, sa_, sz_, ss_, i64_w, i32_w]
    rfl
  refine pure_ (i := 4) (N := some 9) (v := ?_) (a' := ?_) #[true, true, true, true, true, false, false, false, false, false, false, false, false, false, false, false, false, false] rfl rfl (by kernel_rfl) (fun _ _ _ h => h) (Or.inl ⟨by rfl, ?_⟩) ?_ ?_; rotate_left
  · intro w'
    go_simp; (with_reducible rfl)
  rotate_left
  · simp only [Act.put, sa_, sz_, ss_, i64_w, i32_w]
    rfl
  refine take_ (i := 5) (N := some 10) (v := ?_) (a' := ?_) #[true, true, true, true, true, true, false, false, false, false, false, false, false, false, false, false, false, false] rfl rfl (by kernel_rfl) (fun _ _ _ h => h) (Or.inl ⟨by rfl, ?_⟩) hHeld ?_ ?_; rotate_left
  · intro w' hS; go_simp; (with_reducible rfl)
  rotate_left
  · simp only [Act.put, sa_, sz_, ss_, i64_w, i32_w]
    rfl
  refine take_ (i := 6) (N := some 11) (v := ?_) (a' := ?_) #[true, true, true, true, true, true, true, false, false, false, false, false, false, false, false, false, false, false] rfl rfl (by kernel_rfl) (fun _ _ _ h => h) (Or.inl ⟨by rfl, ?_⟩) hHeld ?_ ?_; rotate_left
  · intro w' hS; go_simp; (with_reducible rfl)
  rotate_left
  · simp only [Act.put, sa_, sz_, ss_, i64_w, i32_w]
    rfl
  refine take_ (i := 7) (N := some 12) (v := ?_) (a' := ?_) #[true, true, true, true, true, true, true, true, false, false, false, false, false, false, false, false, false, false] rfl rfl (by kernel_rfl) (fun _ _ _ h => h) (Or.inl ⟨by rfl, ?_⟩) hHeld ?_ ?_; rotate_left
  · intro w' hS; obtain ⟨s0, s1, s2, s3, f0, f1, f2, f3⟩ := bw4_ ((hS.block gT GL.out).trans HG.out); go_simp; (with_reducible rfl)
  rotate_left
  · simp only [Act.put, sa_, sz_, ss_, i64_w, i32_w]
    rfl
  refine pure_ (i := 8) (N := some 13) (v := ?_) (a' := ?_) #[true, true, true, true, true, true, true, true, true, false, false, false, false, false, false, false, false, false] rfl rfl (by kernel_rfl) (fun _ _ _ h => h) (Or.inl ⟨by rfl, ?_⟩) ?_ ?_; rotate_left
  · intro w'
    go_simp; (with_reducible rfl)
  rotate_left
  · simp only [Act.put, sa_, sz_, ss_, i64_w, i32_w]
    rfl
  refine pure_ (i := 10) (N := some 15) (v := ?_) (a' := ?_) #[true, true, true, true, true, true, true, true, true, false, true, false, false, false, false, false, false, false] rfl rfl (by kernel_rfl) (fun _ _ _ h => h) (Or.inl ⟨by rfl, ?_⟩) ?_ ?_; rotate_left
  · intro w'
    go_simp; (with_reducible rfl)
  rotate_left
  · simp only [Act.put, sa_, sz_, ss_, i64_w, i32_w]
    rfl
  refine take_ (i := 11) (N := some 16) (v := ?_) (a' := ?_) #[true, true, true, true, true, true, true, true, true, false, true, true, false, false, false, false, false, false] rfl rfl (by kernel_rfl) (fun _ _ _ h => h) (Or.inl ⟨by rfl, ?_⟩) hHeld ?_ ?_; rotate_left
  · intro w' hS; go_simp; (with_reducible rfl)
  rotate_left
  · simp only [Act.put, sa_, sz_, ss_, i64_w, i32_w]
    rfl
  refine take_ (i := 12) (N := some 17) (v := ?_) (a' := ?_) #[true, true, true, true, true, true, true, true, true, false, true, true, true, false, false, false, false, false] rfl rfl (by kernel_rfl) (fun _ _ _ h => h) (Or.inl ⟨by rfl, ?_⟩) hHeld ?_ ?_; rotate_left
  · intro w' hS; go_simp; (with_reducible rfl)
  rotate_left
  · simp only [Act.put, sa_, sz_, ss_, i64_w, i32_w]
    rfl
  refine take_ (i := 13) (N := some 18) (v := ?_) (a' := ?_) #[true, true, true, true, true, true, true, true, true, false, true, true, true, true, false, false, false, false] rfl rfl (by kernel_rfl) (fun _ _ _ h => h) (Or.inl ⟨by rfl, ?_⟩) hHeld ?_ ?_; rotate_left
  · intro w' hS; obtain ⟨s0, s1, s2, s3, f0, f1, f2, f3⟩ := bw4_ ((hS.block gT GL.out).trans HG.out); go_simp; (with_reducible rfl)
  rotate_left
  · simp only [Act.put, sa_, sz_, ss_, i64_w, i32_w]
    rfl
  refine take_ (i := 14) (N := some 19) (v := ?_) (a' := ?_) #[true, true, true, true, true, true, true, true, true, false, true, true, true, true, true, false, false, false] rfl rfl (by kernel_rfl) (fun _ _ _ h => h) (Or.inl ⟨by rfl, ?_⟩) hHeld ?_ ?_; rotate_left
  · intro w' hS; go_simp; (with_reducible rfl)
  rotate_left
  · simp only [Act.put, sa_, sz_, ss_, i64_w, i32_w]
    rfl
  refine one_ (i := 9) (N := some 14) #[true, true, true, true, true, true, true, true, true, true, true, true, true, true, true, false, false, false] rfl rfl (by kernel_rfl) (by decide) (fun K hK => ?_); refine goes_ Tryd.func15 (by kernel_rfl) rfl #[.int .i64 T.seed, .slice A key.length c] (by rfl) rfl rfl (by (try simp only [List.map_toArray, List.map_cons, List.map_nil]); first | done | rfl) ?_; refine (hash_Row.calls k T.seed A c key hs w2 (Kd.C_below HK.out hHeld) HC.out HR.out (am_ (HT.out.below hHeld))).mono ?_; rintro e' w3 ⟨rfl, b3⟩; refine ⟨_, rfl, ?_⟩; refine hK.out _ _ (below_step hHeld b3) (fun hHeld => ?_); clear hK K; refine norm_ (a' := ?_) ?_ ?_; rotate_left
  · show Act.put _ (some 14) _ = _
    simp only [Act.put, sa_, sz_, ss_, i64_w, i32_w]; rfl
  refine one_ (i := 15) (N := some 20) #[true, true, true, true, true, true, true, true, true, true, true, true, true, true, true, true, false, false] rfl rfl (by kernel_rfl) (by decide) (fun K hK => ?_); refine goes_ Tryd.func117 (by kernel_rfl) rfl #[.int .u64 hs, .int .i64 T.n] (by rfl) rfl rfl (by (try simp only [List.map_toArray, List.map_cons, List.map_nil]); first | done | rfl) ?_; refine (hash_Bucket.calls hs T.n i w3 HB.out).mono ?_; rintro e' w4 ⟨rfl, d4⟩; refine ⟨_, rfl, ?_⟩; have B4 := Lib.hid (below_step hHeld (dr_below d4)); refine hK.out _ _ (B4.out) (fun hHeld => ?_); clear hK K; refine norm_ (a' := ?_) ?_ ?_; rotate_left
  · show Act.put _ (some 20) _ = _
    simp only [Act.put, sa_, sz_, ss_, i64_w, i32_w]; rfl
  refine pure_ (i := 16) (N := some 21) (v := ?_) (a' := ?_) #[true, true, true, true, true, true, true, true, true, true, true, true, true, true, true, true, true, false] rfl rfl (by kernel_rfl) (fun _ _ _ h => h) (Or.inl ⟨by rfl, ?_⟩) ?_ ?_; rotate_left
  · intro w'
    go_simp; (with_reducible rfl)
  rotate_left
  · simp only [Act.put, sa_, sz_, ss_, i64_w, i32_w]
    rfl
  refine pure_ (i := 17) (N := some 4) (v := ?_) (a' := ?_) #[true, true, true, true, true, true, true, true, true, true, true, true, true, true, true, true, true, true] rfl rfl (by kernel_rfl) (fun _ _ _ h => h) (Or.inl ⟨by rfl, ?_⟩) ?_ ?_; rotate_left
  · intro w'
    go_simp; (with_reducible rfl)
  rotate_left
  · simp only [Act.put, sa_, sz_, ss_, i64_w, i32_w]
    rfl
  refine done_ (by kernel_rfl) ?_
  try go_wp2
  go_ret
  exact ⟨rfl, B4.out⟩
end Go.Proofs.YtcfgjaggccnoaaaDoor.PTableSteps
namespace Go.Proofs.YtcfgjaggccnoaaaDoor.PTableSteps
open Go.RowKit Go.Proofs.YtcfgjaggccnoaaaDoorW.PrintWords Go.Proofs.YtcfgjaggccnoaaaDoorW.PrintLast Go.Proofs.YtcfgjaggccnoaaaDoorW.PrintMore
attribute [local go_sem] max2_int min2_int max_two min_two max_three min_three max_four min_four
set_option linter.unusedVariables false
set_option linter.unusedSimpArgs false
set_option maxRecDepth 100000
set_option maxHeartbeats 4000000
def nbk (b : Int) : Nat := if b < 1 then 1 else if 4096 < b then 4096 else b.toNat
theorem nbk_bd (b : Int) : 1 ≤ nbk b ∧ nbk b ≤ 4096 := by unfold nbk; split <;> (try split) <;> omega
def Tb.new (seed buckets : Int) : Tb := ⟨seed, nbk buckets, fun _ => [], false⟩
theorem made_get (n j : Nat) (h : j < n) : (madeCells #[.slice none 0 0] n)[j]? = some (.slice none 0 0) := by
  unfold madeCells
  simp only [Array.getElem?_map, Array.getElem?_range, h, if_true, Option.map_some]
  simp [Nat.mod_one]
theorem make_run (n : Nat) (hn : n ≤ 4096) (W : World) : (Instr.makeSlice 97 (.int .i64 n) (.int .i64 n)).run Tryd.prog W = .ok (.slice (some ⟨W.heap.size, 0, none⟩) n n) (W.alloc (.cells (madeCells #[.slice none 0 0] n) 100)) := by
  have hi : (Tryd.prog.info? 100).map (fun i => (i.zero, i.size, i.bytes)) = some (some (.agg #[.slice none 0 0]), 1, 24) := by kernel_rfl
  obtain ⟨i0, h1, h2, h3, h4⟩ := info_parts hi
  have := run_make (P := Tryd.prog) W 97 100 i0 _ Tryd.underlying97 h1 h2 .i64 .i64 n n (by omega) (by omega) (by rw [h4]; omega) (by omega)
  rw [h3] at this
  simp only [Int.toNat_natCast, Nat.mul_one] at this
  exact this
theorem mk_ev {ops : Array Oper} {Q : Exit → Act → World → Prop} {o : Oper} {rest : List Oper} {a : Act} {W : World} (hgd : o.guard = none) {N : Tmp} (_hd : o.dst = some N) (x : Operand) (ho : o.op = .makeSlice 97 x x) (n : Nat) (hn : n ≤ 4096) (hx : a.eval x = .int .i64 n)
    (h : wpList Tryd.prog ops Q rest (a.put o.dst (.slice (some ⟨W.heap.size, 0, none⟩) n n)) (W.alloc (.cells (madeCells #[.slice none 0 0] n) 100))) : wpList Tryd.prog ops Q (o :: rest) a W :=
  Kd.event_run hgd (by simp [execOp, ho, hx, make_run n hn]) h
def NewD (w : World) (seed buckets : Int) (r : Ending) (w' : World) : Prop := ∃ gT gB S D, r = .returned (.pointer (some ⟨gT, 0, none⟩)) ∧ TB w' w.heap.size S D gT (Tb.new seed buckets) gB (fun _ => .slice none 0 0) ∧ Below w.heap.size w w'
theorem new_tb (w : World) (seed buckets : Int) : TB ((w.alloc (.cells (madeCells #[.slice none 0 0] (nbk buckets)) 100)).alloc (.cells #[.int .i64 seed, .slice (some ⟨w.heap.size, 0, none⟩) (nbk buckets) (nbk buckets), .slice none 0 0, .bool false] 102)) w.heap.size (fun k => k = w.heap.size + 1 ∨ k = w.heap.size) (fun k => k = w.heap.size + 1 ∨ k = w.heap.size) (w.heap.size + 1) (Tb.new seed buckets) w.heap.size (fun _ => .slice none 0 0) := by
  have h1 := blk_new (w.alloc (.cells (madeCells #[.slice none 0 0] (nbk buckets)) 100)) (.cells #[.int .i64 seed, .slice (some ⟨w.heap.size, 0, none⟩) (nbk buckets) (nbk buckets), .slice none 0 0, .bool false] 102)
  rw [World.size_alloc] at h1
  refine ⟨h1, ⟨_, blk_alloc (blk_new w _) _, size_madeCells _ _, fun j hj => made_get _ j hj⟩, (nbk_bd buckets).1, (nbk_bd buckets).2, .inl rfl, .inr rfl, fun _ h => h, fun k hk => ?_, fun j _ => Kd.N_nil _ _ _ _ _, fun j _ k hk => by simp [Value.ownBlock] at hk, fun i j _ _ _ k hk => by simp [Value.ownBlock] at hk⟩
  rw [World.size_alloc, World.size_alloc]
  omega
theorem new_any (seed buckets : Int) (w : World) : Calls Tryd.prog 19 #[.int .i64 seed, .int .i64 buckets] w (NewD w seed buckets) := by
  have ht := Lib.hid (new_tb w seed buckets)
  by_cases c1 : buckets < 1
  · have e : nbk buckets = 1 := if_pos c1
    rw [e] at ht
    have a1 : ¬ 4096 < buckets := by omega
    have a2 : ¬ 1 < buckets := by omega
    clear e
    go_enter Tryd.func19, Tryd.ntmps19
    go_wp2_with ((with_reducible refine gate_dst (N := 9) rfl ?_); refine mk_ev (N := 9) rfl rfl (.tmp 8) rfl 1 ?hn ?hx ?_; (case hn => decide); (case hx => rfl); simp only [Act.put, sa_, sz_, ss_])
    go_ret
    exact ⟨_, _, _, _, rfl, ht.out, below_alloc (below_alloc (Below.refl _ _) _) _⟩
  · by_cases c2 : 4096 < buckets
    · have e : nbk buckets = 4096 := by unfold nbk; rw [if_neg c1, if_pos c2]
      rw [e] at ht
      clear e c1
      go_enter Tryd.func19, Tryd.ntmps19
      go_wp2_with ((with_reducible refine gate_dst (N := 9) rfl ?_); refine mk_ev (N := 9) rfl rfl (.tmp 8) rfl 4096 ?hn ?hx ?_; (case hn => decide); (case hx => rfl); simp only [Act.put, sa_, sz_, ss_])
      go_ret
      exact ⟨_, _, _, _, rfl, ht.out, below_alloc (below_alloc (Below.refl _ _) _) _⟩
    · obtain ⟨n, rfl⟩ : ∃ n : Nat, buckets = n := ⟨buckets.toNat, by omega⟩
      have e : nbk (n : Int) = n := by unfold nbk; rw [if_neg c1, if_neg c2]; rfl
      rw [e] at ht
      have HN : Hid (n ≤ 4096) := Lib.hid (by omega)
      by_cases c3 : (1 : Int) < n
      · clear e c1
        go_enter Tryd.func19, Tryd.ntmps19
        go_wp2_with ((with_reducible refine gate_dst (N := 9) rfl ?_); refine mk_ev (N := 9) rfl rfl (.tmp 8) rfl n HN.out ?hx ?_; (case hx => rfl); simp only [Act.put, sa_, sz_, ss_])
        go_ret
        exact ⟨_, _, _, _, rfl, ht.out, below_alloc (below_alloc (Below.refl _ _) _) _⟩
      · obtain rfl : n = 1 := by omega
        clear e c1 c2 c3
        go_enter Tryd.func19, Tryd.ntmps19
        go_wp2_with ((with_reducible refine gate_dst (N := 9) rfl ?_); refine mk_ev (N := 9) rfl rfl (.tmp 8) rfl 1 ?hn ?hx ?_; (case hn => decide); (case hx => rfl); simp only [Act.put, sa_, sz_, ss_])
        go_ret
        exact ⟨_, _, _, _, rfl, ht.out, below_alloc (below_alloc (Below.refl _ _) _) _⟩
end Go.Proofs.YtcfgjaggccnoaaaDoor.PTableSteps
namespace Go.Proofs.YtcfgjaggccnoaaaDoor.PTableSteps
open Go.RowKit Go.Proofs.YtcfgjaggccnoaaaDoorW.PrintWords Go.Proofs.YtcfgjaggccnoaaaDoorW.PrintLast Go.Proofs.YtcfgjaggccnoaaaDoorW.PrintMore
attribute [local go_sem] max2_int min2_int max_two min_two max_three min_three max_four min_four
set_option linter.unusedVariables false
set_option linter.unusedSimpArgs false
set_option maxRecDepth 100000
set_option maxHeartbeats 4000000
section
variable {w : World} {base gT gB : Nat} {S D : Nat → Prop} {T : Tb} {v : Nat → Value}
theorem TB.sl (h : TB w base S D gT T gB v) (j : Nat) (hj : j ≤ T.n) : ∃ A c, v j = .slice A (T.ch j).length c := Kd.N_slice (h.ch j hj)
theorem len_any (h : TB w base S D gT T gB v) : Calls Tryd.prog 23 #[.pointer (some ⟨gT, 0, none⟩)] w fun r w' => r = .returned (.int .i64 (T.ch T.n).length) ∧ w' = w := by
  obtain ⟨A, c, e⟩ := h.sl T.n (Nat.le_refl _)
  have hg := h.tb
  unfold tcells at hg
  rw [e] at hg
  clear e h
  obtain ⟨c0, c1, c2, c3, f0, f1, f2, f3⟩ := bw4_ hg
  clear hg
  go_enter Tryd.func23, Tryd.ntmps23
  go_wp2
  go_ret
  exact ⟨rfl, rfl⟩
theorem sealed_any (h : TB w base S D gT T gB v) : Calls Tryd.prog 32 #[.pointer (some ⟨gT, 0, none⟩)] w fun r w' => r = .returned (.bool T.sl) ∧ w' = w := by
  have hg := h.tb
  clear h
  obtain ⟨c0, c1, c2, c3, f0, f1, f2, f3⟩ := bw4_ hg
  clear hg
  go_enter Tryd.func32, Tryd.ntmps32
  go_wp2
  go_ret
  exact ⟨rfl, rfl⟩
theorem seal_no (h : TB w base S D gT T gB v) (hs : T.sl = false) : Calls Tryd.prog 40 #[.pointer (some ⟨gT, 0, none⟩)] w fun r w' => r = .returned (.int .i64 0) ∧ w' = w.setCell ⟨gT, 3, none⟩ (.bool true) := by
  have hg := h.tb
  clear h
  unfold tcells at hg
  rw [hs] at hg
  clear hs
  obtain ⟨c0, c1, c2, c3, f0, f1, f2, f3⟩ := bw4_ hg
  clear hg
  go_enter Tryd.func40, Tryd.ntmps40
  go_wp2
  go_ret
  exact ⟨rfl, rfl⟩
theorem seal_yes (h : TB w base S D gT T gB v) (hs : T.sl = true) : Calls Tryd.prog 40 #[.pointer (some ⟨gT, 0, none⟩)] w fun r w' => r = .returned (.int .i64 10) ∧ w' = w := by
  have hg := h.tb
  clear h
  unfold tcells at hg
  rw [hs] at hg
  clear hs
  obtain ⟨c0, c1, c2, c3, f0, f1, f2, f3⟩ := bw4_ hg
  clear hg
  go_enter Tryd.func40, Tryd.ntmps40
  go_wp2
  go_ret
  exact ⟨rfl, rfl⟩
def lgst (T : Tb) : Nat → Int
  | 0 => 0
  | k + 1 => mx (lgst T k) (T.ch k).length
theorem longest_any (h : TB w base S D gT T gB v) : Calls Tryd.prog 35 #[.pointer (some ⟨gT, 0, none⟩)] w fun r w' => r = .returned (.int .i64 (lgst T T.n)) ∧ w' = w := by
  have hg := h.tb
  obtain ⟨cs, hb, hz, hc⟩ := h.bb
  have hn : T.n ≤ 4096 := h.n2
  have HC : Hid (∀ j, j < T.n → ∃ A c, w.cell? ⟨gB, j, none⟩ = some (.slice A (T.ch j).length c)) := Lib.hid fun j hj => by
    obtain ⟨A, c, e⟩ := h.sl j (Nat.le_of_lt hj)
    exact ⟨A, c, by rw [← e]; exact (blk_cell hb j).trans (hc j hj)⟩
  clear h hb hz hc
  obtain ⟨c0, c1, c2, c3, f0, f1, f2, f3⟩ := bw4_ hg
  clear hg
  go_enter Tryd.func35, Tryd.ntmps35
  go_wp2
  go_loop [3, 12] (fun n i => ∃ j : Nat, j ≤ T.n ∧ i = .int .i64 j ∧ n = .int .i64 (lgst T j)) (fun _ i => T.n - (intOf i).toNat)
  case atStart => exact ⟨0, Nat.zero_le _, rfl, rfl⟩
  case round =>
    obtain ⟨j, hj, rfl, rfl⟩ := hrel
    by_cases hlt : j < T.n
    · obtain ⟨A, c, hcell⟩ := HC.out j hlt
      have hm : Hid (lgst T (j + 1) = mx (lgst T j) (T.ch j).length) := Lib.hid rfl
      go_wp2
      all_goals
        go_round
        case rel => exact ⟨j + 1, by omega, by go_num, by rw [hm.out]; unfold mx; first | rfl | (rw [if_pos (by assumption)]) | (rw [if_neg (by omega)])⟩
        case measure => simp [intOf]; omega
    · obtain rfl : j = T.n := by omega
      go_wp2
      go_ret
      exact ⟨rfl, rfl⟩
end
end Go.Proofs.YtcfgjaggccnoaaaDoor.PTableSteps
namespace Go.Proofs.YtcfgjaggccnoaaaDoor.PTableSteps
open Go.RowKit Go.Proofs.YtcfgjaggccnoaaaDoorW.PrintWords Go.Proofs.YtcfgjaggccnoaaaDoorW.PrintLast Go.Proofs.YtcfgjaggccnoaaaDoorW.PrintMore
attribute [local go_sem] max2_int min2_int max_two min_two max_three min_three max_four min_four
set_option linter.unusedVariables false
set_option linter.unusedSimpArgs false
set_option maxRecDepth 100000
set_option maxHeartbeats 4000000
theorem put2_ {W : World} {gb t : Nat} {c0 c1 v0 v1 : Value} (hb : W.heap[gb]? = some (.cells #[c0, c1] t (0, 0))) : ((W.setCell ⟨gb, 0, none⟩ v0).setCell ⟨gb, 1, none⟩ v1).heap[gb]? = some (.cells #[v0, v1] t (0, 0)) := by
  replace hb := blk_put (cs := #[c0, c1]) (cs' := #[v0, c1]) hb 0 v0 rfl
  replace hb := blk_put (cs := #[v0, c1]) (cs' := #[v0, v1]) hb 1 v1 rfl
  exact hb
def Chg (g : Nat) (w w' : World) : Prop := Below g w w' ∧ KeepBut w w' g none
theorem chg2_ {gb : Nat} {W : World} {v0 v1 : Value} : Chg gb W ((W.setCell ⟨gb, 0, none⟩ v0).setCell ⟨gb, 1, none⟩ v1) := ⟨((Below.refl gb W).setCell (Nat.le_refl _) _).setCell (Nat.le_refl _) _, ((KeepBut.refl W gb none).set_ 0 v0).set_ 1 v1⟩
theorem Kd.FK_below {α : Type} {d : Kd α} {W W1 : World} {ok : Nat → Prop} {x : α} {c : List Value} (h : Kd.FK d W ok x c) (hb : Below W.heap.size W W1) : Kd.FK d W1 ok x c := Foot.step h fun k _ hk => hb.block k hk
theorem Kd.FK_step {α : Type} {d : Kd α} {w w1 : World} {ok : Nat → Prop} {x : α} {c : List Value} (h : Kd.FK d w ok x c) (hm : ∀ k, ok k → k < w.heap.size → w1.heap[k]? = w.heap[k]?) : Kd.FK d w1 ok x c := Foot.step h hm
theorem clone_f (l : List S23) (h : l.length ≤ 1000000) : api_Val_76.f l = some l := by
  unfold api_Val_76.f
  rw [Option.bind_some, if_pos (by rw [List.length_nil]; omega), List.nil_append]
def CloD (w : World) (l : List S23) (r : Ending) (w' : World) : Prop := ∃ B b, r = .returned (.slice B l.length b) ∧ l.length ≤ b ∧ Kd.F k23 w' (fun k => w.heap.size ≤ k ∧ k < w'.heap.size) B l.length l ∧ Below w.heap.size w w' ∧ Kd.R k23 23 w' w.heap.size (fun k => w.heap.size ≤ k) (.slice B l.length b) l
theorem clone_any (w : World) (l : List S23) {A : Option Addr} {c : Nat} (hK : Kd.C k23 w A l.length l) (hc : l.length ≤ c) (hl : l.length ≤ 1000000) : Calls Tryd.prog 76 #[.slice A l.length c] w (CloD w l) := by
  refine (api_Val_76.calls A c l l w hK hc (clone_f l hl)).mono ?_
  rintro r w' ⟨v, rfl, hr, hb⟩
  have hr2 := Kd.R_bound hr
  obtain ⟨B, b, e, hlb, hC⟩ := Kd.R_reads hr
  subst e
  exact ⟨B, b, rfl, hlb, Kd.F_mono (Kd.V_F (Kd.R_V (base' := 0) hr2)) (fun k hk => ⟨hk.2.1, hk.2.2.1⟩), hb, Kd.R_mono hr2 (fun k hk => hk.2.1)⟩
def TPuD (w : World) (base : Nat) (S D E : Nat → Prop) (gT gB : Nat) (T : Tb) (v : Nat → Value) (j : Nat) (p : S116) (r : Ending) (w' : World) : Prop :=
  r = .returned (.tuple #[]) ∧ ∃ S' D' u1, TB w' base S' D' gT (T.push j p) gB (upv v j u1) ∧ (∀ k, S' k → S k ∨ w.heap.size ≤ k) ∧ (∀ k, D' k → D k ∨ E k ∨ w.heap.size ≤ k) ∧ Kp S w w' ∧ Below base w w'
theorem tpush_any {w : World} {base gT gB g o j : Nat} {S D E : Nat → Prop} {T : Tb} {v : Nat → Value} (h : TB w base S D gT T gB v) (hj : j ≤ T.n) (hgo : (g = gB ∧ o = j ∧ j < T.n) ∨ (g = gT ∧ o = 2 ∧ j = T.n)) (hE : ∀ k, E k → base ≤ k ∧ k < w.heap.size ∧ ¬ S k)
    {p : S116} {A0 A1 : Option Addr} {c0 c1 : Nat} (hp : Kd.FK k116 w E p [.slice A0 p.f0.length c0, .slice A1 p.f1.length c1]) (hl : (T.ch j).length ≤ 1000000) :
    Calls Tryd.prog 81 #[.pointer (some ⟨g, o, none⟩), .agg #[.slice A0 p.f0.length c0, .slice A1 p.f1.length c1]] w (TPuD w base S D E gT gB T v j p) := by
  obtain ⟨cs, hb, hz, hc⟩ := h.bb
  have hbase : base ≤ w.heap.size := by have := h.dl _ (h.sD _ h.sT); omega
  have hS : ∀ k, S k → k < w.heap.size := fun k hk => (h.dl k (h.sD k hk)).2
  have key : ∃ cs' t, w.heap[g]? = some (.cells cs' t (0, 0)) ∧ 116 ≠ t ∧ cs'[o]? = some (v j) ∧ S g ∧ base ≤ g := by
    rcases hgo with ⟨e1, e2, e3⟩ | ⟨e1, e2, e3⟩
    · subst e1 e2
      exact ⟨cs, 100, hb, by decide, hc _ e3, h.sB, (h.dl _ (h.sD _ h.sB)).1⟩
    · subst e1 e2 e3
      exact ⟨_, 102, h.tb, by decide, rfl, h.sT, (h.dl _ (h.sD _ h.sT)).1⟩
  obtain ⟨cs', t, h1, h2, h3, h4, h5⟩ := key
  have hng : some g ≠ (v j).ownBlock := Kd.N_ne (h.ch j hj) h1 h2
  refine (push_any (base := base) (ok := okP D S (v j) E w) (E := E) (t := t) h1 h2 h3 (Kd.N_mono (h.ch j hj) fun k hk => .inl hk) (fun k hk => .inr (.inr hk)) hp (fun k hk => ⟨.inr (.inl hk), fun e => (hE k hk).2.2 (h.ow j hj k e.symm)⟩) hbase hl ?_ h5).mono ?_
  · intro hk
    rcases hk with q | q | q
    · exact hng (q.2 h4)
    · exact (hE g q).2.2 h4
    · have := hS g h4; omega
  · rintro r w' ⟨hr, u1, hpu⟩
    obtain ⟨S', D', a1, a2, a3, a4⟩ := h.push hj hgo hE hpu
    exact ⟨hr, S', D', u1, a1, a2, a3, a4, hpu.bl⟩
def Tb.put (T : Tb) (i : Nat) (p : S116) : Tb := (T.push i p).push T.n p
def PutD (w : World) (base : Nat) (S D : Nat → Prop) (gT gB : Nat) (T : Tb) (i : Nat) (p : S116) (r : Ending) (w' : World) : Prop :=
  r = .returned (.int .i64 0) ∧ ∃ S' D' v', TB w' base S' D' gT (T.put i p) gB v' ∧ (∀ k, S' k → S k ∨ w.heap.size ≤ k) ∧ (∀ k, D' k → D k ∨ w.heap.size ≤ k) ∧ Kp S w w' ∧ Below base w w'
theorem put_ok {w : World} {base gT gB : Nat} {S D : Nat → Prop} {T : Tb} {v : Nat → Value} (h : TB w base S D gT T gB v) (hT : TabOK w) (hs : T.sl = false) {key row : List S23} {A A' : Option Addr} {c c' : Nat} (hK : Kd.C k23 w A key.length key) (hc : key.length ≤ c) (hR : Kd.C k23 w A' row.length row) (hc' : row.length ≤ c') (l1 : key.length ≤ 1000000) (l2 : row.length ≤ 1000000)
    {k : Nat} {hsh : Int} {i : Nat} (hr : hash_Row.f k T.seed key = some hsh) (hb : hash_Bucket.f hsh T.n = some (i : Int)) (h1 : i < T.n) (l3 : (T.ch i).length ≤ 1000000) (l4 : (T.ch T.n).length ≤ 1000000) :
    Calls Tryd.prog 39 #[.pointer (some ⟨gT, 0, none⟩), .slice A key.length c, .slice A' row.length c'] w (PutD w base S D gT gB T i ⟨key, row⟩) := by
  have H := Lib.hid h; have HT := Lib.hid hT; have HK := Lib.hid (And.intro hK hc); have HR := Lib.hid (And.intro hR hc'); have HL := Lib.hid (And.intro l1 l2); have HH := Lib.hid hr; have HB := Lib.hid hb; have HI := Lib.hid h1; have HL2 := Lib.hid (And.intro l3 l4)
  have hg := h.tb
  unfold tcells at hg
  rw [hs] at hg
  obtain ⟨a0, a1, a2, a3, b0, b1, b2, b3⟩ := bw4_ hg
  have hSz : ∀ k, S k → k < w.heap.size := fun k hk => (h.dl k (h.sD k hk)).2
  have HS := Lib.hid hSz
  have HBs : Hid (base ≤ w.heap.size) := Lib.hid (by have := h.dl _ (h.sD _ h.sT); omega)
  clear h hT hK hc hR hc' l1 l2 hr hb h1 l3 l4 hs hg hSz
  go_enter Tryd.func39, Tryd.ntmps39
  go_wp2_with (first
    | ((with_reducible refine gate_callee (f := 76) rfl ?_); refine goesL_ (some 15) rfl rfl Tryd.func76 (by kernel_rfl) rfl #[.slice A key.length c] rfl (by (try simp only [List.map_toArray, List.map_cons, List.map_nil]); first | done | rfl) ?_; refine (clone_any w key HK.out.1 HK.out.2 HL.out.1).mono ?_; rintro r' w1 ⟨B, b, rfl, n1, f1, b1', r1⟩; refine ⟨_, rfl, ?_⟩; simp only [Act.put, sa_, sz_, ss_]; have F1 := Lib.hid f1; have N1 := Lib.hid n1; have B1 := Lib.hid b1'; clear f1 n1 b1' r1)
    | ((with_reducible refine gate_callee (f := 76) rfl ?_); refine goesL_ (some 17) rfl rfl Tryd.func76 (by kernel_rfl) rfl #[.slice A' row.length c'] rfl (by (try simp only [List.map_toArray, List.map_cons, List.map_nil]); first | done | rfl) ?_; refine (clone_any w1 row (Kd.C_below HR.out.1 B1.out) HR.out.2 HL.out.2).mono ?_; rintro r' w2 ⟨B', b', rfl, n2, f2, b2', r2⟩; refine ⟨_, rfl, ?_⟩; simp only [Act.put, sa_, sz_, ss_]; have F2 := Lib.hid f2; have N2 := Lib.hid n2; have B2 := Lib.hid b2'; clear f2 n2 b2' r2)
    | ((with_reducible refine gate_dst (N := 7) rfl ?_); refine box_event ?hg (N := 7) ?hd (cs := #[.slice none 0 0, .slice none 0 0]) (t := 116) ?hr ?_; (case hd => rfl); (case hg => rfl); (case hr => first | (go_simp; done) | (go_simp; rfl)); intro g7 hg_ w3 hb_ hl_; have G7 := Lib.hid hb_; have B3 := Lib.hid hl_; have HG7 := Lib.hid hg_; obtain ⟨d0, d1, e0, e1⟩ := bw2_ hb_; clear hb_ hl_ hg_; simp only [Act.put, sa_, sz_, ss_]))
  have G8 := Lib.hid (put2_ (v0 := .slice B key.length b) (v1 := .slice B' row.length b') G7.out)
  have C8 := Lib.hid (chg2_ (gb := g7) (W := w3) (v0 := .slice B key.length b) (v1 := .slice B' row.length b'))
  clear d0 d1 e0 e1 G7
  have g7g : w2.heap.size = g7 := HG7.out.symm
  obtain ⟨W, hW⟩ : ∃ W, W = (w3.setCell ⟨g7, 0, none⟩ (.slice B key.length b)).setCell ⟨g7, 1, none⟩ (.slice B' row.length b') := ⟨_, rfl⟩
  rw [← hW] at G8 C8 ⊢
  clear hW
  have BW2 : Below w2.heap.size w2 W := B3.out.trans (C8.out.1.mono (by omega))
  have BW : Below w.heap.size w W := (B1.out.trans (B2.out.mono B1.out.size)).trans (BW2.mono (Nat.le_trans B1.out.size B2.out.size))
  have XW := Lib.hid BW
  have hz12 : w.heap.size ≤ w1.heap.size := B1.out.size
  have hz23 : w1.heap.size ≤ w2.heap.size := B2.out.size
  have FE : Kd.FK k116 W (fun k => w.heap.size ≤ k ∧ k < w2.heap.size) (⟨key, row⟩ : S116) [.slice B key.length b, .slice B' row.length b'] :=
    k116_mkF W _ ⟨key, row⟩ N1.out (Kd.F_mono (Kd.F_below (Kd.F_below F1.out B2.out) (BW2)) fun k hk => ⟨hk.1, by omega⟩) N2.out (Kd.F_mono (Kd.F_below F2.out BW2) fun k hk => ⟨by omega, hk.2⟩)
  have GE := Lib.hid FE
  have hW2 := Lib.hid (below_size BW2)
  have hZ := Lib.hid (And.intro hz12 hz23)
  clear BW2 BW FE F1 F2 N1 N2 B1 B2 B3 C8 hz12 hz23 HG7 a0 a1 a2 a3 b0 b1 b2 b3
  refine startW_ (X := fun w' => Below W.heap.size W w') (n := 5) (S := fun w' => Below W.heap.size W w') (ds := [4]) #[false, false, false, false, false] (by kernel_rfl) rfl rfl (Below.drew (Below.refl _ _)) (fun w' h => h) (fun w4 hX_ hHeld => ?_)
  clear hX_
  refine pure_ (i := 0) (N := some 19) (v := ?_) (a' := ?_) #[true, false, false, false, false] rfl rfl (by kernel_rfl) (fun _ _ _ h => h) (Or.inl ⟨by rfl, ?_⟩) ?_ ?_; rotate_left
  · intro w'
    go_simp; (with_reducible rfl)
  rotate_left
  · simp only [Act.put, sa_, sz_, ss_, i64_w, i32_w]
    rfl
  refine pure_ (i := 1) (N := some 20) (v := ?_) (a' := ?_) #[true, true, false, false, false] rfl rfl (by kernel_rfl) (fun _ _ _ h => h) (Or.inl ⟨by rfl, ?_⟩) ?_ ?_; rotate_left
  · intro w'
    go_simp; (with_reducible rfl)
  rotate_left
  · simp only [Act.put, sa_, sz_, ss_, i64_w, i32_w]
    rfl
  refine take_ (i := 3) (N := some 22) (v := ?_) (a' := ?_) #[true, true, false, true, false] rfl rfl (by kernel_rfl) (fun _ _ _ h => h) (Or.inl ⟨by rfl, ?_⟩) hHeld ?_ ?_; rotate_left
  · intro w' hS; obtain ⟨s0, s1, f0, f1⟩ := bw2_ (blk_below G8.out hS); go_simp; (with_reducible rfl)
  rotate_left
  · simp only [Act.put, sa_, sz_, ss_, i64_w, i32_w]
    rfl
  refine one_ (i := 2) (N := some 21) #[true, true, true, true, false] rfl rfl (by kernel_rfl) (by decide) (fun K hK => ?_); refine goes_ Tryd.func78 (by kernel_rfl) rfl #[.pointer (some ⟨gT, 0, none⟩), .slice A key.length c] (by rfl) rfl rfl (by (try simp only [List.map_toArray, List.map_cons, List.map_nil]); first | done | rfl) ?_; refine (bucket_any (H.out.below (below_step XW.out hHeld)) (HT.out.below (below_step XW.out hHeld)) (Kd.C_below HK.out.1 (below_step XW.out hHeld)) HK.out.2 HH.out HB.out (Int.natCast_nonneg _) (by have := HI.out; omega)).mono ?_; rintro e' w5 ⟨rfl, b5⟩; refine ⟨_, rfl, ?_⟩; have X5 := Lib.hid (below_step hHeld b5); clear b5; refine hK.out _ _ (X5.out) (fun hHeld => ?_); clear hK K; refine norm_ (a' := ?_) ?_ ?_; rotate_left
  · show Act.put _ (some 21) _ = _
    simp only [Act.put, sa_, sz_, ss_, i64_w, i32_w]; rfl
  have hT5 := Lib.hid (H.out.below (below_step XW.out X5.out))
  have hE5 : Hid (∀ k, (fun k => w.heap.size ≤ k ∧ k < w2.heap.size) k → base ≤ k ∧ k < w5.heap.size ∧ ¬ S k) := Lib.hid fun k hk => by
    have h1 := hW2.out; have h2 := X5.out.size; have h3 := HBs.out
    exact ⟨by omega, by omega, fun q => by have := HS.out k q; omega⟩
  refine last_ (i := 4) (N := some 23) #[true, true, true, true, true] rfl rfl (by kernel_rfl) (by decide) (fun K hK => ?_); refine goes_ Tryd.func81 (by kernel_rfl) rfl #[.pointer (some ⟨gB, i, none⟩), .agg #[.slice B key.length b, .slice B' row.length b']] (by rfl) rfl rfl (by (try simp only [List.map_toArray, List.map_cons, List.map_nil]); first | done | rfl) ?_; refine (tpush_any (T := T) (j := i) hT5.out (Nat.le_of_lt HI.out) (.inl ⟨rfl, rfl, HI.out⟩) hE5.out (Kd.FK_below GE.out X5.out) HL2.out.1).mono ?_; rintro e' w6 ⟨rfl, S1, D1, u1, t6, s6, d6, k6, bb6⟩; refine ⟨_, rfl, ?_⟩; have T6 := Lib.hid t6; have S6 := Lib.hid s6; have D6 := Lib.hid d6; have K6 := Lib.hid k6; have BB6 := Lib.hid bb6; clear t6 s6 d6 k6 bb6; refine hK.out _ _ ?_; clear hK K; refine done_ (by kernel_rfl) ?_
  simp only [Act.put, sa_, sz_, ss_]
  try go_wp2
  have hg7 : g7 < w5.heap.size := Nat.lt_of_lt_of_le (blk_lt G8.out) X5.out.size
  have hnS : ∀ k, w.heap.size ≤ k → ¬ S k := fun k hk q => by have := HS.out k q; omega
  have G6 := Lib.hid ((K6.out.2 g7 hg7 (hnS g7 (by have := hZ.out; omega))).trans (blk_below G8.out X5.out))
  have E6 := Lib.hid (Kd.FK_step (w1 := w6) (Kd.FK_below GE.out X5.out) (fun k hk hlt => K6.out.2 k hlt (hnS k hk.1)))
  have hE6 : Hid (∀ k, (fun k => w.heap.size ≤ k ∧ k < w2.heap.size) k → base ≤ k ∧ k < w6.heap.size ∧ ¬ S1 k) := Lib.hid fun k hk => by
    have h1 := hE5.out k hk
    refine ⟨h1.1, by have := K6.out.1; omega, fun q => ?_⟩
    rcases S6.out k q with q | q
    · exact h1.2.2 q
    · omega
  have hs56 := K6.out.1
  clear hg7 hnS
  refine startW_ (X := fun w' => Below w6.heap.size w6 w') (n := 5) (S := fun w' => Below w6.heap.size w6 w') (ds := [4]) #[false, false, false, false, false] (by kernel_rfl) rfl rfl (Below.drew (Below.refl _ _)) (fun w' h => h) (fun w7 hX_ hHeld => ?_)
  clear hX_
  refine pure_ (i := 0) (N := some 24) (v := ?_) (a' := ?_) #[true, false, false, false, false] rfl rfl (by kernel_rfl) (fun _ _ _ h => h) (Or.inl ⟨by rfl, ?_⟩) ?_ ?_; rotate_left
  · intro w'
    go_simp; (with_reducible rfl)
  rotate_left
  · simp only [Act.put, sa_, sz_, ss_, i64_w, i32_w]
    rfl
  refine take_ (i := 1) (N := some 25) (v := ?_) (a' := ?_) #[true, true, false, false, false] rfl rfl (by kernel_rfl) (fun _ _ _ h => h) (Or.inl ⟨by rfl, ?_⟩) hHeld ?_ ?_; rotate_left
  · intro w' hS; go_simp; (with_reducible rfl)
  rotate_left
  · simp only [Act.put, sa_, sz_, ss_, i64_w, i32_w]
    rfl
  refine take_ (i := 2) (N := some 26) (v := ?_) (a' := ?_) #[true, true, true, false, false] rfl rfl (by kernel_rfl) (fun _ _ _ h => h) (Or.inl ⟨by rfl, ?_⟩) hHeld ?_ ?_; rotate_left
  · intro w' hS; go_simp; (with_reducible rfl)
  rotate_left
  · simp only [Act.put, sa_, sz_, ss_, i64_w, i32_w]
    rfl
  refine take_ (i := 3) (N := some 27) (v := ?_) (a' := ?_) #[true, true, true, true, false] rfl rfl (by kernel_rfl) (fun _ _ _ h => h) (Or.inl ⟨by rfl, ?_⟩) hHeld ?_ ?_; rotate_left
  · intro w' hS; obtain ⟨s0, s1, f0, f1⟩ := bw2_ (blk_below G6.out hS); go_simp; (with_reducible rfl)
  rotate_left
  · simp only [Act.put, sa_, sz_, ss_, i64_w, i32_w]
    rfl
  have hT7 := Lib.hid (T6.out.below hHeld)
  have hE7 : Hid (∀ k, (fun k => w.heap.size ≤ k ∧ k < w2.heap.size) k → base ≤ k ∧ k < w7.heap.size ∧ ¬ S1 k) := Lib.hid fun k hk => by
    have h1 := hE6.out k hk; have h2 := hHeld.size
    exact ⟨h1.1, by omega, h1.2.2⟩
  have hl7 : Hid (((T.push i ⟨key, row⟩).ch (T.push i ⟨key, row⟩).n).length ≤ 1000000) := Lib.hid (by
    show (if T.n = i then T.ch i ++ [_] else T.ch T.n).length ≤ 1000000
    rw [if_neg (by have := HI.out; omega)]
    exact HL2.out.2)
  refine last_ (i := 4) (N := some 28) #[true, true, true, true, true] rfl rfl (by kernel_rfl) (by decide) (fun K hK => ?_); refine goes_ Tryd.func81 (by kernel_rfl) rfl #[.pointer (some ⟨gT, 2, none⟩), .agg #[.slice B key.length b, .slice B' row.length b']] (by rfl) rfl rfl (by (try simp only [List.map_toArray, List.map_cons, List.map_nil]); first | done | rfl) ?_; refine (tpush_any (T := T.push i ⟨key, row⟩) (j := (T.push i ⟨key, row⟩).n) hT7.out (Nat.le_refl _) (.inr ⟨rfl, rfl, rfl⟩) hE7.out (Kd.FK_below E6.out hHeld) hl7.out).mono ?_; rintro e' w8 ⟨rfl, S2, D2, u2, t8, s8, d8, k8, bb8⟩; refine ⟨_, rfl, ?_⟩; have T8 := Lib.hid t8; have S8 := Lib.hid s8; have D8 := Lib.hid d8; have K8 := Lib.hid k8; have BB8 := Lib.hid bb8; clear t8 s8 d8 k8 bb8; refine hK.out _ _ ?_; clear hK K; refine done_ (by kernel_rfl) ?_
  simp only [Act.put, sa_, sz_, ss_]
  try go_wp2
  go_ret
  have hWw : w.heap.size ≤ w5.heap.size := Nat.le_trans XW.out.size X5.out.size
  have h67 := hHeld.size
  refine ⟨rfl, S2, D2, _, T8.out, fun k hk => ?_, fun k hk => ?_, ?_, ?_⟩
  · rcases S8.out k hk with q | q
    · rcases S6.out k q with q | q
      · exact .inl q
      · exact .inr (by omega)
    · exact .inr (by omega)
  · rcases D8.out k hk with q | q | q
    · rcases D6.out k q with q | q | q
      · exact .inl q
      · exact .inr q.1
      · exact .inr (by omega)
    · exact .inr q.1
    · exact .inr (by omega)
  · have k1 : Kp S w w5 := Kp.of_below (below_step XW.out X5.out)
    have k2 : Kp S w w6 := k1.trans K6.out fun x hx => .inl hx
    have k3 : Kp S w w7 := k2.trans (Kp.of_below hHeld : Kp S w6 w7) fun x hx => .inl hx
    exact k3.trans K8.out fun x hx => (S6.out x hx).elim .inl fun q => .inr (by omega)
  · exact ((((below_step XW.out X5.out).mono HBs.out).trans BB6.out).trans (hHeld.mono (by have := HBs.out; omega))).trans BB8.out
end Go.Proofs.YtcfgjaggccnoaaaDoor.PTableSteps
namespace Go.Proofs.YtcfgjaggccnoaaaDoor.PTableSteps
open Go.RowKit Go.Proofs.YtcfgjaggccnoaaaDoorW.PrintWords Go.Proofs.YtcfgjaggccnoaaaDoorW.PrintLast Go.Proofs.YtcfgjaggccnoaaaDoorW.PrintMore
attribute [local go_sem] max2_int min2_int max_two min_two max_three min_three max_four min_four
set_option linter.unusedVariables false
set_option linter.unusedSimpArgs false
set_option maxRecDepth 100000
set_option maxHeartbeats 4000000
section
variable {P : Program} {ops : Array Oper} {Q : Exit → Act → World → Prop} {md : Region.Mode} {S : World → Prop} {ds : List Nat} {l0 m : Nat}
def noDefer (ops : Array Oper) : Bool := ops.all fun o => match o.op with | .defer _ => false | _ => true
theorem noDefer_at (h : noDefer ops = true) {i : Nat} {o : Oper} (ho : ops[i]? = some o) (c : Call) : o.op ≠ .defer c := fun e => by
  have := Array.all_eq_true_iff_forall_mem.1 h o (Array.mem_of_getElem? ho)
  rw [e] at this
  cases this
theorem operIn_ {o : Oper} {a : Act} {w : World} {K : Act → World → Prop} (hd : ∀ c, o.op ≠ .defer c) (h : o.wp P a w K Q) : o.wpIn (Fence.wide.inRound l0) m P a w K Q := by
  unfold Oper.wp at h
  refine ⟨fun _ _ => trivial, ?_⟩
  rw [Oper.semAt_eq _ _ _ hd]
  generalize (execOp a.eval o).run P w = r at *
  cases r with
  | ok x w' =>
    cases x <;> simp only [Oper.upon, Oper.uponIn] at h ⊢
    case value => exact h
    case skip => exact h
    case defer => exact h
    case enter f args => exact ⟨fun q => (by cases q), CallsIn.inRound l0 (callsIn_wide.2 (Calls.mono h fun e w2 he => by cases e <;> exact he))⟩
    case row row args => exact ⟨fun q => (by cases q), fun c cs _ => let ⟨v, w2, r, s⟩ := h c cs; ⟨v, w2, r, stepsIn_wide.2 s⟩⟩
  | halt x w' => cases x <;> simp only [Oper.upon, Oper.uponIn] at h ⊢ <;> exact h
theorem opIn_ {i : Nat} {a : Act} {w : World} {K : Act → World → Prop} (hq : ¬ LetsOut Q) (hd : noDefer ops = true) (h : wpOp P ops Q i K a w) : wpOpIn (Fence.wide.inRound l0) m P ops Q i K a w := by
  unfold wpOp at h
  unfold wpOpIn
  cases ho : ops[i]? with
  | none => simpa [ho] using h
  | some o =>
    simp only [ho] at h ⊢
    by_cases hw : Region.wanted o (yielded ops a.tmps) = true
    · simp only [hw, if_true] at h ⊢
      exact operIn_ (fun c => noDefer_at hd ho c) (h.resolve_right fun q => hq q.2)
    · simp only [hw] at h ⊢
      exact ⟨fun _ _ => trivial, h⟩
theorem anyIn_ (hq : ¬ LetsOut Q) (hd : noDefer ops = true) : ∀ (k : Nat) (l : Array Bool) (a : Act) (w : World), wpAny P md ops Q k l a w → wpAnyIn (Fence.wide.inRound l0) m P md ops Q k l a w
  | 0, _, _, _, h => h
  | k + 1, l, a, w, h => ⟨h.1, fun i hi => opIn_ hq hd (wpOp_mono (fun a' w' h' => anyIn_ hq hd k _ a' w' h') (h.2 i hi))⟩
theorem startR_ {id n : Nat} {a : Act} {w : World} (X : World → Prop) (l : Array Bool) (hm : P.follows .mixedOrders = true) (hn : ops.size = n) (hd : noDefer ops = true) (hq : ¬ LetsOut Q) (hl : Array.replicate n false = l) (hX : X w.drew) (hS : ∀ w', X w' → S w') (h : ∀ w', X w' → S w' → wpAnyLast P .any ops Q S ds n l a w') : (Code.region id ops true).wpIn (Fence.wide.inRound l0) m P Q a w := by
  subst hn
  subst hl
  exact wpIn_region_any hm (anyIn_ hq hd _ _ _ _ (wpAny_of_last _ _ _ _ (h _ hX (hS _ hX))))
end
end Go.Proofs.YtcfgjaggccnoaaaDoor.PTableSteps
namespace Go.Proofs.YtcfgjaggccnoaaaDoor.PTableSteps
open Go.RowKit Go.Proofs.YtcfgjaggccnoaaaDoorW.PrintWords Go.Proofs.YtcfgjaggccnoaaaDoorW.PrintLast Go.Proofs.YtcfgjaggccnoaaaDoorW.PrintMore
attribute [local go_sem] max2_int min2_int max_two min_two max_three min_three max_four min_four
set_option linter.unusedVariables false
set_option linter.unusedSimpArgs false
set_option maxRecDepth 100000
set_option maxHeartbeats 4000000
theorem fnd1_any {w : World} {key : List S23} {bk : Nat} {A : Option Addr} {c : Nat} (hbk : w.heap[bk]? = some (.cells #[.slice A key.length c] 24 (0, 0))) (hK : Kd.C k23 w A key.length key) (hc : key.length ≤ c)
    {p : S116} {A0 A1 : Option Addr} {c0 c1 : Nat} (hp : Kd.C k23 w A0 p.f0.length p.f0) (h0 : p.f0.length ≤ c0) {k : Nat} {r : Bool} (hm : semi_Match.f k key p.f0 = some r) :
    Calls Tryd.prog 79 #[.agg #[.slice A0 p.f0.length c0, .slice A1 p.f1.length c1], .pointer (some ⟨bk, 0, none⟩)] w fun e w' => e = .returned (.bool r) ∧ Below w.heap.size w w' := by
  have HK := Lib.hid (And.intro hK hc); have HP := Lib.hid (And.intro hp h0); have HM := Lib.hid hm; have HB := Lib.hid hbk
  clear hK hc hp h0 hm hbk
  go_enter Tryd.func79, Tryd.ntmps79
  go_wp2_with (first
    | ((with_reducible refine gate_dst (N := 2) rfl ?_); refine box_event ?hg (N := 2) ?hd (cs := #[.slice A0 p.f0.length c0, .slice A1 p.f1.length c1]) (t := 116) ?hr ?_; (case hd => rfl); (case hg => rfl); (case hr => first | (go_simp; done) | (go_simp; rfl)); intro g2 hg_ w1 hb_ hl_; have L1 := Lib.hid hl_; obtain ⟨s0, s1, f0, f1⟩ := bw2_ hb_; obtain ⟨k0, kf0⟩ := bw1_ ((hl_.block bk (blk_lt HB.out)).trans HB.out); clear hb_ hl_ hg_; simp only [Act.put, sa_, sz_, ss_])
    | ((with_reducible refine gate_callee (f := 80) rfl ?_); refine goesL_ (some 7) rfl rfl Tryd.func80 (by kernel_rfl) rfl #[.slice A key.length c, .slice A0 p.f0.length c0] rfl (by (try simp only [List.map_toArray, List.map_cons, List.map_nil]); first | done | rfl) ?_; refine (semi_Match.calls k A c key A0 c0 p.f0 r w1 (Kd.C_below HK.out.1 L1.out) HK.out.2 (Kd.C_below HP.out.1 L1.out) HP.out.2 HM.out).mono ?_; rintro r' w2 ⟨rfl, b2⟩; refine ⟨_, rfl, ?_⟩; simp only [Act.put, sa_, sz_, ss_]; have B2 := Lib.hid (below_step L1.out b2); clear b2 k0 kf0 s0 s1 f0 f1))
  go_ret
  exact ⟨rfl, B2.out⟩
theorem kys1_any {w : World} {p : S116} {A0 A1 : Option Addr} {c0 c1 : Nat} (hp : Kd.C k23 w A0 p.f0.length p.f0) (h0 : p.f0.length ≤ c0) {k : Nat} {r : Bool} (hm : sift_Whole.f k p.f0 = some r) :
    Calls Tryd.prog 75 #[.agg #[.slice A0 p.f0.length c0, .slice A1 p.f1.length c1]] w fun e w' => e = .returned (.bool r) ∧ Below w.heap.size w w' := by
  have HP := Lib.hid (And.intro hp h0); have HM := Lib.hid hm
  clear hp h0 hm
  go_enter Tryd.func75, Tryd.ntmps75
  go_wp2_with (first
    | ((with_reducible refine gate_dst (N := 1) rfl ?_); refine box_event ?hg (N := 1) ?hd (cs := #[.slice A0 p.f0.length c0, .slice A1 p.f1.length c1]) (t := 116) ?hr ?_; (case hd => rfl); (case hg => rfl); (case hr => first | (go_simp; done) | (go_simp; rfl)); intro g2 hg_ w1 hb_ hl_; have L1 := Lib.hid hl_; obtain ⟨s0, s1, f0, f1⟩ := bw2_ hb_; clear hb_ hl_ hg_; simp only [Act.put, sa_, sz_, ss_])
    | ((with_reducible refine gate_callee (f := 49) rfl ?_); refine goesL_ (some 5) rfl rfl Tryd.func49 (by kernel_rfl) rfl #[.slice A0 p.f0.length c0] rfl (by (try simp only [List.map_toArray, List.map_cons, List.map_nil]); first | done | rfl) ?_; refine (sift_Whole.calls k A0 c0 p.f0 r w1 (Kd.C_below HP.out.1 L1.out) HP.out.2 HM.out).mono ?_; rintro r' w2 ⟨rfl, b2⟩; refine ⟨_, rfl, ?_⟩; simp only [Act.put, sa_, sz_, ss_]; have B2 := Lib.hid (below_step L1.out b2); clear b2 s0 s1 f0 f1))
  go_ret
  exact ⟨rfl, B2.out⟩
def AllD (w : World) (g o pf : Nat) (cp : Array Value) (r : Ending) (w' : World) : Prop :=
  ∃ b1 b2, r = .returned (.func (.func 116) #[] #[.pointer (some ⟨b1, 0, none⟩), .pointer (some ⟨b2, 0, none⟩)]) ∧ w'.heap[b1]? = some (.cells #[.pointer (some ⟨g, o, none⟩)] 120 (0, 0)) ∧ w'.heap[b2]? = some (.cells #[.func (.func pf) #[] cp] 117 (0, 0)) ∧ Below w.heap.size w w'
theorem all_any (w : World) (g o pf : Nat) (cp : Array Value) : Calls Tryd.prog 74 #[.pointer (some ⟨g, o, none⟩), .func (.func pf) #[] cp] w (AllD w g o pf cp) := by
  go_enter Tryd.func74, Tryd.ntmps74
  go_wp2_with (first
    | ((with_reducible refine gate_dst (N := 2) rfl ?_); refine box_event ?hg (N := 2) ?hd (cs := #[.pointer (some ⟨g, o, none⟩)]) (t := 120) ?hr ?_; (case hd => rfl); (case hg => rfl); (case hr => first | (go_simp; done) | (go_simp; rfl)); intro g2 hg_ w1 hb_ hl_; have L1 := Lib.hid hl_; have H1 := Lib.hid hb_; clear hb_ hl_ hg_; simp only [Act.put, sa_, sz_, ss_])
    | ((with_reducible refine gate_dst (N := 3) rfl ?_); refine box_event ?hg (N := 3) ?hd (cs := #[.func (.func pf) #[] cp]) (t := 117) ?hr ?_; (case hd => rfl); (case hg => rfl); (case hr => first | (go_simp; done) | (go_simp; rfl)); intro g3 hg_ w2 hb_ hl_; have L2 := Lib.hid hl_; have H2 := Lib.hid hb_; clear hb_ hl_ hg_; simp only [Act.put, sa_, sz_, ss_]))
  go_ret
  exact ⟨_, _, rfl, (L2.out.block _ (blk_lt H1.out)).trans H1.out, H2.out, below_step L1.out L2.out⟩
end Go.Proofs.YtcfgjaggccnoaaaDoor.PTableSteps
namespace Go.Proofs.YtcfgjaggccnoaaaDoor.PTableSteps
open Go.RowKit Go.Proofs.YtcfgjaggccnoaaaDoorW.PrintWords Go.Proofs.YtcfgjaggccnoaaaDoorW.PrintLast Go.Proofs.YtcfgjaggccnoaaaDoorW.PrintMore
attribute [local go_sem] max2_int min2_int max_two min_two max_three min_three max_four min_four
set_option linter.unusedVariables false
set_option linter.unusedSimpArgs false
set_option maxRecDepth 100000
set_option maxHeartbeats 4000000
attribute [local go_sem] Oper.semAt_some
structure Ent (w : World) (D : Nat → Prop) where
  e : S116
  A0 : Option Addr
  c0 : Nat
  A1 : Option Addr
  c1 : Nat
  h : Kd.FK k116 w D e [.slice A0 e.f0.length c0, .slice A1 e.f1.length c1]
  b0 : e.f0.length ≤ 1000
  b1 : e.f1.length ≤ 1000
def Ent.val {w : World} {D : Nat → Prop} (x : Ent w D) : Value := .agg #[.slice x.A0 x.e.f0.length x.c0, .slice x.A1 x.e.f1.length x.c1]
def KpG (G : Nat → Prop) (W W' : World) : Prop := Below 0 W W' ∧ ∀ k, G k → W'.heap[k]? = W.heap[k]?
theorem KpG.trans {G : Nat → Prop} {A B C : World} (h : KpG G A B) (k : KpG G B C) : KpG G A C := ⟨h.1.trans k.1, fun x hx => (k.2 x hx).trans (h.2 x hx)⟩
theorem KpG.refl (G : Nat → Prop) (A : World) : KpG G A A := ⟨Below.refl _ _, fun _ _ => rfl⟩
theorem KpG.of_below {G : Nat → Prop} {A B : World} (h : Below A.heap.size A B) (hG : ∀ k, G k → k < A.heap.size) : KpG G A B := ⟨h.mono (Nat.zero_le _), fun k hk => h.block k (hG k hk)⟩
theorem KpG.below {G : Nat → Prop} {A B : World} {n : Nat} (h : KpG G A B) (hn : ∀ k, k < n → G k) : Below n A B := ⟨h.1.os, h.1.tape, h.1.output, h.1.size, fun k hk => h.2 k (hn k hk)⟩
theorem kpg_b {w : World} {G : Nat → Prop} (hG : ∀ k, G k → k < w.heap.size) (W : World) (l : Nat) (o o' : Obj) (hl : w.heap.size ≤ l) (h : W.heap[l]? = some o) (hc : o.isCells = false) (hw : o.isWalk = false) : KpG G W (W.putObj l o') :=
  ⟨belowK_b (n₀ := 0) (w := w) (Nat.zero_le _) W l o o' hl h hc hw, fun k hk => World.putObj_heap_other (by have := hG k hk; omega)⟩
theorem abides_below {β : Type} {B : Nat} {J : β → World → Prop} (h : AbidesFrom B J) {s : β} {X Y : World} (hs : J s X) (hb : Below X.heap.size X Y) : J s Y :=
  h s X Y none hs ⟨hb.os, hb.tape, hb.output, hb.size, fun k hk _ => hb.block k hk⟩ (fun r e => by cases e)
theorem bw1w_ {W : World} {b : Nat} {c0 : Value} {t : TypeId} (h : W.heap[b]? = some (.cells #[c0] t (0, 0))) : W.cell? ⟨b, 0, none⟩ = some c0 := (bw1_ h).1
def flt {w : World} {D : Nat → Prop} (pr : Ent w D → Bool) (es : List (Ent w D)) (k : Nat) : List (Ent w D) := (es.take k).filter pr
theorem flt_succ {w : World} {D : Nat → Prop} (pr : Ent w D → Bool) (es : List (Ent w D)) {k : Nat} {x : Ent w D} (hx : es[k]? = some x) : flt pr es (k + 1) = flt pr es k ++ (if pr x then [x] else []) := by
  have hk : k < es.length := (List.getElem?_eq_some_iff.1 hx).1
  unfold flt
  rw [List.take_add_one, hx, List.filter_append]
  congr 1
  by_cases hp : pr x = true <;> simp [hp]
theorem flt_lt {w : World} {D : Nat → Prop} (pr : Ent w D → Bool) (es : List (Ent w D)) {k : Nat} (hk : k < es.length) : (flt pr es k).length < es.length := by
  have := List.length_filter_le pr (es.take k)
  unfold flt
  rw [List.length_take] at this
  omega
theorem isC_ {F : Fence} {n : Nat} {P : Program} {f : FuncId} {args : Array Value} {w : World} {R : Ending → World → Prop} (h : CallsIn F n P f args w R) : CallsIn F n P f args w R := h
theorem wr_succ {k n : Nat} (h : k < n) (he : n ≤ 1000000) : wrap64 ((k : Int) + 1) = (k : Int) + 1 := by
  have h0 : (0 : Int) ≤ (k : Int) + 1 := by omega
  have h1 : (k : Int) + 1 ≤ 9223372036854775807 := by omega
  generalize (k : Int) + 1 = z at *
  unfold wrap64
  omega
theorem msr_ {k n : Nat} (h : k < n) (hw : wrap64 ((k : Int) + 1) = (k : Int) + 1) : n - (intOf (.int .i64 (wrap64 ((k : Int) + 1)))).toNat < n - (intOf (.int .i64 (k : Int))).toNat := by
  rw [hw]
  simp only [intOf]
  omega
theorem all1_in {w : World} {D G : Nat → Prop} (n l b1 b2 g o t g' : Nat) (hn : 1 ≤ n) (pf : Nat) (cp : Array Value) (eg : ∀ args w, (callFunc pf args).run Tryd.prog w = .ok (.enter pf args) w) (pr : Ent w D → Bool) (es : List (Ent w D)) {A : Option Addr} {c : Nat} {cs : Array Value} (he : es.length ≤ 1000000)
    (W : World) (hG : ∀ k, G k → k < W.heap.size) (hb1 : W.heap[b1]? = some (.cells #[.pointer (some ⟨g, o, none⟩)] 120 (0, 0))) (hb2 : W.heap[b2]? = some (.cells #[.func (.func pf) #[] cp] 117 (0, 0))) (G2 : G b2)
    (hcs : W.heap[g]? = some (.cells cs t (0, 0))) (hco : cs[o]? = some (.slice A es.length c))
    (hrow : ∀ j x, es[j]? = some x → A = some ⟨g', 0, none⟩ ∧ G g' ∧ W.cell? ⟨g', j * 2, none⟩ = some (.slice x.A0 x.e.f0.length x.c0) ∧ W.cell? ⟨g', j * 2 + 1, none⟩ = some (.slice x.A1 x.e.f1.length x.c1))
    (hP : ∀ (x : Ent w D) (W1 : World), KpG G W W1 → Calls Tryd.prog pf (#[x.val] ++ cp) W1 fun e W2 => e = .returned (.bool (pr x)) ∧ Below W1.heap.size W1 W2)
    (J Jx : List (Ent w D) → World → Prop) (hJ : AbidesFrom W.heap.size J)
    (hY : ∀ pre x W1, J pre W1 → pre.length < es.length → YieldAt Fence.wide (n - 1) Tryd.prog l #[x.val] W1 fun e W' =>
      (e = .returned (.bool true) ∧ J (pre ++ [x]) W' ∧ KpG G W1 W') ∨ (e = .returned (.bool false) ∧ Jx (pre ++ [x]) W'))
    (h0 : J [] W) :
    CallsIn Fence.wide n Tryd.prog 116 #[.func (.yield l) #[] #[], .pointer (some ⟨b1, 0, none⟩), .pointer (some ⟨b2, 0, none⟩)] W fun e W' => (∃ v, e = .returned v) ∧
      ((∃ ys, ys = es.filter pr ∧ J ys W') ∨ (∃ pre, True ∧ Jx pre W')) := by
  have HG := Lib.hid hG; have HR := Lib.hid hrow; have HP := Lib.hid hP; have HJ := Lib.hid hJ; have HY := Lib.hid hY; have HB2 := Lib.hid hb2; have H0 := Lib.hid h0; have HE := Lib.hid he; have HN := Lib.hid hn
  have q1 := bw1w_ hb1
  have q2 := (blk_cell hcs o).trans hco
  clear hG hrow hP hJ hY h0 hb1 hb2 hcs hco he hn
  refine callsIn_of_wp Tryd.func116 rfl trivial ?_ rfl
  simp only [Tryd.ntmps116, List.size_toArray, List.length_cons, List.length_nil, Nat.reduceAdd, Nat.reduceSub, Array.replicate_succ, Array.replicate_zero, List.push_toArray, List.append_toArray, List.nil_append, List.cons_append]
  gi_wp2
  gi_loopw [11] (fun i wr => ∃ k : Nat, k ≤ es.length ∧ i = .int .i64 k ∧ J (flt pr es k) wr ∧ KpG G W wr)
    (fun i _ => es.length - (intOf i).toNat)
  case atStart => exact ⟨0, Nat.zero_le _, rfl, H0.out, KpG.refl _ _⟩
  case round =>
    obtain ⟨k, hk, rfl, hJs, hnx⟩ := hrel
    have HJS := Lib.hid hJs; have HX := Lib.hid hnx
    clear hJs hnx
    by_cases hlt : k < es.length
    · obtain ⟨x, hx⟩ : ∃ x, es[k]? = some x := ⟨_, List.getElem?_eq_getElem hlt⟩
      have HXK := Lib.hid hx
      have HW := Lib.hid (wr_succ hlt HE.out)
      obtain ⟨eA, g1, r1, r2⟩ := HR.out k x hx
      subst eA
      have s1 := (World.cell?_of_block (w := W) (w' := wr) (a := ⟨g', k * 2, none⟩) (HX.out.2 g' g1)).trans r1
      have s2 := (World.cell?_of_block (w := W) (w' := wr) (a := ⟨g', k * 2 + 1, none⟩) (HX.out.2 g' g1)).trans r2
      have s3 := bw1w_ ((HX.out.2 b2 G2).trans HB2.out)
      have eq := Lib.hid eg
      clear hx r1 r2 q1 q2 HB2 HR
      obtain ⟨wa, hwa⟩ : ∃ wa, wa = wr.alloc (.cells #[.slice x.A0 x.e.f0.length x.c0, .slice x.A1 x.e.f1.length x.c1] 116) := ⟨_, rfl⟩
      have BA : Below wr.heap.size wr wa := by rw [hwa]; exact below_alloc (Below.refl _ _) _
      have hwz : W.heap.size ≤ wr.heap.size := HX.out.1.size
      have hbl : wa.heap[wr.heap.size]? = some (.cells #[.slice x.A0 x.e.f0.length x.c0, .slice x.A1 x.e.f1.length x.c1] 116 (0, 0)) := by rw [hwa]; exact blk_new wr _
      obtain ⟨s5, s6, f5, f6⟩ := bw2_ hbl
      have s4 := (BA.cell (p := ⟨b2, 0, none⟩) (Nat.lt_of_lt_of_le (HG.out b2 G2) hwz)).trans s3
      have KA : KpG G W wa := HX.out.trans (KpG.of_below BA fun k hk => Nat.lt_of_lt_of_le (HG.out k hk) hwz)
      have HKA := Lib.hid KA; have HBL := Lib.hid hbl; have HBA := Lib.hid BA; have HWZ := Lib.hid hwz
      have HPX := Lib.hid (HP.out x wa KA)
      clear KA hbl BA s3 HP hwz
      by_cases hpx : pr x = true
      · rw [hpx] at HPX
        rw [hwa] at s4 s5 s6 f5 f6
        gi_wp2_with (refine ⟨trivial, (fun q => by cases q), ?_⟩; (with_reducible refine isC_ ?_); (try rw [← hwa]); refine ((callsIn_wide (n := n - 1)).2 HPX.out).mono ?_; rintro e w2 ⟨rfl, b9⟩; obtain ⟨t5, t6, z5, z6⟩ := bw2_ ((b9.block _ (blk_lt HBL.out)).trans HBL.out); have HB9 := Lib.hid b9; obtain ⟨fn, tmps, assign, body, hy, hR⟩ := HY.out (flt pr es k) x w2 (abides_below HJ.out (abides_below HJ.out HJS.out HBA.out) b9) (flt_lt pr es hlt); have HRR := Lib.hid hR; clear hR b9; simp only [Ent.val] at hy)
        refine ⟨fun q => (by cases q), ?_⟩
        refine HRR.out.mono ?_
        have hKB : KpG G W w2 := HKA.out.trans (KpG.of_below HB9.out fun k hk => Nat.lt_of_lt_of_le (HG.out k hk) (Nat.le_trans HWZ.out HBA.out.size))
        have HKB := Lib.hid hKB
        clear hKB
        rintro e W3 (⟨rfl, hJ3, hk3⟩ | ⟨rfl, hJx3⟩)
        · have H3 := Lib.hid (And.intro hJ3 hk3)
          clear hJ3 hk3 HRR HJS HPX HY
          gi_wp2
          go_roundw
          case rel => exact ⟨k + 1, by omega, by simp [HW.out], by rw [flt_succ pr es HXK.out, if_pos hpx]; exact H3.out.1, HKB.out.trans H3.out.2⟩
          case measure => exact msr_ hlt HW.out
        · have H3 := Lib.hid hJx3
          clear hJx3 HRR HJS HPX HY
          gi_wp2
          refine bodyPost_ret (results_none rfl _ _ _) rfl ?_
          exact ⟨⟨_, rfl⟩, .inr ⟨_, trivial, H3.out⟩⟩
      · have hpf : pr x = false := by simpa using hpx
        rw [hpf] at HPX
        rw [hwa] at s4 s5 s6 f5 f6
        gi_wp2_with (refine ⟨trivial, (fun q => by cases q), ?_⟩; (with_reducible refine isC_ ?_); (try rw [← hwa]); refine ((callsIn_wide (n := n - 1)).2 HPX.out).mono ?_; rintro e w2 ⟨rfl, b9⟩; have HB9 := Lib.hid b9; have HJ2 := Lib.hid (abides_below HJ.out (abides_below HJ.out HJS.out HBA.out) b9); clear b9)
        refine ⟨fun _ h => (by cases h), ?_⟩
        gi_wp2
        go_roundw
        case rel => exact ⟨k + 1, by omega, by simp [HW.out], by rw [flt_succ pr es HXK.out, if_neg hpx, List.append_nil]; exact HJ2.out, HKA.out.trans (KpG.of_below HB9.out fun k hk => Nat.lt_of_lt_of_le (HG.out k hk) (Nat.le_trans HWZ.out HBA.out.size))⟩
        case measure => exact msr_ hlt HW.out
    · obtain rfl : k = es.length := by omega
      gi_wp2
      go_end0
      exact ⟨⟨_, rfl⟩, .inl ⟨_, rfl, by have := HJS.out; unfold flt at this; rwa [List.take_length] at this⟩⟩
end Go.Proofs.YtcfgjaggccnoaaaDoor.PTableSteps
namespace Go.Proofs.YtcfgjaggccnoaaaDoor.PTableSteps
open Go.RowKit Go.Proofs.YtcfgjaggccnoaaaDoorW.PrintWords Go.Proofs.YtcfgjaggccnoaaaDoorW.PrintLast Go.Proofs.YtcfgjaggccnoaaaDoorW.PrintMore
attribute [local go_sem] max2_int min2_int max_two min_two max_three min_three max_four min_four
set_option linter.unusedVariables false
set_option linter.unusedSimpArgs false
set_option maxRecDepth 100000
set_option maxHeartbeats 4000000
attribute [local go_sem] Oper.semAt_some
def Res (n1 bl : Nat) (rows : List (List S23)) (W : World) : Prop := ∃ v, W.heap[bl]? = some (.cells #[v] 26 (0, 0)) ∧ Kd.R (Kd.slice 23 k23) 24 W n1 (fun _ => True) v rows
theorem Res.abide {n1 bl : Nat} {rows : List (List S23)} {X Y : World} {row : Option Nat} (h : Res n1 bl rows X) (hg : X.grownBy Y row) (hr : ∀ r, row = some r → ∃ o : Obj, X.heap[r]? = some o ∧ o.isCells = false) : Res n1 bl rows Y := by
  obtain ⟨v, hb, hR⟩ := h
  have hn : ∀ k cs t, X.heap[k]? = some (.cells cs t (0, 0)) → some k ≠ row := fun k cs t hk e => by
    obtain ⟨o, ho, hc⟩ := hr k e.symm
    rw [hk] at ho
    cases ho
    cases hc
  refine ⟨v, (hg.block bl (blk_lt hb) (hn _ _ _ hb)).trans hb, Kd.R_mono (Kd.R_step (Kd.R_bound hR) fun k hk hlt => ?_) fun _ _ => trivial⟩
  obtain ⟨_, _, _, q, _, cs, hc⟩ := hk
  exact hg.block k hlt (hn _ _ _ hc)
theorem Res.below {n1 bl : Nat} {rows : List (List S23)} {X Y : World} (h : Res n1 bl rows X) (hb : Below X.heap.size X Y) : Res n1 bl rows Y :=
  h.abide (row := none) ⟨hb.os, hb.tape, hb.output, hb.size, fun k hk _ => hb.block k hk⟩ (fun r e => by cases e)
theorem Ent.reads {w : World} {D : Nat → Prop} (hD : ∀ k, D k → k < w.heap.size) (x : Ent w D) {W : World} (hb : Below w.heap.size w W) : (Kd.C k23 W x.A0 x.e.f0.length x.e.f0 ∧ x.e.f0.length ≤ x.c0) ∧ Kd.C k23 W x.A1 x.e.f1.length x.e.f1 ∧ x.e.f1.length ≤ x.c1 := by
  obtain ⟨A0, c0, A1, c1, e, l0, g0, l1, g1⟩ := k116_open (Kd.FK_now (Kd.FK_step x.h fun k hk _ => hb.block k (hD k hk)))
  injection e with e1 e2
  injection e2 with e2 _
  injection e1 with e1 _ e3
  injection e2 with e2 _ e4
  subst e1 e2 e3 e4
  exact ⟨⟨g0, l0⟩, g1, l1⟩
def Rnd (n1 bl : Nat) (rows : List (List S23)) (W W' : World) : Prop := Res n1 bl rows W' ∧ Below bl W W' ∧ KpG (fun k => k < n1 ∧ k ≠ bl) W W' ∧ KeepsFrom n1 W W'
theorem rnd_ {n1 bl : Nat} {rows : List (List S23)} {row : List S23} {W w5 : World} {v0 v1 : Value} (hbn : bl < n1) (hn : n1 ≤ W.heap.size) (hb : W.heap[bl]? = some (.cells #[v0] 26 (0, 0))) (hR : Kd.R (Kd.slice 23 k23) 24 W n1 (fun _ => True) v0 rows)
    (hR5 : Kd.R (Kd.slice 23 k23) 24 w5 n1 (fun _ => True) v1 (rows ++ [row])) (hB5 : Below n1 W w5) (hk5 : ∀ k, k < W.heap.size → some k ≠ v0.ownBlock → w5.heap[k]? = W.heap[k]?) :
    Rnd n1 bl (rows ++ [row]) W (w5.setCell ⟨bl, 0, none⟩ v1) := by
  have hf : ∀ k, k ≠ bl → (w5.setCell ⟨bl, 0, none⟩ v1).heap[k]? = w5.heap[k]? := fun k hk => Below.heap_setCell w5 ⟨bl, 0, none⟩ _ k hk
  have hb5 : w5.heap[bl]? = some (.cells #[v0] 26 (0, 0)) := (hB5.block bl hbn).trans hb
  refine ⟨⟨v1, blk_put hb5 0 _ rfl, Kd.R_mono (Kd.R_step (Kd.R_bound hR5) fun k hk hlt => hf k (by have := hk.2.1; omega)) fun _ _ => trivial⟩, (hB5.mono (Nat.le_of_lt hbn)).setCell (Nat.le_refl _) _, ⟨(hB5.mono (Nat.zero_le _)).setCell (Nat.zero_le _) _, fun k hk => (hf k hk.2).trans (hB5.block k hk.1)⟩, by rw [World.size_setCell]; exact hB5.size, fun k o hk ho hc => ?_⟩
  refine (hf k (by omega)).trans ((hk5 k (blk_lt ho) fun e => ?_).trans ho)
  obtain ⟨cs, ht⟩ := Kd.R_typed hR k e.symm
  rw [ht] at ho
  cases ho
  cases hc
noncomputable def bodyC37 : Code := match Tryd.f37.body with | some (.seq _ (.seq _ (.seq _ (.seq _ (.seq (.seq _ (.block _ (.rangeFunc _ _ _ c))) _))))) => c | _ => .skip
theorem body37_ {w W : World} {D : Nat → Prop} {n l n1 bl bx : Nat} {u0 u1 u2 u3 u4 u5 u8 u9 u10 u11 u12 u13 u14 u15 u16 u17 u18 u19 u20 u21 u22 u23 u24 u25 u26 u27 : Value} {x : Ent w D} {rows : List (List S23)} (hD : ∀ k, D k → k < w.heap.size) (hR : Res n1 bl rows W) (hB : Below w.heap.size w W) (hx : W.heap[bx]? = some (.cells #[.slice x.A0 x.e.f0.length x.c0, .slice x.A1 x.e.f1.length x.c1] 116 (0, 0))) (hbn : bl < n1) (hn : n1 ≤ W.heap.size) (hl : rows.length ≤ 1000000) (hl2 : x.e.f1.length ≤ 1000)
    {Q : Exit → Act → World → Prop} (hQ : ¬ LetsOut Q) (hQ2 : ∀ c a w, ¬ Q (.panic c) a w) (hq : ∀ a W', Rnd n1 bl (rows ++ [x.e.f1]) W W' → Q .normal a W') : (bodyC37).wpIn (Fence.wide.inRound l) n Tryd.prog Q { tmps := #[u0, u1, u2, u3, u4, u5, .pointer (some ⟨bl, 0, none⟩), .pointer (some ⟨bx, 0, none⟩), u8, u9, u10, u11, u12, u13, u14, u15, u16, u17, u18, u19, u20, u21, u22, u23, u24, u25, u26, u27], defers := [] } W := by
  obtain ⟨v0, hb, hR0⟩ := hR
  obtain ⟨B0, d0, hv0⟩ := Kd.R_slice hR0
  have HR := Lib.hid hR0; have HBL := Lib.hid hb; have HBX := Lib.hid hx; have HN := Lib.hid (And.intro hbn hn); have HL := Lib.hid (And.intro hl hl2); have HQ := Lib.hid (And.intro hQ hQ2); have HC := Lib.hid hq
  have HX : Hid (∀ W1, Below W.heap.size W W1 → Kd.C k23 W1 x.A1 x.e.f1.length x.e.f1 ∧ x.e.f1.length ≤ x.c1) := Lib.hid fun W1 h1 => (Ent.reads hD x (below_step hB h1)).2
  subst hv0
  clear hR0 hb hx hbn hn hl hl2 hQ hQ2 hq hD hB
  refine wpIn_block (id := 1) ?_
  refine startR_ (X := fun w' => Below W.heap.size W w') (n := 7) (S := fun w' => w'.heap[bl]? = some (.cells #[.slice B0 rows.length d0] 26 (0, 0)) ∧ w'.heap[bx]? = some (.cells #[.slice x.A0 x.e.f0.length x.c0, .slice x.A1 x.e.f1.length x.c1] 116 (0, 0))) (ds := [6]) #[false, false, false, false, false, false, false] (by kernel_rfl) rfl (by kernel_rfl) ?hq rfl (Below.drew (Below.refl _ _)) (fun w' h => ⟨blk_below HBL.out h, blk_below HBX.out h⟩) (fun w2 hX_ hHeld => ?_)
  case hq => rintro ⟨a, w', h⟩; exact HQ.out.1 ⟨a, w', h⟩
  have X2 := Lib.hid hX_; clear hX_
  refine take_ (i := 0) (N := some 21) (v := ?_) (a' := ?_) #[true, false, false, false, false, false, false] rfl rfl (by kernel_rfl) (fun c a w h => (HQ.out.2 c _ w h).elim) (Or.inl ⟨by rfl, ?_⟩) hHeld ?_ ?_; rotate_left
  · intro w' hS; obtain ⟨q0, qf0⟩ := bw1_ hS.1; go_simp; (with_reducible rfl)
  rotate_left
  · simp only [Act.put, sa_, sz_, ss_, i64_w, i32_w]
    rfl
  refine pure_ (i := 1) (N := some 22) (v := ?_) (a' := ?_) #[true, true, false, false, false, false, false] rfl rfl (by kernel_rfl) (fun c a w h => (HQ.out.2 c _ w h).elim) (Or.inl ⟨by rfl, ?_⟩) ?_ ?_; rotate_left
  · intro w'
    go_simp; (with_reducible rfl)
  rotate_left
  · simp only [Act.put, sa_, sz_, ss_, i64_w, i32_w]
    rfl
  refine take_ (i := 2) (N := some 23) (v := ?_) (a' := ?_) #[true, true, true, false, false, false, false] rfl rfl (by kernel_rfl) (fun c a w h => (HQ.out.2 c _ w h).elim) (Or.inl ⟨by rfl, ?_⟩) hHeld ?_ ?_; rotate_left
  · intro w' hS; obtain ⟨s0, s1, f0, f1⟩ := bw2_ hS.2; go_simp; (with_reducible rfl)
  rotate_left
  · simp only [Act.put, sa_, sz_, ss_, i64_w, i32_w]
    rfl
  refine one_ (i := 3) (N := some 24) #[true, true, true, true, false, false, false] rfl rfl (by kernel_rfl) (by decide) (fun K hK => ?_); refine goes_ Tryd.func76 (by kernel_rfl) rfl #[.slice x.A1 x.e.f1.length x.c1] (by rfl) rfl rfl (by (try simp only [List.map_toArray, List.map_cons, List.map_nil]); first | done | rfl) ?_; refine (clone_any w2 x.e.f1 (HX.out _ X2.out).1 (HX.out _ X2.out).2 (Nat.le_trans HL.out.2 (by decide))).mono ?_; rintro e' w3 ⟨B, b, rfl, n9, f9, b9, r9⟩; refine ⟨_, rfl, ?_⟩; have X3 := Lib.hid (below_step X2.out b9); have R3 := Lib.hid r9; clear f9 b9 n9 r9; refine hK.out _ _ (⟨blk_below HBL.out X3.out, blk_below HBX.out X3.out⟩) (fun hHeld => ?_); clear hK K; refine norm_ (a' := ?_) ?_ ?_; rotate_left
  · show Act.put _ (some 24) _ = _
    simp only [Act.put, sa_, sz_, ss_, i64_w, i32_w]; rfl
  refine one_ (i := 4) (N := some 25) #[true, true, true, true, true, false, false] rfl rfl (by kernel_rfl) (by decide) (fun K hK => ?_); refine value_ (w1 := w3.alloc (.cells #[.slice B x.e.f1.length b] 24)) (v := .slice (some ⟨w3.heap.size, 0, none⟩) 1 1) (by rfl) rfl ?hr ?_; (case hr => first | (go_simp; done) | (go_simp; rfl)); refine hK.out _ _ ⟨blk_alloc hHeld.1 _, blk_alloc hHeld.2 _⟩ (fun hHeld => ?_); clear hK K; refine norm_ (a' := ?_) ?_ ?_; rotate_left
  · show Act.put _ (some 25) _ = _
    simp only [Act.put, sa_, sz_, ss_, i64_w, i32_w]; rfl
  have HM : Kd.M (Kd.slice 23 k23) w3 n1 (fun k => W.heap.size ≤ k) x.e.f1 [.slice B x.e.f1.length b] := ⟨_, rfl, Kd.R_mono (Kd.R_lower R3.out (Nat.le_trans HN.out.2 X2.out.size)) fun k hk => Nat.le_trans X2.out.size hk⟩
  refine one_ (i := 5) (N := some 26) #[true, true, true, true, true, true, false] rfl rfl (by kernel_rfl) (by decide) (fun K hK => ?_); refine Kd.R_append_step (Kd.slice 23 k23) (w0 := W) n1 (by rfl) (.tmp 21) (.tmp 25) 26 24 (.slice none 0 0) 24 rfl Tryd.underlying26 info24 rfl (by decide) (by omega) (.slice B0 rows.length d0) rows x.e.f1 [.slice B x.e.f1.length b] (fun _ => True) (fun k => W.heap.size ≤ k) rfl rfl HM ?aF (fun _ _ => trivial) ?aO ?aB ?aS ?aL ?_; (case aF => exact fun k hk => ⟨trivial, fun e => by have := Kd.R_lt HR.out k e.symm; omega⟩); (case aO => exact Kd.R_below HR.out X3.out); (case aB => exact X3.out.mono HN.out.2); (case aS => exact Nat.le_trans HN.out.2 X3.out.size); (case aL => have := HL.out.1; omega); intro v1 w5 hn hb3 hg3 hat3; have N3 := Lib.hid hn; have B3 := Lib.hid hb3; have G3 := Lib.hid hg3; clear hn hb3 hg3 hat3 HM; refine hK.out _ _ ⟨?_, ?_⟩ (fun hHeld => ?_)
  · exact (G3.out.block bl (blk_lt (blk_below HBL.out X3.out)) (Kd.R_ne HR.out HBL.out (by decide))).trans (blk_below HBL.out X3.out)
  · exact (G3.out.block bx (blk_lt (blk_below HBX.out X3.out)) (Kd.R_ne HR.out HBX.out (by decide))).trans (blk_below HBX.out X3.out)
  clear hK K; refine norm_ (a' := ?_) ?_ ?_; rotate_left
  · show Act.put _ (some 26) _ = _
    simp only [Act.put, sa_, sz_, ss_, i64_w, i32_w]; rfl
  obtain ⟨C0, e0, hv1⟩ := Kd.R_slice N3.out
  subst hv1
  obtain ⟨hq, hf⟩ := bw1_ hHeld.1
  refine last_ (i := 6) (N := none) #[true, true, true, true, true, true, true] rfl rfl (by kernel_rfl) (by decide) (fun K hK => ?_); refine skip_ (w1 := ?_) (by rfl) rfl ?_ ?_; rotate_left
  · go_simp
    rfl
  refine hK.out _ _ ?_; clear hK K; refine done_ (by kernel_rfl) ?_
  have N4 := N3.out
  rw [show (rows ++ [x.e.f1]).length = rows.length + 1 by simp] at N4
  exact HC.out _ _ (rnd_ HN.out.1 HN.out.2 HBL.out HR.out N4 B3.out fun k hk hne => (G3.out.block k (Nat.lt_of_lt_of_le hk X3.out.size) hne).trans (X3.out.block k hk))
noncomputable def bodyC33 : Code := match Tryd.f33.body with | some (.seq _ (.seq _ (.seq _ (.seq (.seq _ (.block _ (.rangeFunc _ _ _ c))) _)))) => c | _ => .skip
theorem body33_ {w W : World} {D : Nat → Prop} {n l n1 bl bx : Nat} {u0 u1 u2 u5 u6 u7 u8 u9 u10 u11 u12 u13 u14 u15 u16 u17 u18 : Value} {x : Ent w D} {rows : List (List S23)} (hD : ∀ k, D k → k < w.heap.size) (hR : Res n1 bl rows W) (hB : Below w.heap.size w W) (hx : W.heap[bx]? = some (.cells #[.slice x.A0 x.e.f0.length x.c0, .slice x.A1 x.e.f1.length x.c1] 116 (0, 0))) (hbn : bl < n1) (hn : n1 ≤ W.heap.size) (hl : rows.length ≤ 1000000) (hl2 : x.e.f0.length ≤ 1000)
    {Q : Exit → Act → World → Prop} (hQ : ¬ LetsOut Q) (hQ2 : ∀ c a w, ¬ Q (.panic c) a w) (hq : ∀ a W', Rnd n1 bl (rows ++ [x.e.f0]) W W' → Q .normal a W') : (bodyC33).wpIn (Fence.wide.inRound l) n Tryd.prog Q { tmps := #[u0, u1, u2, .pointer (some ⟨bl, 0, none⟩), .pointer (some ⟨bx, 0, none⟩), u5, u6, u7, u8, u9, u10, u11, u12, u13, u14, u15, u16, u17, u18], defers := [] } W := by
  obtain ⟨v0, hb, hR0⟩ := hR
  obtain ⟨B0, d0, hv0⟩ := Kd.R_slice hR0
  have HR := Lib.hid hR0; have HBL := Lib.hid hb; have HBX := Lib.hid hx; have HN := Lib.hid (And.intro hbn hn); have HL := Lib.hid (And.intro hl hl2); have HQ := Lib.hid (And.intro hQ hQ2); have HC := Lib.hid hq
  have HX : Hid (∀ W1, Below W.heap.size W W1 → Kd.C k23 W1 x.A0 x.e.f0.length x.e.f0 ∧ x.e.f0.length ≤ x.c0) := Lib.hid fun W1 h1 => (Ent.reads hD x (below_step hB h1)).1
  subst hv0
  clear hR0 hb hx hbn hn hl hl2 hQ hQ2 hq hD hB
  refine wpIn_block (id := 1) ?_
  refine startR_ (X := fun w' => Below W.heap.size W w') (n := 7) (S := fun w' => w'.heap[bl]? = some (.cells #[.slice B0 rows.length d0] 26 (0, 0)) ∧ w'.heap[bx]? = some (.cells #[.slice x.A0 x.e.f0.length x.c0, .slice x.A1 x.e.f1.length x.c1] 116 (0, 0))) (ds := [6]) #[false, false, false, false, false, false, false] (by kernel_rfl) rfl (by kernel_rfl) ?hq rfl (Below.drew (Below.refl _ _)) (fun w' h => ⟨blk_below HBL.out h, blk_below HBX.out h⟩) (fun w2 hX_ hHeld => ?_)
  case hq => rintro ⟨a, w', h⟩; exact HQ.out.1 ⟨a, w', h⟩
  have X2 := Lib.hid hX_; clear hX_
  refine take_ (i := 0) (N := some 12) (v := ?_) (a' := ?_) #[true, false, false, false, false, false, false] rfl rfl (by kernel_rfl) (fun c a w h => (HQ.out.2 c _ w h).elim) (Or.inl ⟨by rfl, ?_⟩) hHeld ?_ ?_; rotate_left
  · intro w' hS; obtain ⟨q0, qf0⟩ := bw1_ hS.1; go_simp; (with_reducible rfl)
  rotate_left
  · simp only [Act.put, sa_, sz_, ss_, i64_w, i32_w]
    rfl
  refine pure_ (i := 1) (N := some 13) (v := ?_) (a' := ?_) #[true, true, false, false, false, false, false] rfl rfl (by kernel_rfl) (fun c a w h => (HQ.out.2 c _ w h).elim) (Or.inl ⟨by rfl, ?_⟩) ?_ ?_; rotate_left
  · intro w'
    go_simp; (with_reducible rfl)
  rotate_left
  · simp only [Act.put, sa_, sz_, ss_, i64_w, i32_w]
    rfl
  refine take_ (i := 2) (N := some 14) (v := ?_) (a' := ?_) #[true, true, true, false, false, false, false] rfl rfl (by kernel_rfl) (fun c a w h => (HQ.out.2 c _ w h).elim) (Or.inl ⟨by rfl, ?_⟩) hHeld ?_ ?_; rotate_left
  · intro w' hS; obtain ⟨s0, s1, f0, f1⟩ := bw2_ hS.2; go_simp; (with_reducible rfl)
  rotate_left
  · simp only [Act.put, sa_, sz_, ss_, i64_w, i32_w]
    rfl
  refine one_ (i := 3) (N := some 15) #[true, true, true, true, false, false, false] rfl rfl (by kernel_rfl) (by decide) (fun K hK => ?_); refine goes_ Tryd.func76 (by kernel_rfl) rfl #[.slice x.A0 x.e.f0.length x.c0] (by rfl) rfl rfl (by (try simp only [List.map_toArray, List.map_cons, List.map_nil]); first | done | rfl) ?_; refine (clone_any w2 x.e.f0 (HX.out _ X2.out).1 (HX.out _ X2.out).2 (Nat.le_trans HL.out.2 (by decide))).mono ?_; rintro e' w3 ⟨B, b, rfl, n9, f9, b9, r9⟩; refine ⟨_, rfl, ?_⟩; have X3 := Lib.hid (below_step X2.out b9); have R3 := Lib.hid r9; clear f9 b9 n9 r9; refine hK.out _ _ (⟨blk_below HBL.out X3.out, blk_below HBX.out X3.out⟩) (fun hHeld => ?_); clear hK K; refine norm_ (a' := ?_) ?_ ?_; rotate_left
  · show Act.put _ (some 15) _ = _
    simp only [Act.put, sa_, sz_, ss_, i64_w, i32_w]; rfl
  refine one_ (i := 4) (N := some 16) #[true, true, true, true, true, false, false] rfl rfl (by kernel_rfl) (by decide) (fun K hK => ?_); refine value_ (w1 := w3.alloc (.cells #[.slice B x.e.f0.length b] 24)) (v := .slice (some ⟨w3.heap.size, 0, none⟩) 1 1) (by rfl) rfl ?hr ?_; (case hr => first | (go_simp; done) | (go_simp; rfl)); refine hK.out _ _ ⟨blk_alloc hHeld.1 _, blk_alloc hHeld.2 _⟩ (fun hHeld => ?_); clear hK K; refine norm_ (a' := ?_) ?_ ?_; rotate_left
  · show Act.put _ (some 16) _ = _
    simp only [Act.put, sa_, sz_, ss_, i64_w, i32_w]; rfl
  have HM : Kd.M (Kd.slice 23 k23) w3 n1 (fun k => W.heap.size ≤ k) x.e.f0 [.slice B x.e.f0.length b] := ⟨_, rfl, Kd.R_mono (Kd.R_lower R3.out (Nat.le_trans HN.out.2 X2.out.size)) fun k hk => Nat.le_trans X2.out.size hk⟩
  refine one_ (i := 5) (N := some 17) #[true, true, true, true, true, true, false] rfl rfl (by kernel_rfl) (by decide) (fun K hK => ?_); refine Kd.R_append_step (Kd.slice 23 k23) (w0 := W) n1 (by rfl) (.tmp 12) (.tmp 16) 26 24 (.slice none 0 0) 24 rfl Tryd.underlying26 info24 rfl (by decide) (by omega) (.slice B0 rows.length d0) rows x.e.f0 [.slice B x.e.f0.length b] (fun _ => True) (fun k => W.heap.size ≤ k) rfl rfl HM ?aF (fun _ _ => trivial) ?aO ?aB ?aS ?aL ?_; (case aF => exact fun k hk => ⟨trivial, fun e => by have := Kd.R_lt HR.out k e.symm; omega⟩); (case aO => exact Kd.R_below HR.out X3.out); (case aB => exact X3.out.mono HN.out.2); (case aS => exact Nat.le_trans HN.out.2 X3.out.size); (case aL => have := HL.out.1; omega); intro v1 w5 hn hb3 hg3 hat3; have N3 := Lib.hid hn; have B3 := Lib.hid hb3; have G3 := Lib.hid hg3; clear hn hb3 hg3 hat3 HM; refine hK.out _ _ ⟨?_, ?_⟩ (fun hHeld => ?_)
  · exact (G3.out.block bl (blk_lt (blk_below HBL.out X3.out)) (Kd.R_ne HR.out HBL.out (by decide))).trans (blk_below HBL.out X3.out)
  · exact (G3.out.block bx (blk_lt (blk_below HBX.out X3.out)) (Kd.R_ne HR.out HBX.out (by decide))).trans (blk_below HBX.out X3.out)
  clear hK K; refine norm_ (a' := ?_) ?_ ?_; rotate_left
  · show Act.put _ (some 17) _ = _
    simp only [Act.put, sa_, sz_, ss_, i64_w, i32_w]; rfl
  obtain ⟨C0, e0, hv1⟩ := Kd.R_slice N3.out
  subst hv1
  obtain ⟨hq, hf⟩ := bw1_ hHeld.1
  refine last_ (i := 6) (N := none) #[true, true, true, true, true, true, true] rfl rfl (by kernel_rfl) (by decide) (fun K hK => ?_); refine skip_ (w1 := ?_) (by rfl) rfl ?_ ?_; rotate_left
  · go_simp
    rfl
  refine hK.out _ _ ?_; clear hK K; refine done_ (by kernel_rfl) ?_
  have N4 := N3.out
  rw [show (rows ++ [x.e.f0]).length = rows.length + 1 by simp] at N4
  exact HC.out _ _ (rnd_ HN.out.1 HN.out.2 HBL.out HR.out N4 B3.out fun k hk hne => (G3.out.block k (Nat.lt_of_lt_of_le hk X3.out.size) hne).trans (X3.out.block k hk))
end Go.Proofs.YtcfgjaggccnoaaaDoor.PTableSteps
namespace Go.Proofs.YtcfgjaggccnoaaaDoor.PTableSteps
open Go.RowKit Go.Proofs.YtcfgjaggccnoaaaDoorW.PrintWords Go.Proofs.YtcfgjaggccnoaaaDoorW.PrintLast Go.Proofs.YtcfgjaggccnoaaaDoorW.PrintMore
attribute [local go_sem] max2_int min2_int max_two min_two max_three min_three max_four min_four
set_option linter.unusedVariables false
set_option linter.unusedSimpArgs false
set_option maxRecDepth 100000
set_option maxHeartbeats 4000000
attribute [local go_sem] Oper.semAt_some
theorem chain_es {w : World} {base : Nat} {ok : Nat → Prop} {A : Option Addr} {c : Nat} {l : List S116} (h : Kd.N k116 116 w base ok (.slice A l.length c) l) (hb : ∀ p, p ∈ l → p.f0.length ≤ 1000 ∧ p.f1.length ≤ 1000) :
    ∃ (es : List (Ent w ok)) (g' : Nat), es.map (·.e) = l ∧ ∀ j x, es[j]? = some x → A = some ⟨g', 0, none⟩ ∧ (ok g' ∧ g' < w.heap.size) ∧ w.cell? ⟨g', j * 2, none⟩ = some (.slice x.A0 x.e.f0.length x.c0) ∧ w.cell? ⟨g', j * 2 + 1, none⟩ = some (.slice x.A1 x.e.f1.length x.c1) := by
  rcases Nat.eq_zero_or_pos l.length with e | hp
  · obtain rfl := List.length_eq_zero_iff.1 e
    exact ⟨[], 0, rfl, fun j x hx => by simp at hx⟩
  · obtain ⟨g, cap, e, hbs, hlt, _⟩ := Kd.N_form h hp
    injection e with e1 e2 e3
    subst e1 e3
    have hg : ok g := h.1 g (by simp [Value.ownBlock])
    have H : ∀ i : Fin l.length, ∃ x : Ent w ok, x.e = l[i.1] ∧ w.cell? ⟨g, i.1 * 2, none⟩ = some (.slice x.A0 x.e.f0.length x.c0) ∧ w.cell? ⟨g, i.1 * 2 + 1, none⟩ = some (.slice x.A1 x.e.f1.length x.c1) := by
      intro i
      obtain ⟨cl, _, hF, hc, _⟩ := Kd.N_elem h z116 (i.1 : Int) (by omega) (by have := i.2; omega)
      simp only [Int.toNat_natCast] at hF hc
      have e : l.getD i.1 z116 = l[i.1] := by simp [List.getD_eq_getElem?_getD]
      rw [e] at hF
      have hF2 : Kd.FK k116 w ok l[i.1] cl := Kd.FK_mono hF fun k hk => hk.1
      obtain ⟨A0, c0, A1, c1, ecl, l0, g0, l1, g1⟩ := k116_openF hF2
      rw [ecl] at hF2 hc
      have hm := hb _ (List.getElem_mem i.2)
      exact ⟨⟨l[i.1], A0, c0, A1, c1, hF2, hm.1, hm.2⟩, rfl, hc 0 _ rfl, hc 1 _ rfl⟩
    refine ⟨List.ofFn fun i => Classical.choose (H i), g, ?_, fun j x hx => ?_⟩
    · apply List.ext_getElem
      · simp
      · intro i h1 h2
        have := (Classical.choose_spec (H ⟨i, h2⟩)).1
        simpa using this
    · have hj : j < l.length := by
        have := (List.getElem?_eq_some_iff.1 hx).1
        simpa using this
      have hx2 : Classical.choose (H ⟨j, hj⟩) = x := by
        rw [List.getElem?_ofFn, dif_pos hj] at hx
        exact Option.some.inj hx
      have := Classical.choose_spec (H ⟨j, hj⟩)
      rw [hx2] at this
      exact ⟨rfl, ⟨hg, hlt⟩, this.2.1, this.2.2⟩
theorem all_stops {w w0 : World} {D G : Nat → Prop} (n b1 b2 g o t g' : Nat) (hn : 1 ≤ n) (pf : Nat) (cp : Array Value) (eg : ∀ args w, (callFunc pf args).run Tryd.prog w = .ok (.enter pf args) w) (pr : Ent w D → Bool) (es : List (Ent w D)) {A : Option Addr} {c : Nat} {cs : Array Value} (he : es.length ≤ 1000000)
    (hG : ∀ k, G k → k < w0.heap.size) (hb1 : w0.heap[b1]? = some (.cells #[.pointer (some ⟨g, o, none⟩)] 120 (0, 0))) (hb2 : w0.heap[b2]? = some (.cells #[.func (.func pf) #[] cp] 117 (0, 0))) (G2 : G b2)
    (hcs : w0.heap[g]? = some (.cells cs t (0, 0))) (hco : cs[o]? = some (.slice A es.length c))
    (hrow : ∀ j x, es[j]? = some x → A = some ⟨g', 0, none⟩ ∧ G g' ∧ w0.cell? ⟨g', j * 2, none⟩ = some (.slice x.A0 x.e.f0.length x.c0) ∧ w0.cell? ⟨g', j * 2 + 1, none⟩ = some (.slice x.A1 x.e.f1.length x.c1))
    (hP : ∀ (x : Ent w D) (W1 : World), KpG G w0 W1 → Calls Tryd.prog pf (#[x.val] ++ cp) W1 fun e W2 => e = .returned (.bool (pr x)) ∧ Below W1.heap.size W1 W2) :
    SeqStopsK Fence.wide n Tryd.prog 116 #[.pointer (some ⟨b1, 0, none⟩), .pointer (some ⟨b2, 0, none⟩)] (fun x : Ent w D => #[x.val]) (KpG G) (fun ys => ys = es.filter pr) (fun _ => True) es.length w0 := fun l J Jx W hW hJ _ hY h0 =>
  all1_in n l b1 b2 g o t g' hn pf cp eg pr es he W (fun k hk => Nat.lt_of_lt_of_le (hG k hk) hW.size) (blk_below hb1 hW) (blk_below hb2 hW) G2 (blk_below hcs hW) hco
    (fun j x hx => by obtain ⟨h1, h2, h3, h4⟩ := hrow j x hx; exact ⟨h1, h2, (hW.cell (p := ⟨g', j * 2, none⟩) (hG _ h2)).trans h3, (hW.cell (p := ⟨g', j * 2 + 1, none⟩) (hG _ h2)).trans h4⟩)
    (fun x W1 h => hP x W1 ((KpG.of_below hW hG).trans h)) J Jx hJ hY h0
end Go.Proofs.YtcfgjaggccnoaaaDoor.PTableSteps
namespace Go.Proofs.YtcfgjaggccnoaaaDoor.PTableSteps
open Go.RowKit Go.Proofs.YtcfgjaggccnoaaaDoorW.PrintWords Go.Proofs.YtcfgjaggccnoaaaDoorW.PrintLast Go.Proofs.YtcfgjaggccnoaaaDoorW.PrintMore
attribute [local go_sem] max2_int min2_int max_two min_two max_three min_three max_four min_four
set_option linter.unusedVariables false
set_option linter.unusedSimpArgs false
set_option maxRecDepth 100000
set_option maxHeartbeats 4000000
attribute [local go_sem] Oper.semAt_some
def InvR {D : Nat → Prop} (w W0 : World) (bl : Nat) (f : Ent w D → List S23) (pre : List (Ent w D)) (W : World) : Prop := (Res W0.heap.size bl (pre.map f) W ∧ W0.heap.size ≤ W.heap.size) ∧ Below w.heap.size w W
theorem InvR.own {D : Nat → Prop} {w W0 : World} {bl : Nat} {f : Ent w D → List S23} (h : w.heap.size ≤ W0.heap.size) : OwnFrom W0.heap.size (InvR w W0 bl f) :=
  fun s X Y row hs hg hr => ⟨⟨hs.1.1.abide hg fun r e => (hr r e).2, Nat.le_trans hs.1.2 hg.size⟩, ownFrom_below (β := Unit) (Nat.le_refl _) h () X Y row hs.2 hg hr⟩
def FinD (w : World) (rows : List (List S23)) (r : Ending) (w' : World) : Prop := ∃ v, r = .returned (.tuple #[v, .int .i64 0]) ∧ Kd.R (Kd.slice 23 k23) 24 w' w.heap.size (fun _ => True) v rows ∧ Below w.heap.size w w'
theorem find_any {w : World} {base gT gB : Nat} {S D : Nat → Prop} {T : Tb} {v : Nat → Value} (h : TB w base S D gT T gB v) (hT : TabOK w) (hs : T.sl = true) {key : List S23} {A : Option Addr} {c : Nat} (hK : Kd.C k23 w A key.length key) (hc : key.length ≤ c)
    {k : Nat} {hsh : Int} {i : Nat} (hr : hash_Row.f k T.seed key = some hsh) (hb : hash_Bucket.f hsh T.n = some (i : Int)) (h1 : i < T.n) (l3 : (T.ch i).length ≤ 1000000) (l4 : ∀ p, p ∈ T.ch i → p.f0.length ≤ 1000 ∧ p.f1.length ≤ 1000) {kk : Nat} {pr : List S23 → Bool} (hm : ∀ p : List S23, p.length ≤ 1000 → semi_Match.f kk key p = some (pr p)) :
    Calls Tryd.prog 37 #[.pointer (some ⟨gT, 0, none⟩), .slice A key.length c] w (FinD w (((T.ch i).filter fun p => pr p.f0).map (·.f1))) := by
  obtain ⟨A1, c1, ev⟩ := h.sl i (Nat.le_of_lt h1)
  have hN := Kd.N_mono (ok' := fun k => k < w.heap.size) (Kd.N_bound (h.ch i (Nat.le_of_lt h1))) fun k hk => hk.2
  rw [ev] at hN
  obtain ⟨es, g', hes, hrw⟩ := chain_es hN l4
  have hel : es.length = (T.ch i).length := by have := congrArg List.length hes; rwa [List.length_map] at this
  obtain ⟨cs, hbb, hz, hcc⟩ := h.bb
  have hci := hcc i h1
  rw [ev, ← hel] at hci
  have hdl := h.dl
  have hg := h.tb
  unfold tcells at hg
  rw [hs] at hg
  obtain ⟨w1, hw1⟩ : ∃ w1, w1 = w.alloc (.cells #[.slice A key.length c] 24) := ⟨_, rfl⟩
  obtain ⟨w2, hw2⟩ : ∃ w2, w2 = w1.alloc (.cells #[.slice none 0 0] 26) := ⟨_, rfl⟩
  have bb1 : Below w.heap.size w w1 := by rw [hw1]; exact below_alloc (Below.refl _ _) _
  have bb2 : Below w1.heap.size w1 w2 := by rw [hw2]; exact below_alloc (Below.refl _ _) _
  have z1 : w1.heap.size = w.heap.size + 1 := by rw [hw1, World.size_alloc]
  have z2 : w2.heap.size = w.heap.size + 2 := by rw [hw2, World.size_alloc, z1]
  have k1 : w1.heap[w.heap.size]? = some (.cells #[.slice A key.length c] 24 (0, 0)) := by rw [hw1]; exact blk_new w _
  have k2 : w2.heap[w.heap.size + 1]? = some (.cells #[.slice none 0 0] 26 (0, 0)) := by rw [hw2, ← z1]; exact blk_new w1 _
  obtain ⟨a0, a1, a2, a3, f0, f1, f2, f3⟩ := bw4_ (blk_below hg bb1)
  obtain ⟨d0, e0⟩ := bw1_ (blk_below k1 bb2)
  have HB := Lib.hid (below_step bb1 bb2); have HK1 := Lib.hid (blk_below k1 bb2); have HK2 := Lib.hid k2; have HT2 := Lib.hid (h.below (below_step bb1 bb2)); have HTab := Lib.hid (hT.below (below_step bb1 bb2)); have HKey := Lib.hid (And.intro hK hc)
  have HR := Lib.hid hr; have HBk := Lib.hid hb; have HI := Lib.hid h1; have HL := Lib.hid (And.intro (show es.length ≤ 1000000 by rw [hel]; exact l3) hel); have HM := Lib.hid hm; have HBB := Lib.hid (And.intro hbb hci); have HRW := Lib.hid hrw; have HES := Lib.hid hes; have HDL := Lib.hid hdl; have HZ2 := Lib.hid z2
  clear h hT hs hK hc hr hb h1 l3 l4 hm ev hN hrw hel hbb hz hcc hci hg bb1 bb2 k1 k2 hes hdl z2
  refine (callsIn_wide (n := 3)).1 ?_
  refine callsIn_of_wp_marks Tryd.func37 rfl trivial ?_ rfl
  simp only [Tryd.ntmps37, List.size_toArray, List.length_cons, List.length_nil, Nat.reduceAdd, Nat.reduceSub, Array.replicate_succ, Array.replicate_zero, List.push_toArray, List.append_toArray, List.nil_append, List.cons_append]
  rw [hw1] at a0 a1 a2 a3 f0 f1 f2 f3 z1
  rw [hw2, hw1] at d0 e0
  gi_wp2_with (first
    | (refine ⟨trivial, ?_⟩; gi_at_call 78; (try rw [← hw1]); (try rw [← hw2]); refine (callsIn_wide.2 (bucket_any HT2.out HTab.out (Kd.C_below HKey.out.1 HB.out) HKey.out.2 HR.out HBk.out (Int.natCast_nonneg _) (by have := HI.out; omega))).mono ?_; rintro r' w3 ⟨rfl, b3⟩; have B3 := Lib.hid b3; clear b3)
    | (refine ⟨trivial, ?_⟩; gi_at_call 74; refine (callsIn_wide.2 (all_any w3 gB i 79 #[.pointer (some ⟨w.heap.size, 0, none⟩)])).mono ?_; rintro r' W0 ⟨b1, b2, rfl, q1, q2, b4⟩; have B4 := Lib.hid b4; have Q1 := Lib.hid q1; have Q2 := Lib.hid q2; clear b4 q1 q2))
  have bW : Below w2.heap.size w2 W0 := below_step B3.out B4.out
  have bW0 : Below w.heap.size w W0 := below_step HB.out bW
  have hz2 := HZ2.out
  have hzW : w.heap.size + 2 ≤ W0.heap.size := by have := bW.size; omega
  have kk1 := Lib.hid (blk_below HK1.out bW); have kk2 := Lib.hid (blk_below HK2.out bW)
  have HZ : Hid (w.heap.size ≤ W0.heap.size ∧ w.heap.size + 1 < W0.heap.size) := Lib.hid ⟨by omega, by omega⟩
  have H0 : Hid (Res W0.heap.size (w.heap.size + 1) [] W0) := Lib.hid ⟨_, kk2.out, Kd.R_nil _ _ _ _ _⟩
  have HB0 := Lib.hid bW0
  have qh1 : Hid (∀ j x, es[j]? = some x → A1 = some ⟨g', 0, none⟩ ∧ (g' < W0.heap.size ∧ g' ≠ w.heap.size + 1) ∧ W0.cell? ⟨g', j * 2, none⟩ = some (.slice x.A0 x.e.f0.length x.c0) ∧ W0.cell? ⟨g', j * 2 + 1, none⟩ = some (.slice x.A1 x.e.f1.length x.c1)) := Lib.hid fun j x hx => by
    obtain ⟨h1, h2, h3, h4⟩ := HRW.out j x hx
    have h5 := h2.2
    exact ⟨h1, ⟨by omega, by omega⟩, (bW0.cell (p := ⟨g', j * 2, none⟩) h5).trans h3, (bW0.cell (p := ⟨g', j * 2 + 1, none⟩) h5).trans h4⟩
  have qh2 : Hid (∀ (x : Ent w fun k => k < w.heap.size) (W1 : World), KpG (fun k => k < W0.heap.size ∧ k ≠ w.heap.size + 1) W0 W1 → Calls Tryd.prog 79 (#[x.val] ++ #[.pointer (some ⟨w.heap.size, 0, none⟩)]) W1 fun e W2 => e = .returned (.bool (pr x.e.f0)) ∧ Below W1.heap.size W1 W2) := Lib.hid fun x W1 hk => by
    have hb : Below w.heap.size w W1 := bW0.trans (hk.below fun k hk => ⟨by omega, by omega⟩)
    have r := Ent.reads (fun k hk => hk) x hb
    rw [show #[x.val] ++ #[Value.pointer (some ⟨w.heap.size, 0, none⟩)] = #[x.val, .pointer (some ⟨w.heap.size, 0, none⟩)] by simp]
    exact fnd1_any ((hk.2 w.heap.size ⟨by omega, by omega⟩).trans kk1.out) (Kd.C_below HKey.out.1 hb) HKey.out.2 r.1.1 r.1.2 (HM.out x.e.f0 x.b0)
  have g2 : b2 < W0.heap.size ∧ b2 ≠ w.heap.size + 1 := ⟨blk_lt Q2.out, fun e => by have h1 := Q2.out; rw [e, kk2.out] at h1; cases h1⟩
  have hcs := blk_below HBB.out.1 bW0
  have hz3 : w.heap.size ≤ w.heap.size + 1 := Nat.le_succ _
  obtain ⟨bl, hbl⟩ : ∃ bl, w.heap.size + 1 = bl := ⟨_, rfl⟩
  rw [hbl] at kk2 HZ H0 qh1 qh2 g2 hz3 ⊢
  refine wpIn_rangeFunc_ownH rfl (by decide) (gf := 116) (lb := #[.pointer (some ⟨b1, 0, none⟩), .pointer (some ⟨b2, 0, none⟩)]) rfl trivial (enters_of Tryd.func116 (by kernel_rfl) rfl)
    (all_stops (w := w) (D := fun k => k < w.heap.size) (G := fun k => k < W0.heap.size ∧ k ≠ bl) 2 b1 b2 gB i 100 g' (by decide) 79 #[.pointer (some ⟨w.heap.size, 0, none⟩)] (enters_of Tryd.func79 (by kernel_rfl) rfl) (fun x => pr x.e.f0) es HL.out.1 (fun k hk => hk.1) Q1.out Q2.out g2 hcs HBB.out.2 qh1.out qh2.out) KpG.trans (kpg_b (by intro k hk; exact hk.1)) (Below.refl _ _) (fun _ => rfl)
    (InvR w W0 bl fun x => x.e.f1) (fun _ _ _ => False)
    (InvR.own HZ.out.1)
    (fun _ _ _ _ _ hs _ _ => hs) ⟨⟨H0.out, Nat.le_refl _⟩, HB0.out⟩
    (fun x a' W => ∃ (bx : Nat) (u0 u1 u2 u3 u4 u5 u8 u9 u10 u11 u12 u13 u14 u15 u16 u17 u18 u19 u20 u21 u22 u23 u24 u25 u26 u27 : Value), W.heap[bx]? = some (.cells #[.slice x.A0 x.e.f0.length x.c0, .slice x.A1 x.e.f1.length x.c1] 116 (0, 0)) ∧ a' = { tmps := #[u0, u1, u2, u3, u4, u5, .pointer (some ⟨bl, 0, none⟩), .pointer (some ⟨bx, 0, none⟩), u8, u9, u10, u11, u12, u13, u14, u15, u16, u17, u18, u19, u20, u21, u22, u23, u24, u25, u26, u27], defers := [] })
    (fun x a' _ X Y row hs hg hr => by
      obtain ⟨bx, u0, u1, u2, u3, u4, u5, u8, u9, u10, u11, u12, u13, u14, u15, u16, u17, u18, u19, u20, u21, u22, u23, u24, u25, u26, u27, h1, h2⟩ := hs
      refine ⟨bx, _, _, _, _, _, _, _, _, _, _, _, _, _, _, _, _, _, _, _, _, _, _, _, _, _, _, (hg.block bx (blk_lt h1) fun e => ?_).trans h1, h2⟩
      obtain ⟨_, o, ho, hc⟩ := hr bx e.symm
      rw [h1] at ho
      cases ho
      cases hc)
    ?assign ?body ?done ?stop
  case assign =>
    rintro l pre x W K ⟨⟨hRs, hS⟩, hB⟩ hK
    have hb := blk_new W (.cells #[.slice x.A0 x.e.f0.length x.c0, .slice x.A1 x.e.f1.length x.c1] 116)
    have hbl : Below W.heap.size W (W.alloc (.cells #[.slice x.A0 x.e.f0.length x.c0, .slice x.A1 x.e.f1.length x.c1] 116)) := below_alloc (Below.refl _ _) _
    have q1 := Lib.hid (hRs.below hbl); have q2 := Lib.hid (below_step hB hbl); have q3 := Lib.hid hb
    have q4 := Lib.hid hbl; have HK := Lib.hid hK; have q5 := Lib.hid hS
    clear hRs hB hb hbl hK hS
    simp only [Ent.val]
    gi_wp2
    exact HK.out _ _ ((KeepsOthers.alloc _ _).from _) (KpG.of_below q4.out fun k hk => Nat.lt_of_lt_of_le hk.1 q5.out) ⟨⟨q1.out, Nat.le_trans q5.out q4.out.size⟩, q2.out⟩ ⟨_, _, _, _, _, _, _, _, _, _, _, _, _, _, _, _, _, _, _, _, _, _, _, _, _, _, _, q3.out, rfl⟩
  case body =>
    rintro l pre x a' W hl ⟨r, hr⟩ ⟨⟨hRs, hS⟩, hB⟩ ⟨bx, u0, u1, u2, u3, u4, u5, u8, u9, u10, u11, u12, u13, u14, u15, u16, u17, u18, u19, u20, u21, u22, u23, u24, u25, u26, u27, hx, rfl⟩ hlt
    refine body37_ (w := w) (D := fun k => k < w.heap.size) (bl := bl) (n1 := W0.heap.size) (rows := pre.map (·.e.f1)) (fun k hk => hk) hRs hB hx HZ.out.2 hS (by rw [List.length_map]; have := HL.out.1; omega) x.b1 ?_ ?_ ?_
    · rintro ⟨a, w', h⟩; exact h
    · intro c a w h; exact h
    · intro a W' hq
      exact ⟨hq.2.2.2, hq.2.2.1, ⟨by rw [List.map_append]; exact hq.1, Nat.le_trans hS hq.2.2.1.1.size⟩, hB.trans (hq.2.1.mono hz3)⟩
  case done =>
    rintro D xs W hD rfl ⟨⟨hRs, hS⟩, hB⟩ hK
    obtain ⟨v1, hv, hR⟩ := hRs
    obtain ⟨C0, e0', hv1⟩ := Kd.R_slice hR
    subst hv1
    obtain ⟨m0, n0⟩ := bw1_ hv
    have HRR := Lib.hid (And.intro hv hR); have HBW := Lib.hid hB; have HSS := Lib.hid hS
    clear hv hR hB hS
    gi_wp2
    refine ⟨by simp, .inl ⟨_, _, rfl, run_takeDeferred hK, ?_⟩⟩
    have hR2 : Kd.R (Kd.slice 23 k23) 24 (W.putObj D (.deferred none)) W0.heap.size (fun _ => True) _ _ := Kd.R_mono (Kd.R_step (Kd.R_bound HRR.out.2) fun k hk _ => World.putObj_heap_other fun e => by
      obtain ⟨_, _, _, q, _, cs, hc⟩ := hk
      rw [e, hK] at hc
      cases hc) fun _ _ => trivial
    have er : (es.filter fun x => pr x.e.f0).map (·.e.f1) = ((T.ch i).filter fun p => pr p.f0).map (·.f1) := by
      rw [← HES.out, List.filter_map, List.map_map]
      rfl
    refine ⟨_, results_tmp2 rfl _ _ _, _, rfl, ?_, HBW.out.trans (belowK_b (w := W0) HZ.out.1 W D _ _ hD hK rfl rfl)⟩
    rw [er] at hR2
    have hR3 := Kd.R_lower hR2 HZ.out.1
    simpa [← er] using hR3
  case stop =>
    rintro D c pre W _ _ h _
    exact h.elim
def KeyD (w : World) (rows : List (List S23)) (r : Ending) (w' : World) : Prop := ∃ v, r = .returned v ∧ Kd.R (Kd.slice 23 k23) 24 w' w.heap.size (fun _ => True) v rows ∧ Below w.heap.size w w'
end Go.Proofs.YtcfgjaggccnoaaaDoor.PTableSteps
