-- Written by wip/pack.py, a program of mine: the texts that this law stands on, as far as it uses them; Lean checks it.
import Derived.Test.YtcfgjaggccnoaaaProg
import Derived.Below
import Derived.Deep.Draws
import Derived.Deep.AppendLies
import Derived.Maps.AppendAt
import Derived.OwnWalk
import Derived.Laws.BytesArg
import Derived.Laws.MakeOwn
import Derived.Laws.OwnMore
import Derived.Deep.OwnRows
import Derived.Tactics
import Derived.Lib.ConvBytes
import Derived.Laws.Slices
import Derived.WalkKit
import Derived.KernelRfl
import Derived.RowKit3
import Derived.Deep.LoopGhost
import Derived.Deep.QuietTactic
import Derived.BigQuiet
import Derived.WideLaws
import Derived.Deep.DeepCutAuto
import Derived.Deep.CutBlock
import Derived.Deep.RegionHeld3
import Derived.Laws.Rows
import Derived.Lib.AppendStr
import Derived.ArgAppend
import Derived.Laws.IdiomCopy
import Derived.RowKit
import Derived.OrdersHeld
import Derived.Laws.BitsLemmas
import Ieee.Arith
import GoSem.Core.Float
import Derived.Laws.FloatArith
import Derived.Laws.Externs
import GoSem.Extern.MathFloatBits
import Derived.Laws.StructEq
import Derived.Lib.BitFns
import Derived.Lib.Hide
import Derived.Lib.Slices
import Derived.Lib.Small
import Derived.Lib.Strings
import Derived.Lib.Walk
import Derived.StillTailTactics
import Derived.Lib.SliceRun
import Derived.Test.YtcfgjaggccnoaaaZCostShares1
namespace Go.Proofs.Ytcfgjaggccnoaaa.PCostShares
open Go.RowKit Go.Proofs.YtcfgjaggccnoaaaW.PrintWords Go.Proofs.YtcfgjaggccnoaaaW.PrintLast Go.Proofs.YtcfgjaggccnoaaaW.PrintMore
attribute [local go_sem] max2_int min2_int max_two min_two max_three min_three max_four min_four
set_option linter.unusedVariables false
set_option maxHeartbeats 8000000
set_option linter.unusedSimpArgs false
set_option maxRecDepth 100000
theorem cost_against.calls (k : Nat) (a0 : Int) (a1_0 : Int) (a1_1 : ByteArray) (a1_2 : ByteArray) (a1_3 : Int) (a1_4 : Int) (a1_5 : Int) (a1_6 : Int) (a1_7 : ByteArray) (A1_8 : Option Addr) (c1_8 : Nat) (l1_8 : List (S27)) (a2 : Int) (A3 : Option Addr) (c3 : Nat) (l3 : List (S103)) (r : Nat) (w : World) (hr1_8 : Kd.C k27 w A1_8 l1_8.length l1_8) (hc1_8 : l1_8.length ≤ c1_8) (hr3 : Kd.C k103 w A3 l3.length l3) (hc3 : l3.length ≤ c3) (h : cost_against.f k a0 a1_0 a1_1 a1_2 a1_3 a1_4 a1_5 a1_6 a1_7 l1_8 a2 l3 = some r) :
  Calls Try.prog 105 #[.int .i64 a0, .agg #[.int .i64 a1_0, .string a1_1, .string a1_2, .int .i64 a1_3, .int .i64 a1_4, .int .i64 a1_5, .int .i64 a1_6, .string a1_7, .slice A1_8 l1_8.length c1_8], .int .i64 a2, .slice A3 l3.length c3] w fun e w' => e = .returned (.float .f64 r) ∧ Below w.heap.size w w' := by
 have hu27 := Try.underlying27; have hu103 := Try.underlying103; have hu116 := Try.underlying116; have HR1_8 := am_ hr1_8; have HC1_8 := am_ hc1_8; clear hr1_8 hc1_8; have HR3 := am_ hr3; have HC3 := am_ hc3; clear hr3 hc3; have HB := am_ (Below.refl w.heap.size w); have H : ((cost_stat.f k l3 a1_3).bind fun bt214 => ((hist_Col.f bt214.1 bt214.2 a1_4).bind fun bt219 => (cost_against.l0 k a0 a2 0 bt219.2.2 (bt219.2.2.length : Int) 0 bt214.1 bt214.2 bt219.1 bt219.2.1 bt219.2.2))) = some r := h; clear h; replace H := Option.bind_eq_some_iff.mp H; obtain ⟨⟨t214, t215⟩, A50, H⟩ := H; replace H : ((hist_Col.f t214 t215 a1_4).bind fun bt219 => (cost_against.l0 k a0 a2 0 bt219.2.2 (bt219.2.2.length : Int) 0 t214 t215 bt219.1 bt219.2.1 bt219.2.2)) = some r := H; have A5 := am_ A50; clear A50; replace H := Option.bind_eq_some_iff.mp H; obtain ⟨⟨t219, t220, t221⟩, A60, H⟩ := H; replace H : (cost_against.l0 k a0 a2 0 t221 (t221.length : Int) 0 t214 t215 t219 t220 t221) = some r := H; have A6 := am_ A60; clear A60; have H' := am_ H; clear H
 go_enter Try.func105, Try.ntmps105
 go_wp2_with (first | ((with_reducible refine gate_dst (N := 5) rfl ?_); refine box_event ?hg (N := 5) ?hd (cs := #[.int .i64 a1_0, .string a1_1, .string a1_2, .int .i64 a1_3, .int .i64 a1_4, .int .i64 a1_5, .int .i64 a1_6, .string a1_7, .slice A1_8 l1_8.length c1_8]) (t := 27) ?hr ?_; (case hd => rfl); (case hg => rfl); (case hr => first | (go_simp; done) | (go_simp; rfl)); intro gb213 hg w7 hbox hb; have BK213 := am_ (hbox); have GW213 := am_ ((by rw [hg]; exact (below_size (bl_)) : w.heap.size ≤ gb213)); have GE213 := am_ ((by rw [hg]; exact (below_size (bl_)) : w.heap.size ≤ gb213)); replace HB := am_ (below_step (bl_) hb); clear hb hbox hg; obtain ⟨hcz8_0, hcz8_1, hcz8_2, hcz8_3, hcz8_4, hcz8_5, hcz8_6, hcz8_7, hcz8_8, hfz8_0, hfz8_1, hfz8_2, hfz8_3, hfz8_4, hfz8_5, hfz8_6, hfz8_7, hfz8_8⟩ := bw9_ BK213.out) | (go_at_call 101; (with_reducible refine (cost_stat.calls k _ _ l3 a1_3 t214 t215 _ ?side1 ?side2 A5.out).mono ?_); (case side1 => repeat (first | exact (Kd.C_below HR3.out HB.out) | (with_reducible refine Kd.C_alloc ?_ _) | (with_reducible refine Kd.C_drewN ?_ _) | (with_reducible refine Kd.C_drew ?_))); (case side2 => exact HC3.out); rintro e w9 ⟨v216, rfl, ho0, hb⟩; have HO217 := am_ (Kd.S_lower ho0 (below_size (bl_))); replace BK213 := am_ (blk_below (bk_ BK213.out) hb); replace HB := am_ (below_step (bl_) hb); (try clear hb); (try clear hb2); (try clear hk); (try clear hi); (try clear ho0)) | ((with_reducible refine gate_dst (N := 9) rfl ?_); refine box_event ?hg (N := 9) ?hd (cs := #[.int .i64 0, .slice none 0 0]) (t := 103) ?hr ?_; (case hd => rfl); (case hg => rfl); (case hr => first | (go_simp; done) | (go_simp; rfl)); intro gb218 hg w10 hbox hb; have n0_ := am_ (Kd.S_below (by (with_reducible repeat (first | apply Kd.S_alloc | apply Kd.S_drewN | apply Kd.S_drew)); exact HO217.out) hb); have n1_ := am_ (blk_below (bk_ BK213.out) hb); have n2_ := am_ (below_step (bl_) hb); have n3_ := am_ (hbox); have n4_ := am_ ((by rw [hg]; exact (below_size (bl_)) : w.heap.size ≤ gb218)); have n5_ := am_ ((by rw [hg]; exact (below_size (bl_)) : w.heap.size ≤ gb218)); have n6_ := am_ ((by rw [hg]; exact Nat.ne_of_lt (blk_lt (g := gb213) (o := .cells #[.int .i64 a1_0, .string a1_1, .string a1_2, .int .i64 a1_3, .int .i64 a1_4, .int .i64 a1_5, .int .i64 a1_6, .string a1_7, .slice A1_8 l1_8.length c1_8] 27 (0, 0)) (bk_ BK213.out)) : gb213 ≠ gb218)); have n7_ := am_ ((by rw [hg]; exact Nat.ne_of_gt (blk_lt (g := gb213) (o := .cells #[.int .i64 a1_0, .string a1_1, .string a1_2, .int .i64 a1_3, .int .i64 a1_4, .int .i64 a1_5, .int .i64 a1_6, .string a1_7, .slice A1_8 l1_8.length c1_8] 27 (0, 0)) (bk_ BK213.out)) : gb218 ≠ gb213)); clear HO217; clear BK213; clear HB; have HO217 := n0_; have BK213 := n1_; have HB := n2_; have BK218 := n3_; have GW218 := n4_; have GE218 := n5_; have NB213_218 := n6_; have NB218_213 := n7_; clear n0_ n1_ n2_ n3_ n4_ n5_ n6_ n7_; clear hb hbox hg; have hnb11 := NB218_213.out; have hnc11 := NB213_218.out; obtain ⟨hcz12_0, hcz12_1, hfz12_0, hfz12_1⟩ := bw2_ BK218.out; obtain ⟨Ao13, co13, eo13⟩ := Kd.S_slice HO217.out; subst eo13; obtain ⟨hcz14_0, hcz14_1, hcz14_2, hcz14_3, hcz14_4, hcz14_5, hcz14_6, hcz14_7, hcz14_8, hfz14_0, hfz14_1, hfz14_2, hfz14_3, hfz14_4, hfz14_5, hfz14_6, hfz14_7, hfz14_8⟩ := bw9_ BK213.out) | (go_at_call 103; (with_reducible refine (hist_Col.calls t214 _ _ t215 a1_4 t219 t220 t221 _ ?side1 ?side2 A6.out).mono ?_); (case side1 => refine (Kd.S_reads' (e := 116) (base := w.heap.size) (ok := fun k_ => True) (n := t215.length) (c := co13) ?_).2.2; exact (by (with_reducible repeat (first | apply Kd.S_alloc | apply Kd.S_drewN | apply Kd.S_drew)); exact (Kd.S_mono (Kd.S_far (p := ⟨gb218, 1, none⟩) (Kd.S_far (p := ⟨gb218, 0, none⟩) (Kd.S_types HO217.out BK218.out (by decide)) (fun _ hk => hk.2) (.int .i64 t214)) (fun _ hk => hk.2) (.slice Ao13 t215.length co13)) (fun _ h_ => h_.1)))); (case side2 => exact (Kd.S_reads' HO217.out).2.1); rintro e w15 ⟨v222, rfl, ho0, hb⟩; replace HO217 := am_ (Kd.S_elder' (by (with_reducible repeat (first | apply Kd.S_alloc | apply Kd.S_drewN | apply Kd.S_drew)); exact (Kd.S_mono (Kd.S_far (p := ⟨gb218, 1, none⟩) (Kd.S_far (p := ⟨gb218, 0, none⟩) (Kd.S_types HO217.out BK218.out (by decide)) (fun _ hk => hk.2) (.int .i64 t214)) (fun _ hk => hk.2) (.slice Ao13 t215.length co13)) (fun _ h_ => h_.1))) (Kd.R_base ho0) hb); have HO223 := am_ (Kd.R_lower ho0 (below_size (bl_))); replace BK213 := am_ (blk_below (g := gb213) (o := .cells #[.int .i64 a1_0, .string a1_1, .string a1_2, .int .i64 a1_3, .int .i64 a1_4, .int .i64 a1_5, .int .i64 a1_6, .string a1_7, .slice A1_8 l1_8.length c1_8] 27 (0, 0)) (by refine bp_ ?_; refine blk_far ?_ NB213_218.out _; refine bp_ ?_; refine blk_far ?_ NB213_218.out _; refine bp_ ?_; exact BK213.out) hb); replace BK218 := am_ (blk_below (g := gb218) (o := .cells #[.int .i64 t214, .slice Ao13 t215.length co13] 103 (0, 0)) (by refine bp_ ?_; refine blk_put (cs := #[.int .i64 t214, .slice none 0 0]) ?_ 1 _ rfl; refine bp_ ?_; refine blk_put (cs := #[.int .i64 0, .slice none 0 0]) ?_ 0 _ rfl; refine bp_ ?_; exact BK218.out) hb); replace HB := am_ (below_step (bl_) hb); (try clear hb); (try clear hb2); (try clear hk); (try clear hi); (try clear ho0)) | ((with_reducible refine gate_dst (N := 10) rfl ?_); refine box_event ?hg (N := 10) ?hd (cs := #[.int .i64 0, .int .i64 0, .slice none 0 0]) (t := 116) ?hr ?_; (case hd => rfl); (case hg => rfl); (case hr => first | (go_simp; done) | (go_simp; rfl)); intro gb224 hg w16 hbox hb; have n0_ := am_ (Kd.S_below (Kd.S_elderB (by (with_reducible repeat (first | apply Kd.S_alloc | apply Kd.S_drewN | apply Kd.S_drew)); exact HO217.out) gb224 (Nat.le_of_eq hg.symm)) hb); have n1_ := am_ (Kd.R_below (kr_ HO223.out) hb); have n2_ := am_ (blk_below (bk_ BK213.out) hb); have n3_ := am_ (blk_below (bk_ BK218.out) hb); have n4_ := am_ (below_step (bl_) hb); have n5_ := am_ (hbox); have n6_ := am_ ((by rw [hg]; exact (below_size (bl_)) : w.heap.size ≤ gb224)); have n7_ := am_ ((by rw [hg]; exact (below_size (bl_)) : w.heap.size ≤ gb224)); have n8_ := am_ ((by rw [hg]; exact Nat.ne_of_lt (blk_lt (g := gb213) (o := .cells #[.int .i64 a1_0, .string a1_1, .string a1_2, .int .i64 a1_3, .int .i64 a1_4, .int .i64 a1_5, .int .i64 a1_6, .string a1_7, .slice A1_8 l1_8.length c1_8] 27 (0, 0)) (bk_ BK213.out)) : gb213 ≠ gb224)); have n9_ := am_ ((by rw [hg]; exact Nat.ne_of_gt (blk_lt (g := gb213) (o := .cells #[.int .i64 a1_0, .string a1_1, .string a1_2, .int .i64 a1_3, .int .i64 a1_4, .int .i64 a1_5, .int .i64 a1_6, .string a1_7, .slice A1_8 l1_8.length c1_8] 27 (0, 0)) (bk_ BK213.out)) : gb224 ≠ gb213)); have n10_ := am_ ((by rw [hg]; exact Nat.ne_of_lt (blk_lt (g := gb218) (o := .cells #[.int .i64 t214, .slice Ao13 t215.length co13] 103 (0, 0)) (bk_ BK218.out)) : gb218 ≠ gb224)); have n11_ := am_ ((by rw [hg]; exact Nat.ne_of_gt (blk_lt (g := gb218) (o := .cells #[.int .i64 t214, .slice Ao13 t215.length co13] 103 (0, 0)) (bk_ BK218.out)) : gb224 ≠ gb218)); clear HO217; clear HO223; clear BK213; clear BK218; clear HB; have HO217 := n0_; have HO223 := n1_; have BK213 := n2_; have BK218 := n3_; have HB := n4_; have BK224 := n5_; have GW224 := n6_; have GE224 := n7_; have NB213_224 := n8_; have NB224_213 := n9_; have NB218_224 := n10_; have NB224_218 := n11_; clear n0_ n1_ n2_ n3_ n4_ n5_ n6_ n7_ n8_ n9_ n10_ n11_; clear hb hbox hg; have hnb17 := NB224_213.out; have hnc17 := NB213_224.out; have hnb18 := NB224_218.out; have hnc18 := NB218_224.out; obtain ⟨hcz19_0, hcz19_1, hcz19_2, hfz19_0, hfz19_1, hfz19_2⟩ := bw3_ BK224.out; obtain ⟨Ao20, co20, eo20⟩ := Kd.R_slice HO223.out; subst eo20))
 repeat (go_quiet (first | ((with_reducible refine gate_dst (N := 5) rfl ?_); refine box_event ?hg (N := 5) ?hd (cs := #[.int .i64 a1_0, .string a1_1, .string a1_2, .int .i64 a1_3, .int .i64 a1_4, .int .i64 a1_5, .int .i64 a1_6, .string a1_7, .slice A1_8 l1_8.length c1_8]) (t := 27) ?hr ?_; (case hd => rfl); (case hg => rfl); (case hr => first | (go_simp; done) | (go_simp; rfl)); intro gb213 hg w7 hbox hb; have BK213 := am_ (hbox); have GW213 := am_ ((by rw [hg]; exact (below_size (bl_)) : w.heap.size ≤ gb213)); have GE213 := am_ ((by rw [hg]; exact (below_size (bl_)) : w.heap.size ≤ gb213)); replace HB := am_ (below_step (bl_) hb); clear hb hbox hg; obtain ⟨hcz8_0, hcz8_1, hcz8_2, hcz8_3, hcz8_4, hcz8_5, hcz8_6, hcz8_7, hcz8_8, hfz8_0, hfz8_1, hfz8_2, hfz8_3, hfz8_4, hfz8_5, hfz8_6, hfz8_7, hfz8_8⟩ := bw9_ BK213.out) | (go_at_call 101; (with_reducible refine (cost_stat.calls k _ _ l3 a1_3 t214 t215 _ ?side1 ?side2 A5.out).mono ?_); (case side1 => repeat (first | exact (Kd.C_below HR3.out HB.out) | (with_reducible refine Kd.C_alloc ?_ _) | (with_reducible refine Kd.C_drewN ?_ _) | (with_reducible refine Kd.C_drew ?_))); (case side2 => exact HC3.out); rintro e w9 ⟨v216, rfl, ho0, hb⟩; have HO217 := am_ (Kd.S_lower ho0 (below_size (bl_))); replace BK213 := am_ (blk_below (bk_ BK213.out) hb); replace HB := am_ (below_step (bl_) hb); (try clear hb); (try clear hb2); (try clear hk); (try clear hi); (try clear ho0)) | ((with_reducible refine gate_dst (N := 9) rfl ?_); refine box_event ?hg (N := 9) ?hd (cs := #[.int .i64 0, .slice none 0 0]) (t := 103) ?hr ?_; (case hd => rfl); (case hg => rfl); (case hr => first | (go_simp; done) | (go_simp; rfl)); intro gb218 hg w10 hbox hb; have n0_ := am_ (Kd.S_below (by (with_reducible repeat (first | apply Kd.S_alloc | apply Kd.S_drewN | apply Kd.S_drew)); exact HO217.out) hb); have n1_ := am_ (blk_below (bk_ BK213.out) hb); have n2_ := am_ (below_step (bl_) hb); have n3_ := am_ (hbox); have n4_ := am_ ((by rw [hg]; exact (below_size (bl_)) : w.heap.size ≤ gb218)); have n5_ := am_ ((by rw [hg]; exact (below_size (bl_)) : w.heap.size ≤ gb218)); have n6_ := am_ ((by rw [hg]; exact Nat.ne_of_lt (blk_lt (g := gb213) (o := .cells #[.int .i64 a1_0, .string a1_1, .string a1_2, .int .i64 a1_3, .int .i64 a1_4, .int .i64 a1_5, .int .i64 a1_6, .string a1_7, .slice A1_8 l1_8.length c1_8] 27 (0, 0)) (bk_ BK213.out)) : gb213 ≠ gb218)); have n7_ := am_ ((by rw [hg]; exact Nat.ne_of_gt (blk_lt (g := gb213) (o := .cells #[.int .i64 a1_0, .string a1_1, .string a1_2, .int .i64 a1_3, .int .i64 a1_4, .int .i64 a1_5, .int .i64 a1_6, .string a1_7, .slice A1_8 l1_8.length c1_8] 27 (0, 0)) (bk_ BK213.out)) : gb218 ≠ gb213)); clear HO217; clear BK213; clear HB; have HO217 := n0_; have BK213 := n1_; have HB := n2_; have BK218 := n3_; have GW218 := n4_; have GE218 := n5_; have NB213_218 := n6_; have NB218_213 := n7_; clear n0_ n1_ n2_ n3_ n4_ n5_ n6_ n7_; clear hb hbox hg; have hnb11 := NB218_213.out; have hnc11 := NB213_218.out; obtain ⟨hcz12_0, hcz12_1, hfz12_0, hfz12_1⟩ := bw2_ BK218.out; obtain ⟨Ao13, co13, eo13⟩ := Kd.S_slice HO217.out; subst eo13; obtain ⟨hcz14_0, hcz14_1, hcz14_2, hcz14_3, hcz14_4, hcz14_5, hcz14_6, hcz14_7, hcz14_8, hfz14_0, hfz14_1, hfz14_2, hfz14_3, hfz14_4, hfz14_5, hfz14_6, hfz14_7, hfz14_8⟩ := bw9_ BK213.out) | (go_at_call 103; (with_reducible refine (hist_Col.calls t214 _ _ t215 a1_4 t219 t220 t221 _ ?side1 ?side2 A6.out).mono ?_); (case side1 => refine (Kd.S_reads' (e := 116) (base := w.heap.size) (ok := fun k_ => True) (n := t215.length) (c := co13) ?_).2.2; exact (by (with_reducible repeat (first | apply Kd.S_alloc | apply Kd.S_drewN | apply Kd.S_drew)); exact (Kd.S_mono (Kd.S_far (p := ⟨gb218, 1, none⟩) (Kd.S_far (p := ⟨gb218, 0, none⟩) (Kd.S_types HO217.out BK218.out (by decide)) (fun _ hk => hk.2) (.int .i64 t214)) (fun _ hk => hk.2) (.slice Ao13 t215.length co13)) (fun _ h_ => h_.1)))); (case side2 => exact (Kd.S_reads' HO217.out).2.1); rintro e w15 ⟨v222, rfl, ho0, hb⟩; replace HO217 := am_ (Kd.S_elder' (by (with_reducible repeat (first | apply Kd.S_alloc | apply Kd.S_drewN | apply Kd.S_drew)); exact (Kd.S_mono (Kd.S_far (p := ⟨gb218, 1, none⟩) (Kd.S_far (p := ⟨gb218, 0, none⟩) (Kd.S_types HO217.out BK218.out (by decide)) (fun _ hk => hk.2) (.int .i64 t214)) (fun _ hk => hk.2) (.slice Ao13 t215.length co13)) (fun _ h_ => h_.1))) (Kd.R_base ho0) hb); have HO223 := am_ (Kd.R_lower ho0 (below_size (bl_))); replace BK213 := am_ (blk_below (g := gb213) (o := .cells #[.int .i64 a1_0, .string a1_1, .string a1_2, .int .i64 a1_3, .int .i64 a1_4, .int .i64 a1_5, .int .i64 a1_6, .string a1_7, .slice A1_8 l1_8.length c1_8] 27 (0, 0)) (by refine bp_ ?_; refine blk_far ?_ NB213_218.out _; refine bp_ ?_; refine blk_far ?_ NB213_218.out _; refine bp_ ?_; exact BK213.out) hb); replace BK218 := am_ (blk_below (g := gb218) (o := .cells #[.int .i64 t214, .slice Ao13 t215.length co13] 103 (0, 0)) (by refine bp_ ?_; refine blk_put (cs := #[.int .i64 t214, .slice none 0 0]) ?_ 1 _ rfl; refine bp_ ?_; refine blk_put (cs := #[.int .i64 0, .slice none 0 0]) ?_ 0 _ rfl; refine bp_ ?_; exact BK218.out) hb); replace HB := am_ (below_step (bl_) hb); (try clear hb); (try clear hb2); (try clear hk); (try clear hi); (try clear ho0)) | ((with_reducible refine gate_dst (N := 10) rfl ?_); refine box_event ?hg (N := 10) ?hd (cs := #[.int .i64 0, .int .i64 0, .slice none 0 0]) (t := 116) ?hr ?_; (case hd => rfl); (case hg => rfl); (case hr => first | (go_simp; done) | (go_simp; rfl)); intro gb224 hg w16 hbox hb; have n0_ := am_ (Kd.S_below (Kd.S_elderB (by (with_reducible repeat (first | apply Kd.S_alloc | apply Kd.S_drewN | apply Kd.S_drew)); exact HO217.out) gb224 (Nat.le_of_eq hg.symm)) hb); have n1_ := am_ (Kd.R_below (kr_ HO223.out) hb); have n2_ := am_ (blk_below (bk_ BK213.out) hb); have n3_ := am_ (blk_below (bk_ BK218.out) hb); have n4_ := am_ (below_step (bl_) hb); have n5_ := am_ (hbox); have n6_ := am_ ((by rw [hg]; exact (below_size (bl_)) : w.heap.size ≤ gb224)); have n7_ := am_ ((by rw [hg]; exact (below_size (bl_)) : w.heap.size ≤ gb224)); have n8_ := am_ ((by rw [hg]; exact Nat.ne_of_lt (blk_lt (g := gb213) (o := .cells #[.int .i64 a1_0, .string a1_1, .string a1_2, .int .i64 a1_3, .int .i64 a1_4, .int .i64 a1_5, .int .i64 a1_6, .string a1_7, .slice A1_8 l1_8.length c1_8] 27 (0, 0)) (bk_ BK213.out)) : gb213 ≠ gb224)); have n9_ := am_ ((by rw [hg]; exact Nat.ne_of_gt (blk_lt (g := gb213) (o := .cells #[.int .i64 a1_0, .string a1_1, .string a1_2, .int .i64 a1_3, .int .i64 a1_4, .int .i64 a1_5, .int .i64 a1_6, .string a1_7, .slice A1_8 l1_8.length c1_8] 27 (0, 0)) (bk_ BK213.out)) : gb224 ≠ gb213)); have n10_ := am_ ((by rw [hg]; exact Nat.ne_of_lt (blk_lt (g := gb218) (o := .cells #[.int .i64 t214, .slice Ao13 t215.length co13] 103 (0, 0)) (bk_ BK218.out)) : gb218 ≠ gb224)); have n11_ := am_ ((by rw [hg]; exact Nat.ne_of_gt (blk_lt (g := gb218) (o := .cells #[.int .i64 t214, .slice Ao13 t215.length co13] 103 (0, 0)) (bk_ BK218.out)) : gb224 ≠ gb218)); clear HO217; clear HO223; clear BK213; clear BK218; clear HB; have HO217 := n0_; have HO223 := n1_; have BK213 := n2_; have BK218 := n3_; have HB := n4_; have BK224 := n5_; have GW224 := n6_; have GE224 := n7_; have NB213_224 := n8_; have NB224_213 := n9_; have NB218_224 := n10_; have NB224_218 := n11_; clear n0_ n1_ n2_ n3_ n4_ n5_ n6_ n7_ n8_ n9_ n10_ n11_; clear hb hbox hg; have hnb17 := NB224_213.out; have hnc17 := NB213_224.out; have hnb18 := NB224_218.out; have hnc18 := NB218_224.out; obtain ⟨hcz19_0, hcz19_1, hcz19_2, hfz19_0, hfz19_1, hfz19_2⟩ := bw3_ BK224.out; obtain ⟨Ao20, co20, eo20⟩ := Kd.R_slice HO223.out; subst eo20)); try go_wp2_with (first | ((with_reducible refine gate_dst (N := 5) rfl ?_); refine box_event ?hg (N := 5) ?hd (cs := #[.int .i64 a1_0, .string a1_1, .string a1_2, .int .i64 a1_3, .int .i64 a1_4, .int .i64 a1_5, .int .i64 a1_6, .string a1_7, .slice A1_8 l1_8.length c1_8]) (t := 27) ?hr ?_; (case hd => rfl); (case hg => rfl); (case hr => first | (go_simp; done) | (go_simp; rfl)); intro gb213 hg w7 hbox hb; have BK213 := am_ (hbox); have GW213 := am_ ((by rw [hg]; exact (below_size (bl_)) : w.heap.size ≤ gb213)); have GE213 := am_ ((by rw [hg]; exact (below_size (bl_)) : w.heap.size ≤ gb213)); replace HB := am_ (below_step (bl_) hb); clear hb hbox hg; obtain ⟨hcz8_0, hcz8_1, hcz8_2, hcz8_3, hcz8_4, hcz8_5, hcz8_6, hcz8_7, hcz8_8, hfz8_0, hfz8_1, hfz8_2, hfz8_3, hfz8_4, hfz8_5, hfz8_6, hfz8_7, hfz8_8⟩ := bw9_ BK213.out) | (go_at_call 101; (with_reducible refine (cost_stat.calls k _ _ l3 a1_3 t214 t215 _ ?side1 ?side2 A5.out).mono ?_); (case side1 => repeat (first | exact (Kd.C_below HR3.out HB.out) | (with_reducible refine Kd.C_alloc ?_ _) | (with_reducible refine Kd.C_drewN ?_ _) | (with_reducible refine Kd.C_drew ?_))); (case side2 => exact HC3.out); rintro e w9 ⟨v216, rfl, ho0, hb⟩; have HO217 := am_ (Kd.S_lower ho0 (below_size (bl_))); replace BK213 := am_ (blk_below (bk_ BK213.out) hb); replace HB := am_ (below_step (bl_) hb); (try clear hb); (try clear hb2); (try clear hk); (try clear hi); (try clear ho0)) | ((with_reducible refine gate_dst (N := 9) rfl ?_); refine box_event ?hg (N := 9) ?hd (cs := #[.int .i64 0, .slice none 0 0]) (t := 103) ?hr ?_; (case hd => rfl); (case hg => rfl); (case hr => first | (go_simp; done) | (go_simp; rfl)); intro gb218 hg w10 hbox hb; have n0_ := am_ (Kd.S_below (by (with_reducible repeat (first | apply Kd.S_alloc | apply Kd.S_drewN | apply Kd.S_drew)); exact HO217.out) hb); have n1_ := am_ (blk_below (bk_ BK213.out) hb); have n2_ := am_ (below_step (bl_) hb); have n3_ := am_ (hbox); have n4_ := am_ ((by rw [hg]; exact (below_size (bl_)) : w.heap.size ≤ gb218)); have n5_ := am_ ((by rw [hg]; exact (below_size (bl_)) : w.heap.size ≤ gb218)); have n6_ := am_ ((by rw [hg]; exact Nat.ne_of_lt (blk_lt (g := gb213) (o := .cells #[.int .i64 a1_0, .string a1_1, .string a1_2, .int .i64 a1_3, .int .i64 a1_4, .int .i64 a1_5, .int .i64 a1_6, .string a1_7, .slice A1_8 l1_8.length c1_8] 27 (0, 0)) (bk_ BK213.out)) : gb213 ≠ gb218)); have n7_ := am_ ((by rw [hg]; exact Nat.ne_of_gt (blk_lt (g := gb213) (o := .cells #[.int .i64 a1_0, .string a1_1, .string a1_2, .int .i64 a1_3, .int .i64 a1_4, .int .i64 a1_5, .int .i64 a1_6, .string a1_7, .slice A1_8 l1_8.length c1_8] 27 (0, 0)) (bk_ BK213.out)) : gb218 ≠ gb213)); clear HO217; clear BK213; clear HB; have HO217 := n0_; have BK213 := n1_; have HB := n2_; have BK218 := n3_; have GW218 := n4_; have GE218 := n5_; have NB213_218 := n6_; have NB218_213 := n7_; clear n0_ n1_ n2_ n3_ n4_ n5_ n6_ n7_; clear hb hbox hg; have hnb11 := NB218_213.out; have hnc11 := NB213_218.out; obtain ⟨hcz12_0, hcz12_1, hfz12_0, hfz12_1⟩ := bw2_ BK218.out; obtain ⟨Ao13, co13, eo13⟩ := Kd.S_slice HO217.out; subst eo13; obtain ⟨hcz14_0, hcz14_1, hcz14_2, hcz14_3, hcz14_4, hcz14_5, hcz14_6, hcz14_7, hcz14_8, hfz14_0, hfz14_1, hfz14_2, hfz14_3, hfz14_4, hfz14_5, hfz14_6, hfz14_7, hfz14_8⟩ := bw9_ BK213.out) | (go_at_call 103; (with_reducible refine (hist_Col.calls t214 _ _ t215 a1_4 t219 t220 t221 _ ?side1 ?side2 A6.out).mono ?_); (case side1 => refine (Kd.S_reads' (e := 116) (base := w.heap.size) (ok := fun k_ => True) (n := t215.length) (c := co13) ?_).2.2; exact (by (with_reducible repeat (first | apply Kd.S_alloc | apply Kd.S_drewN | apply Kd.S_drew)); exact (Kd.S_mono (Kd.S_far (p := ⟨gb218, 1, none⟩) (Kd.S_far (p := ⟨gb218, 0, none⟩) (Kd.S_types HO217.out BK218.out (by decide)) (fun _ hk => hk.2) (.int .i64 t214)) (fun _ hk => hk.2) (.slice Ao13 t215.length co13)) (fun _ h_ => h_.1)))); (case side2 => exact (Kd.S_reads' HO217.out).2.1); rintro e w15 ⟨v222, rfl, ho0, hb⟩; replace HO217 := am_ (Kd.S_elder' (by (with_reducible repeat (first | apply Kd.S_alloc | apply Kd.S_drewN | apply Kd.S_drew)); exact (Kd.S_mono (Kd.S_far (p := ⟨gb218, 1, none⟩) (Kd.S_far (p := ⟨gb218, 0, none⟩) (Kd.S_types HO217.out BK218.out (by decide)) (fun _ hk => hk.2) (.int .i64 t214)) (fun _ hk => hk.2) (.slice Ao13 t215.length co13)) (fun _ h_ => h_.1))) (Kd.R_base ho0) hb); have HO223 := am_ (Kd.R_lower ho0 (below_size (bl_))); replace BK213 := am_ (blk_below (g := gb213) (o := .cells #[.int .i64 a1_0, .string a1_1, .string a1_2, .int .i64 a1_3, .int .i64 a1_4, .int .i64 a1_5, .int .i64 a1_6, .string a1_7, .slice A1_8 l1_8.length c1_8] 27 (0, 0)) (by refine bp_ ?_; refine blk_far ?_ NB213_218.out _; refine bp_ ?_; refine blk_far ?_ NB213_218.out _; refine bp_ ?_; exact BK213.out) hb); replace BK218 := am_ (blk_below (g := gb218) (o := .cells #[.int .i64 t214, .slice Ao13 t215.length co13] 103 (0, 0)) (by refine bp_ ?_; refine blk_put (cs := #[.int .i64 t214, .slice none 0 0]) ?_ 1 _ rfl; refine bp_ ?_; refine blk_put (cs := #[.int .i64 0, .slice none 0 0]) ?_ 0 _ rfl; refine bp_ ?_; exact BK218.out) hb); replace HB := am_ (below_step (bl_) hb); (try clear hb); (try clear hb2); (try clear hk); (try clear hi); (try clear ho0)) | ((with_reducible refine gate_dst (N := 10) rfl ?_); refine box_event ?hg (N := 10) ?hd (cs := #[.int .i64 0, .int .i64 0, .slice none 0 0]) (t := 116) ?hr ?_; (case hd => rfl); (case hg => rfl); (case hr => first | (go_simp; done) | (go_simp; rfl)); intro gb224 hg w16 hbox hb; have n0_ := am_ (Kd.S_below (Kd.S_elderB (by (with_reducible repeat (first | apply Kd.S_alloc | apply Kd.S_drewN | apply Kd.S_drew)); exact HO217.out) gb224 (Nat.le_of_eq hg.symm)) hb); have n1_ := am_ (Kd.R_below (kr_ HO223.out) hb); have n2_ := am_ (blk_below (bk_ BK213.out) hb); have n3_ := am_ (blk_below (bk_ BK218.out) hb); have n4_ := am_ (below_step (bl_) hb); have n5_ := am_ (hbox); have n6_ := am_ ((by rw [hg]; exact (below_size (bl_)) : w.heap.size ≤ gb224)); have n7_ := am_ ((by rw [hg]; exact (below_size (bl_)) : w.heap.size ≤ gb224)); have n8_ := am_ ((by rw [hg]; exact Nat.ne_of_lt (blk_lt (g := gb213) (o := .cells #[.int .i64 a1_0, .string a1_1, .string a1_2, .int .i64 a1_3, .int .i64 a1_4, .int .i64 a1_5, .int .i64 a1_6, .string a1_7, .slice A1_8 l1_8.length c1_8] 27 (0, 0)) (bk_ BK213.out)) : gb213 ≠ gb224)); have n9_ := am_ ((by rw [hg]; exact Nat.ne_of_gt (blk_lt (g := gb213) (o := .cells #[.int .i64 a1_0, .string a1_1, .string a1_2, .int .i64 a1_3, .int .i64 a1_4, .int .i64 a1_5, .int .i64 a1_6, .string a1_7, .slice A1_8 l1_8.length c1_8] 27 (0, 0)) (bk_ BK213.out)) : gb224 ≠ gb213)); have n10_ := am_ ((by rw [hg]; exact Nat.ne_of_lt (blk_lt (g := gb218) (o := .cells #[.int .i64 t214, .slice Ao13 t215.length co13] 103 (0, 0)) (bk_ BK218.out)) : gb218 ≠ gb224)); have n11_ := am_ ((by rw [hg]; exact Nat.ne_of_gt (blk_lt (g := gb218) (o := .cells #[.int .i64 t214, .slice Ao13 t215.length co13] 103 (0, 0)) (bk_ BK218.out)) : gb224 ≠ gb218)); clear HO217; clear HO223; clear BK213; clear BK218; clear HB; have HO217 := n0_; have HO223 := n1_; have BK213 := n2_; have BK218 := n3_; have HB := n4_; have BK224 := n5_; have GW224 := n6_; have GE224 := n7_; have NB213_224 := n8_; have NB224_213 := n9_; have NB218_224 := n10_; have NB224_218 := n11_; clear n0_ n1_ n2_ n3_ n4_ n5_ n6_ n7_ n8_ n9_ n10_ n11_; clear hb hbox hg; have hnb17 := NB224_213.out; have hnc17 := NB213_224.out; have hnb18 := NB224_218.out; have hnc18 := NB218_224.out; obtain ⟨hcz19_0, hcz19_1, hcz19_2, hfz19_0, hfz19_1, hfz19_2⟩ := bw3_ BK224.out; obtain ⟨Ao20, co20, eo20⟩ := Kd.R_slice HO223.out; subst eo20)))
 go_loopg [11, 28] k (fun kq v11 v28 w' => ∃ (x11_1 : Int) (x28_1 : Int), v11 = .int .i64 x11_1 ∧ v28 = .int .i64 x28_1 ∧ Aside0 (cost_against.l0 kq a0 a2 x11_1 t221 (t221.length : Int) x28_1 t214 t215 t219 t220 t221 = some r) ∧ Aside0 (kq ≤ k) ∧ Aside0 (Kd.R (Kd.int .i64) 3 w' w.heap.size (fun _ => True) (.slice Ao20 t221.length co20) t221) ∧ Aside0 (Kd.S k116 116 w' w.heap.size (fun k_ => some k_ ≠ ((.slice Ao20 t221.length co20) : Value).ownBlock ∧ some k_ ≠ ((.slice Ao20 t221.length co20) : Value).ownBlock ∧ k_ ≠ gb224) (.slice Ao13 t215.length co13) t215) ∧ Aside0 (Kd.R (Kd.int .i64) 3 w' w.heap.size (fun _ => True) (.slice Ao20 t221.length co20) t221) ∧ Aside0 (w'.heap[gb213]? = some (.cells #[.int .i64 a1_0, .string a1_1, .string a1_2, .int .i64 a1_3, .int .i64 a1_4, .int .i64 a1_5, .int .i64 a1_6, .string a1_7, (.slice A1_8 l1_8.length c1_8)] 27 (0, 0))) ∧ Aside0 (w'.heap[gb218]? = some (.cells #[.int .i64 t214, (.slice Ao13 t215.length co13)] 103 (0, 0))) ∧ Aside0 (w'.heap[gb224]? = some (.cells #[.int .i64 t219, .int .i64 t220, (.slice Ao20 t221.length co20)] 116 (0, 0))) ∧ Aside0 (Below w.heap.size w w'))
 case atStart => exact ⟨(0), (0), (rs_), (rs_), H', ⟨Nat.le_refl _⟩, ⟨by (with_reducible repeat (first | apply Kd.R_alloc | apply Kd.R_drewN | apply Kd.R_drew)); exact Kd.R_mono (fr_ gb224 2 (fr_ gb224 1 (fr_ gb224 0 (Kd.R_types HO223.out BK224.out (by decide)) (fun _ hk => hk.2) (.int .i64 t219)) (fun _ hk => hk.2) (.int .i64 t220)) (fun _ hk => hk.2) (.slice Ao20 t221.length co20)) (fun _ hk => trivial)⟩, ⟨by (with_reducible repeat (first | apply Kd.S_alloc | apply Kd.S_drewN | apply Kd.S_drew)); exact Kd.S_mono (Kd.S_far (p := ⟨gb224, 2, none⟩) (Kd.S_far (p := ⟨gb224, 1, none⟩) (Kd.S_far (p := ⟨gb224, 0, none⟩) (Kd.S_mono HO217.out (fun k_ hk => (⟨hk, hk.2⟩ : _ ∧ k_ ≠ gb224))) (fun _ hk => hk.2) (.int .i64 t219)) (fun _ hk => hk.2) (.int .i64 t220)) (fun _ hk => hk.2) (.slice Ao20 t221.length co20)) (fun _ hk => ⟨hk.1.1.2, ⟨hk.1.1.2, hk.1.2⟩⟩)⟩, ⟨by (with_reducible repeat (first | apply Kd.R_alloc | apply Kd.R_drewN | apply Kd.R_drew)); exact Kd.R_mono (fr_ gb224 2 (fr_ gb224 1 (fr_ gb224 0 (Kd.R_types HO223.out BK224.out (by decide)) (fun _ hk => hk.2) (.int .i64 t219)) (fun _ hk => hk.2) (.int .i64 t220)) (fun _ hk => hk.2) (.slice Ao20 t221.length co20)) (fun _ hk => trivial)⟩, ⟨by refine bp_ ?_; refine blk_far ?_ NB213_224.out _; refine bp_ ?_; refine blk_far ?_ NB213_224.out _; refine bp_ ?_; refine blk_far ?_ NB213_224.out _; refine bp_ ?_; exact BK213.out⟩, ⟨by refine bp_ ?_; refine blk_far ?_ NB218_224.out _; refine bp_ ?_; refine blk_far ?_ NB218_224.out _; refine bp_ ?_; refine blk_far ?_ NB218_224.out _; refine bp_ ?_; exact BK218.out⟩, ⟨by refine bp_ ?_; refine blk_put (cs := #[.int .i64 t219, .int .i64 t220, .slice none 0 0]) ?_ 2 _ rfl; refine bp_ ?_; refine blk_put (cs := #[.int .i64 t219, .int .i64 0, .slice none 0 0]) ?_ 1 _ rfl; refine bp_ ?_; refine blk_put (cs := #[.int .i64 0, .int .i64 0, .slice none 0 0]) ?_ 0 _ rfl; refine bp_ ?_; exact BK224.out⟩, ⟨bl_⟩⟩
 case round =>
  clear H'; (try clear c1); (try clear p2); (try clear c3); (try clear c10); (try clear c11); (try clear c17); (try clear c18); (try clear hcz12_0); (try clear hcz12_1); (try clear hcz14_0); (try clear hcz14_1); (try clear hcz14_2); (try clear hcz14_3); (try clear hcz14_4); (try clear hcz14_5); (try clear hcz14_6); (try clear hcz14_7); (try clear hcz14_8); (try clear hcz19_0); (try clear hcz19_1); (try clear hcz19_2); (try clear hcz8_0); (try clear hcz8_1); (try clear hcz8_2); (try clear hcz8_3); (try clear hcz8_4); (try clear hcz8_5); (try clear hcz8_6); (try clear hcz8_7); (try clear hcz8_8); (try clear hfz12_0); (try clear hfz12_1); (try clear hfz14_0); (try clear hfz14_1); (try clear hfz14_2); (try clear hfz14_3); (try clear hfz14_4); (try clear hfz14_5); (try clear hfz14_6); (try clear hfz14_7); (try clear hfz14_8); (try clear hfz19_0); (try clear hfz19_1); (try clear hfz19_2); (try clear hfz8_0); (try clear hfz8_1); (try clear hfz8_2); (try clear hfz8_3); (try clear hfz8_4); (try clear hfz8_5); (try clear hfz8_6); (try clear hfz8_7); (try clear hfz8_8); obtain ⟨x11_1, x28_1, rfl, rfl, HA, HK1, HO_26, HO_219001, HO_225002, BK213, BK218, BK224, HB⟩ := hrel
  cases gk with
  | zero => exact absurd HA.out (by simp [cost_against.l0])
  | succ k1 =>
   have H := HA.out; clear HA; simp only [cost_against.l0] at H
   by_cases c21 : x28_1 < (t221.length : Int)
   ·rw [if_pos c21] at H
    have c21b0 : decide (x28_1 < (t221.length : Int)) = true := decide_eq_true c21; clear c21
    by_cases c22 : 0 ≤ x28_1
    ·rw [if_pos c22] at H
     have c22b0 : decide (0 ≤ x28_1) = true := decide_eq_true c22; clear c22
     by_cases c23 : x28_1 < (t221.length : Int)
     ·rw [if_pos c23] at H
      have c23b0 : decide (x28_1 < (t221.length : Int)) = true := decide_eq_true c23; clear c23
      by_cases c24 : (rd t221 x28_1) ≤ a2
      ·rw [if_pos c24] at H
       have c24b0 : decide ((rd t221 x28_1) ≤ a2) = true := decide_eq_true c24; clear c24; have H' := am_ H; clear H; have p225 : 0 ≤ (x28_1 : Int) := of_decide_eq_true (as_); have q225 : x28_1 < (t221.length : Int) := of_decide_eq_true (as_); obtain ⟨ad225, e225, hx225_0⟩ := Kd.at_int (Kd.R_reads' HO_26.out).2.2 x28_1 p225 q225; cases e225; replace p225 := eq_true p225; replace q225 := eq_true q225
       go_wp2
       repeat (go_quiet (fail); try go_wp2)
       go_roundg k1
       case measure => have := HK1.out; omega
       case rel => exact ⟨(wrap64 (x11_1 + 1)), (wrap64 (x28_1 + 1)), (rs_), (rs_), H', ⟨by have := HK1.out; omega⟩, ⟨kr_ HO_26.out⟩, ⟨by (with_reducible repeat (first | apply Kd.S_alloc | apply Kd.S_drewN | apply Kd.S_drew)); exact HO_219001.out⟩, ⟨kr_ HO_225002.out⟩, ⟨bk_ BK213.out⟩, ⟨bk_ BK218.out⟩, ⟨bk_ BK224.out⟩, ⟨bl_⟩⟩
      ·rw [if_neg c24] at H
       have c24b0 : decide ((rd t221 x28_1) ≤ a2) = false := decide_eq_false c24; clear c24; have H' := am_ H; clear H; have p225 : 0 ≤ (x28_1 : Int) := of_decide_eq_true (as_); have q225 : x28_1 < (t221.length : Int) := of_decide_eq_true (as_); obtain ⟨ad225, e225, hx225_0⟩ := Kd.at_int (Kd.R_reads' HO_26.out).2.2 x28_1 p225 q225; cases e225; replace p225 := eq_true p225; replace q225 := eq_true q225
       go_wp2
       repeat (go_quiet (fail); try go_wp2)
       go_roundg k1
       case measure => have := HK1.out; omega
       case rel => exact ⟨(x11_1), (wrap64 (x28_1 + 1)), (rs_), (rs_), H', ⟨by have := HK1.out; omega⟩, ⟨kr_ HO_26.out⟩, ⟨by (with_reducible repeat (first | apply Kd.S_alloc | apply Kd.S_drewN | apply Kd.S_drew)); exact HO_219001.out⟩, ⟨kr_ HO_225002.out⟩, ⟨bk_ BK213.out⟩, ⟨bk_ BK218.out⟩, ⟨bk_ BK224.out⟩, ⟨bl_⟩⟩
     ·rw [if_neg c23] at H
      exact absurd H (by simp)
    ·rw [if_neg c22] at H
     exact absurd H (by simp)
   ·rw [if_neg c21] at H
    have c21b0 : decide (x28_1 < (t221.length : Int)) = false := decide_eq_false c21; clear c21; replace H := Option.bind_eq_some_iff.mp H; obtain ⟨t226, A250, H⟩ := H; replace H : ((frac_Of.f t226 (t221.length : Int)).bind fun t227 => ((frac_Of.f x11_1 (t221.length : Int)).bind fun t228 => (if a0 = 1 then ((frac_Of.f 1 t219).bind fun t229 => (cost_against.j1 k1 t229 t214 t215 t219 t220 t221)) else (if a0 = 2 then ((frac_Of.f 1 t219).bind fun t230 => ((frac_Not.f t230).bind fun t231 => (cost_against.j1 k1 t231 t214 t215 t219 t220 t221))) else (if a0 = 3 then (cost_against.j1 k1 t227 t214 t215 t219 t220 t221) else (if a0 = 4 then (cost_against.j1 k1 t228 t214 t215 t219 t220 t221) else (if a0 = 5 then ((frac_Not.f t228).bind fun t232 => (cost_against.j1 k1 t232 t214 t215 t219 t220 t221)) else ((frac_Not.f t227).bind fun t233 => (cost_against.j1 k1 t233 t214 t215 t219 t220 t221))))))))) = some r := H; have A25 := am_ A250; clear A250; replace H := Option.bind_eq_some_iff.mp H; obtain ⟨t227, A260, H⟩ := H; replace H : ((frac_Of.f x11_1 (t221.length : Int)).bind fun t228 => (if a0 = 1 then ((frac_Of.f 1 t219).bind fun t229 => (cost_against.j1 k1 t229 t214 t215 t219 t220 t221)) else (if a0 = 2 then ((frac_Of.f 1 t219).bind fun t230 => ((frac_Not.f t230).bind fun t231 => (cost_against.j1 k1 t231 t214 t215 t219 t220 t221))) else (if a0 = 3 then (cost_against.j1 k1 t227 t214 t215 t219 t220 t221) else (if a0 = 4 then (cost_against.j1 k1 t228 t214 t215 t219 t220 t221) else (if a0 = 5 then ((frac_Not.f t228).bind fun t232 => (cost_against.j1 k1 t232 t214 t215 t219 t220 t221)) else ((frac_Not.f t227).bind fun t233 => (cost_against.j1 k1 t233 t214 t215 t219 t220 t221)))))))) = some r := H; have A26 := am_ A260; clear A260; replace H := Option.bind_eq_some_iff.mp H; obtain ⟨t228, A270, H⟩ := H; replace H : (if a0 = 1 then ((frac_Of.f 1 t219).bind fun t229 => (cost_against.j1 k1 t229 t214 t215 t219 t220 t221)) else (if a0 = 2 then ((frac_Of.f 1 t219).bind fun t230 => ((frac_Not.f t230).bind fun t231 => (cost_against.j1 k1 t231 t214 t215 t219 t220 t221))) else (if a0 = 3 then (cost_against.j1 k1 t227 t214 t215 t219 t220 t221) else (if a0 = 4 then (cost_against.j1 k1 t228 t214 t215 t219 t220 t221) else (if a0 = 5 then ((frac_Not.f t228).bind fun t232 => (cost_against.j1 k1 t232 t214 t215 t219 t220 t221)) else ((frac_Not.f t227).bind fun t233 => (cost_against.j1 k1 t233 t214 t215 t219 t220 t221))))))) = some r := H; have A27 := am_ A270; clear A270; have HC28 := am_ H; clear H; have hnb29 := NB224_213.out; have hnc29 := NB213_224.out; have hnb30 := NB224_218.out; have hnc30 := NB218_224.out; obtain ⟨hcz31_0, hcz31_1, hcz31_2, hfz31_0, hfz31_1, hfz31_2⟩ := bw3_ BK224.out
    go_upto_block 2 with (first | (go_at_call 133; (with_reducible refine (hist_Below.calls k1 _ _ t221 a2 t226 _ ?side1 ?side2 A25.out).mono ?_); (case side1 => repeat (first | exact (Kd.R_reads' HO_225002.out).2.2 | (with_reducible refine Kd.C_alloc ?_ _) | (with_reducible refine Kd.C_drewN ?_ _) | (with_reducible refine Kd.C_drew ?_))); (case side2 => exact (Kd.R_reads' HO_225002.out).2.1); rintro e w' ⟨rfl, ⟨nd, rfl⟩⟩; (try first | exact ⟨rfl, _, World.drewN_drewN _ _ _⟩ | exact ⟨rfl, _, Eq.trans (World.drewN_drewN _ _ _) (congrArg (World.drewN _) (Nat.add_assoc _ _ _))⟩)) | (go_at_call 102; (with_reducible refine (frac_Of.calls t226 (t221.length : Int) t227 _ A26.out).mono ?_); rintro e w' ⟨rfl, ⟨nd, rfl⟩⟩; (try first | exact ⟨rfl, _, World.drewN_drewN _ _ _⟩ | exact ⟨rfl, _, Eq.trans (World.drewN_drewN _ _ _) (congrArg (World.drewN _) (Nat.add_assoc _ _ _))⟩); (try clear A26)) | (go_at_call 102; (with_reducible refine (frac_Of.calls x11_1 (t221.length : Int) t228 _ A27.out).mono ?_); rintro e w' ⟨rfl, ⟨nd, rfl⟩⟩; (try first | exact ⟨rfl, _, World.drewN_drewN _ _ _⟩ | exact ⟨rfl, _, Eq.trans (World.drewN_drewN _ _ _) (congrArg (World.drewN _) (Nat.add_assoc _ _ _))⟩); (try clear A27)))
    repeat (go_quiet (first | (go_at_call 133; (with_reducible refine (hist_Below.calls k1 _ _ t221 a2 t226 _ ?side1 ?side2 A25.out).mono ?_); (case side1 => repeat (first | exact (Kd.R_reads' HO_225002.out).2.2 | (with_reducible refine Kd.C_alloc ?_ _) | (with_reducible refine Kd.C_drewN ?_ _) | (with_reducible refine Kd.C_drew ?_))); (case side2 => exact (Kd.R_reads' HO_225002.out).2.1); rintro e w' ⟨rfl, ⟨nd, rfl⟩⟩; (try first | exact ⟨rfl, _, World.drewN_drewN _ _ _⟩ | exact ⟨rfl, _, Eq.trans (World.drewN_drewN _ _ _) (congrArg (World.drewN _) (Nat.add_assoc _ _ _))⟩)) | (go_at_call 102; (with_reducible refine (frac_Of.calls t226 (t221.length : Int) t227 _ A26.out).mono ?_); rintro e w' ⟨rfl, ⟨nd, rfl⟩⟩; (try first | exact ⟨rfl, _, World.drewN_drewN _ _ _⟩ | exact ⟨rfl, _, Eq.trans (World.drewN_drewN _ _ _) (congrArg (World.drewN _) (Nat.add_assoc _ _ _))⟩)) | (go_at_call 102; (with_reducible refine (frac_Of.calls x11_1 (t221.length : Int) t228 _ A27.out).mono ?_); rintro e w' ⟨rfl, ⟨nd, rfl⟩⟩; (try first | exact ⟨rfl, _, World.drewN_drewN _ _ _⟩ | exact ⟨rfl, _, Eq.trans (World.drewN_drewN _ _ _) (congrArg (World.drewN _) (Nat.add_assoc _ _ _))⟩))); go_upto_block 2 with (first | (go_at_call 133; (with_reducible refine (hist_Below.calls k1 _ _ t221 a2 t226 _ ?side1 ?side2 A25.out).mono ?_); (case side1 => repeat (first | exact (Kd.R_reads' HO_225002.out).2.2 | (with_reducible refine Kd.C_alloc ?_ _) | (with_reducible refine Kd.C_drewN ?_ _) | (with_reducible refine Kd.C_drew ?_))); (case side2 => exact (Kd.R_reads' HO_225002.out).2.1); rintro e w' ⟨rfl, ⟨nd, rfl⟩⟩; (try first | exact ⟨rfl, _, World.drewN_drewN _ _ _⟩ | exact ⟨rfl, _, Eq.trans (World.drewN_drewN _ _ _) (congrArg (World.drewN _) (Nat.add_assoc _ _ _))⟩)) | (go_at_call 102; (with_reducible refine (frac_Of.calls t226 (t221.length : Int) t227 _ A26.out).mono ?_); rintro e w' ⟨rfl, ⟨nd, rfl⟩⟩; (try first | exact ⟨rfl, _, World.drewN_drewN _ _ _⟩ | exact ⟨rfl, _, Eq.trans (World.drewN_drewN _ _ _) (congrArg (World.drewN _) (Nat.add_assoc _ _ _))⟩)) | (go_at_call 102; (with_reducible refine (frac_Of.calls x11_1 (t221.length : Int) t228 _ A27.out).mono ?_); rintro e w' ⟨rfl, ⟨nd, rfl⟩⟩; (try first | exact ⟨rfl, _, World.drewN_drewN _ _ _⟩ | exact ⟨rfl, _, Eq.trans (World.drewN_drewN _ _ _) (congrArg (World.drewN _) (Nat.add_assoc _ _ _))⟩))))
    (try simp only [Act.put, sa_, sz_, ss_])
    go_cut [16] (fun v16 wc => ∃ (kq : Nat) (x16_27 : Nat), v16 = .float .f64 x16_27 ∧ Aside0 (cost_against.j1 kq x16_27 t214 t215 t219 t220 t221 = some r) ∧ Aside0 (kq ≤ k1) ∧ Aside0 (Kd.S k116 116 wc w.heap.size (fun k_ => some k_ ≠ ((.slice Ao20 t221.length co20) : Value).ownBlock ∧ k_ ≠ gb224) (.slice Ao13 t215.length co13) t215) ∧ Aside0 (Kd.R (Kd.int .i64) 3 wc w.heap.size (fun _ => True) (.slice Ao20 t221.length co20) t221) ∧ Aside0 (wc.heap[gb213]? = some (.cells #[.int .i64 a1_0, .string a1_1, .string a1_2, .int .i64 a1_3, .int .i64 a1_4, .int .i64 a1_5, .int .i64 a1_6, .string a1_7, (.slice A1_8 l1_8.length c1_8)] 27 (0, 0))) ∧ Aside0 (wc.heap[gb218]? = some (.cells #[.int .i64 t214, (.slice Ao13 t215.length co13)] 103 (0, 0))) ∧ Aside0 (wc.heap[gb224]? = some (.cells #[.int .i64 t219, .int .i64 t220, (.slice Ao20 t221.length co20)] 116 (0, 0))) ∧ Aside0 (Below w.heap.size w wc))
    case first =>
     have H := HC28.out; clear HC28
     by_cases c32 : a0 = 1
     ·rw [if_pos c32] at H
      have c32b0 : (a0 == 1) = true := beq_iff_eq.mpr c32; have c32b1 : (a0 != 1) = false := bne_eq_false_iff_eq.mpr c32; clear c32; (first | rw [c32b0] | (simp only [i64_w, i32_w]; rw [c32b0]) | skip); replace H := Option.bind_eq_some_iff.mp H; obtain ⟨t229, A330, H⟩ := H; replace H : (cost_against.j1 k1 t229 t214 t215 t219 t220 t221) = some r := H; have A33 := am_ A330; clear A330; have H' := am_ H; clear H; have hnb34 := NB224_213.out; have hnc34 := NB213_224.out; have hnb35 := NB224_218.out; have hnc35 := NB218_224.out; obtain ⟨hcz36_0, hcz36_1, hcz36_2, hfz36_0, hfz36_1, hfz36_2⟩ := bw3_ BK224.out
      go_wp2_with (first | (go_at_call 102; (with_reducible refine (frac_Of.calls 1 t219 t229 _ A33.out).mono ?_); rintro e w' ⟨rfl, ⟨nd, rfl⟩⟩; (try first | exact ⟨rfl, _, World.drewN_drewN _ _ _⟩ | exact ⟨rfl, _, Eq.trans (World.drewN_drewN _ _ _) (congrArg (World.drewN _) (Nat.add_assoc _ _ _))⟩)))
      repeat (go_quiet (first | (go_at_call 102; (with_reducible refine (frac_Of.calls 1 t219 t229 _ A33.out).mono ?_); rintro e w' ⟨rfl, ⟨nd, rfl⟩⟩; (try first | exact ⟨rfl, _, World.drewN_drewN _ _ _⟩ | exact ⟨rfl, _, Eq.trans (World.drewN_drewN _ _ _) (congrArg (World.drewN _) (Nat.add_assoc _ _ _))⟩))); try go_wp2_with (first | (go_at_call 102; (with_reducible refine (frac_Of.calls 1 t219 t229 _ A33.out).mono ?_); rintro e w' ⟨rfl, ⟨nd, rfl⟩⟩; (try first | exact ⟨rfl, _, World.drewN_drewN _ _ _⟩ | exact ⟨rfl, _, Eq.trans (World.drewN_drewN _ _ _) (congrArg (World.drewN _) (Nat.add_assoc _ _ _))⟩))))
      go_meet
      case rel => exact ⟨_, (t229), (rs_), H', ⟨by have := HK1.out; first | omega | exact Nat.le_refl _⟩, ⟨by (with_reducible repeat (first | apply Kd.S_alloc | apply Kd.S_drewN | apply Kd.S_drew)); exact Kd.S_mono HO_219001.out (fun _ hk => ⟨hk.2.1, hk.2.2⟩)⟩, ⟨kr_ HO_225002.out⟩, ⟨bk_ BK213.out⟩, ⟨bk_ BK218.out⟩, ⟨bk_ BK224.out⟩, ⟨bl_⟩⟩
     ·rw [if_neg c32] at H
      have c32b0 : (a0 == 1) = false := beq_eq_false_iff_ne.mpr c32; have c32b1 : (a0 != 1) = true := bne_iff_ne.mpr c32; (first | rw [c32b0] | (simp only [i64_w, i32_w]; rw [c32b0]) | skip)
      by_cases c37 : a0 = 2
      ·rw [if_pos c37] at H
       have c37b0 : (a0 == 2) = true := beq_iff_eq.mpr c37; have c37b1 : (a0 != 2) = false := bne_eq_false_iff_eq.mpr c37; clear c37; replace H := Option.bind_eq_some_iff.mp H; obtain ⟨t230, A380, H⟩ := H; replace H : ((frac_Not.f t230).bind fun t231 => (cost_against.j1 k1 t231 t214 t215 t219 t220 t221)) = some r := H; have A38 := am_ A380; clear A380; replace H := Option.bind_eq_some_iff.mp H; obtain ⟨t231, A390, H⟩ := H; replace H : (cost_against.j1 k1 t231 t214 t215 t219 t220 t221) = some r := H; have A39 := am_ A390; clear A390; have H' := am_ H; clear H; have hnb40 := NB224_213.out; have hnc40 := NB213_224.out; have hnb41 := NB224_218.out; have hnc41 := NB218_224.out; obtain ⟨hcz42_0, hcz42_1, hcz42_2, hfz42_0, hfz42_1, hfz42_2⟩ := bw3_ BK224.out
       go_wp2_with (first | (go_at_call 102; (with_reducible refine (frac_Of.calls 1 t219 t230 _ A38.out).mono ?_); rintro e w' ⟨rfl, ⟨nd, rfl⟩⟩; (try first | exact ⟨rfl, _, World.drewN_drewN _ _ _⟩ | exact ⟨rfl, _, Eq.trans (World.drewN_drewN _ _ _) (congrArg (World.drewN _) (Nat.add_assoc _ _ _))⟩)) | (go_at_call 54; (with_reducible refine (frac_Not.calls t230 t231 _ A39.out).mono ?_); rintro e w' ⟨rfl, ⟨nd, rfl⟩⟩; (try first | exact ⟨rfl, _, World.drewN_drewN _ _ _⟩ | exact ⟨rfl, _, Eq.trans (World.drewN_drewN _ _ _) (congrArg (World.drewN _) (Nat.add_assoc _ _ _))⟩)))
       repeat (go_quiet (first | (go_at_call 102; (with_reducible refine (frac_Of.calls 1 t219 t230 _ A38.out).mono ?_); rintro e w' ⟨rfl, ⟨nd, rfl⟩⟩; (try first | exact ⟨rfl, _, World.drewN_drewN _ _ _⟩ | exact ⟨rfl, _, Eq.trans (World.drewN_drewN _ _ _) (congrArg (World.drewN _) (Nat.add_assoc _ _ _))⟩)) | (go_at_call 54; (with_reducible refine (frac_Not.calls t230 t231 _ A39.out).mono ?_); rintro e w' ⟨rfl, ⟨nd, rfl⟩⟩; (try first | exact ⟨rfl, _, World.drewN_drewN _ _ _⟩ | exact ⟨rfl, _, Eq.trans (World.drewN_drewN _ _ _) (congrArg (World.drewN _) (Nat.add_assoc _ _ _))⟩))); try go_wp2_with (first | (go_at_call 102; (with_reducible refine (frac_Of.calls 1 t219 t230 _ A38.out).mono ?_); rintro e w' ⟨rfl, ⟨nd, rfl⟩⟩; (try first | exact ⟨rfl, _, World.drewN_drewN _ _ _⟩ | exact ⟨rfl, _, Eq.trans (World.drewN_drewN _ _ _) (congrArg (World.drewN _) (Nat.add_assoc _ _ _))⟩)) | (go_at_call 54; (with_reducible refine (frac_Not.calls t230 t231 _ A39.out).mono ?_); rintro e w' ⟨rfl, ⟨nd, rfl⟩⟩; (try first | exact ⟨rfl, _, World.drewN_drewN _ _ _⟩ | exact ⟨rfl, _, Eq.trans (World.drewN_drewN _ _ _) (congrArg (World.drewN _) (Nat.add_assoc _ _ _))⟩))))
       go_meet
       case rel => exact ⟨_, (t231), (rs_), H', ⟨by have := HK1.out; first | omega | exact Nat.le_refl _⟩, ⟨by (with_reducible repeat (first | apply Kd.S_alloc | apply Kd.S_drewN | apply Kd.S_drew)); exact Kd.S_mono HO_219001.out (fun _ hk => ⟨hk.2.1, hk.2.2⟩)⟩, ⟨kr_ HO_225002.out⟩, ⟨bk_ BK213.out⟩, ⟨bk_ BK218.out⟩, ⟨bk_ BK224.out⟩, ⟨bl_⟩⟩
      ·rw [if_neg c37] at H
       have c37b0 : (a0 == 2) = false := beq_eq_false_iff_ne.mpr c37; have c37b1 : (a0 != 2) = true := bne_iff_ne.mpr c37
       by_cases c43 : a0 = 3
       ·rw [if_pos c43] at H
        have c43b0 : (a0 == 3) = true := beq_iff_eq.mpr c43; have c43b1 : (a0 != 3) = false := bne_eq_false_iff_eq.mpr c43; clear c43; have H' := am_ H; clear H
        go_wp2
        repeat (go_quiet (fail); try go_wp2)
        go_meet
        case rel => exact ⟨_, (t227), (rs_), H', ⟨by have := HK1.out; first | omega | exact Nat.le_refl _⟩, ⟨by (with_reducible repeat (first | apply Kd.S_alloc | apply Kd.S_drewN | apply Kd.S_drew)); exact Kd.S_mono HO_219001.out (fun _ hk => ⟨hk.2.1, hk.2.2⟩)⟩, ⟨kr_ HO_225002.out⟩, ⟨bk_ BK213.out⟩, ⟨bk_ BK218.out⟩, ⟨bk_ BK224.out⟩, ⟨bl_⟩⟩
       ·rw [if_neg c43] at H
        have c43b0 : (a0 == 3) = false := beq_eq_false_iff_ne.mpr c43; have c43b1 : (a0 != 3) = true := bne_iff_ne.mpr c43
        by_cases c44 : a0 = 4
        ·rw [if_pos c44] at H
         have c44b0 : (a0 == 4) = true := beq_iff_eq.mpr c44; have c44b1 : (a0 != 4) = false := bne_eq_false_iff_eq.mpr c44; clear c44; have H' := am_ H; clear H
         go_wp2
         repeat (go_quiet (fail); try go_wp2)
         go_meet
         case rel => exact ⟨_, (t228), (rs_), H', ⟨by have := HK1.out; first | omega | exact Nat.le_refl _⟩, ⟨by (with_reducible repeat (first | apply Kd.S_alloc | apply Kd.S_drewN | apply Kd.S_drew)); exact Kd.S_mono HO_219001.out (fun _ hk => ⟨hk.2.1, hk.2.2⟩)⟩, ⟨kr_ HO_225002.out⟩, ⟨bk_ BK213.out⟩, ⟨bk_ BK218.out⟩, ⟨bk_ BK224.out⟩, ⟨bl_⟩⟩
        ·rw [if_neg c44] at H
         have c44b0 : (a0 == 4) = false := beq_eq_false_iff_ne.mpr c44; have c44b1 : (a0 != 4) = true := bne_iff_ne.mpr c44
         by_cases c45 : a0 = 5
         ·rw [if_pos c45] at H
          have c45b0 : (a0 == 5) = true := beq_iff_eq.mpr c45; have c45b1 : (a0 != 5) = false := bne_eq_false_iff_eq.mpr c45; clear c45; replace H := Option.bind_eq_some_iff.mp H; obtain ⟨t232, A460, H⟩ := H; replace H : (cost_against.j1 k1 t232 t214 t215 t219 t220 t221) = some r := H; have A46 := am_ A460; clear A460; have H' := am_ H; clear H
          go_wp2_with (first | (go_at_call 54; (with_reducible refine (frac_Not.calls t228 t232 _ A46.out).mono ?_); rintro e w' ⟨rfl, ⟨nd, rfl⟩⟩; (try first | exact ⟨rfl, _, World.drewN_drewN _ _ _⟩ | exact ⟨rfl, _, Eq.trans (World.drewN_drewN _ _ _) (congrArg (World.drewN _) (Nat.add_assoc _ _ _))⟩)))
          repeat (go_quiet (first | (go_at_call 54; (with_reducible refine (frac_Not.calls t228 t232 _ A46.out).mono ?_); rintro e w' ⟨rfl, ⟨nd, rfl⟩⟩; (try first | exact ⟨rfl, _, World.drewN_drewN _ _ _⟩ | exact ⟨rfl, _, Eq.trans (World.drewN_drewN _ _ _) (congrArg (World.drewN _) (Nat.add_assoc _ _ _))⟩))); try go_wp2_with (first | (go_at_call 54; (with_reducible refine (frac_Not.calls t228 t232 _ A46.out).mono ?_); rintro e w' ⟨rfl, ⟨nd, rfl⟩⟩; (try first | exact ⟨rfl, _, World.drewN_drewN _ _ _⟩ | exact ⟨rfl, _, Eq.trans (World.drewN_drewN _ _ _) (congrArg (World.drewN _) (Nat.add_assoc _ _ _))⟩))))
          go_meet
          case rel => exact ⟨_, (t232), (rs_), H', ⟨by have := HK1.out; first | omega | exact Nat.le_refl _⟩, ⟨by (with_reducible repeat (first | apply Kd.S_alloc | apply Kd.S_drewN | apply Kd.S_drew)); exact Kd.S_mono HO_219001.out (fun _ hk => ⟨hk.2.1, hk.2.2⟩)⟩, ⟨kr_ HO_225002.out⟩, ⟨bk_ BK213.out⟩, ⟨bk_ BK218.out⟩, ⟨bk_ BK224.out⟩, ⟨bl_⟩⟩
         ·rw [if_neg c45] at H
          have c45b0 : (a0 == 5) = false := beq_eq_false_iff_ne.mpr c45; have c45b1 : (a0 != 5) = true := bne_iff_ne.mpr c45; replace H := Option.bind_eq_some_iff.mp H; obtain ⟨t233, A470, H⟩ := H; replace H : (cost_against.j1 k1 t233 t214 t215 t219 t220 t221) = some r := H; have A47 := am_ A470; clear A470; have H' := am_ H; clear H
          go_wp2_with (first | (go_at_call 54; (with_reducible refine (frac_Not.calls t227 t233 _ A47.out).mono ?_); rintro e w' ⟨rfl, ⟨nd, rfl⟩⟩; (try first | exact ⟨rfl, _, World.drewN_drewN _ _ _⟩ | exact ⟨rfl, _, Eq.trans (World.drewN_drewN _ _ _) (congrArg (World.drewN _) (Nat.add_assoc _ _ _))⟩)))
          repeat (go_quiet (first | (go_at_call 54; (with_reducible refine (frac_Not.calls t227 t233 _ A47.out).mono ?_); rintro e w' ⟨rfl, ⟨nd, rfl⟩⟩; (try first | exact ⟨rfl, _, World.drewN_drewN _ _ _⟩ | exact ⟨rfl, _, Eq.trans (World.drewN_drewN _ _ _) (congrArg (World.drewN _) (Nat.add_assoc _ _ _))⟩))); try go_wp2_with (first | (go_at_call 54; (with_reducible refine (frac_Not.calls t227 t233 _ A47.out).mono ?_); rintro e w' ⟨rfl, ⟨nd, rfl⟩⟩; (try first | exact ⟨rfl, _, World.drewN_drewN _ _ _⟩ | exact ⟨rfl, _, Eq.trans (World.drewN_drewN _ _ _) (congrArg (World.drewN _) (Nat.add_assoc _ _ _))⟩))))
          go_meet
          case rel => exact ⟨_, (t233), (rs_), H', ⟨by have := HK1.out; first | omega | exact Nat.le_refl _⟩, ⟨by (with_reducible repeat (first | apply Kd.S_alloc | apply Kd.S_drewN | apply Kd.S_drew)); exact Kd.S_mono HO_219001.out (fun _ hk => ⟨hk.2.1, hk.2.2⟩)⟩, ⟨kr_ HO_225002.out⟩, ⟨bk_ BK213.out⟩, ⟨bk_ BK218.out⟩, ⟨bk_ BK224.out⟩, ⟨bl_⟩⟩
    case rest =>
     clear HC28; (try clear c1); (try clear c2); (try clear p2); (try clear q2); (try clear hx2); (try clear c3); (try clear c4); (try clear p6); (try clear c10); (try clear c11); (try clear c17); (try clear c18); (try clear c21); (try clear c21b0); (try clear c22); (try clear c22b0); (try clear p22); (try clear q22); (try clear hx22); (try clear c23); (try clear c23b0); (try clear c24); (try clear c24b0); (try clear c29); (try clear c30); (try clear c32); (try clear c32b0); (try clear c32b1); (try clear c34); (try clear c35); (try clear c37); (try clear c37b0); (try clear c37b1); (try clear c40); (try clear c41); (try clear c43); (try clear c43b0); (try clear c43b1); (try clear c44); (try clear c44b0); (try clear c44b1); (try clear c45); (try clear c45b0); (try clear c45b1); (try clear hcz12_0); (try clear hcz12_1); (try clear hcz14_0); (try clear hcz14_1); (try clear hcz14_2); (try clear hcz14_3); (try clear hcz14_4); (try clear hcz14_5); (try clear hcz14_6); (try clear hcz14_7); (try clear hcz14_8); (try clear hcz19_0); (try clear hcz19_1); (try clear hcz19_2); (try clear hcz31_0); (try clear hcz31_1); (try clear hcz31_2); (try clear hcz36_0); (try clear hcz36_1); (try clear hcz36_2); (try clear hcz42_0); (try clear hcz42_1); (try clear hcz42_2); (try clear hcz8_0); (try clear hcz8_1); (try clear hcz8_2); (try clear hcz8_3); (try clear hcz8_4); (try clear hcz8_5); (try clear hcz8_6); (try clear hcz8_7); (try clear hcz8_8); (try clear hfz12_0); (try clear hfz12_1); (try clear hfz14_0); (try clear hfz14_1); (try clear hfz14_2); (try clear hfz14_3); (try clear hfz14_4); (try clear hfz14_5); (try clear hfz14_6); (try clear hfz14_7); (try clear hfz14_8); (try clear hfz19_0); (try clear hfz19_1); (try clear hfz19_2); (try clear hfz31_0); (try clear hfz31_1); (try clear hfz31_2); (try clear hfz36_0); (try clear hfz36_1); (try clear hfz36_2); (try clear hfz42_0); (try clear hfz42_1); (try clear hfz42_2); (try clear hfz8_0); (try clear hfz8_1); (try clear hfz8_2); (try clear hfz8_3); (try clear hfz8_4); (try clear hfz8_5); (try clear hfz8_6); (try clear hfz8_7); (try clear hfz8_8); (try clear hx225_0); (try clear p2); (try clear p225); (try clear q225); obtain ⟨kq, x16_27, rfl, HA, HJ27, HO_219001, HO_225002, BK213, BK218, BK224, HB⟩ := hcut
     cases kq with
     | zero => exact absurd HA.out (by simp [cost_against.j1])
     | succ kj27 =>
      have H := HA.out; clear HA; simp only [cost_against.j1] at H; replace H := Option.bind_eq_some_iff.mp H; obtain ⟨t234, A480, H⟩ := H; replace H : ((frac_And.f (([t234, x16_27] : List Nat))).bind fun t238 => (some t238)) = some r := H; have A48 := am_ A480; clear A480
      obtain ⟨y235, hy235⟩ : ∃ y_ : List Nat, y_ = (([t234, x16_27] : List Nat)) := ⟨_, rfl⟩
      replace H : ((frac_And.f y235).bind fun t238 => (some t238)) = some r := by first | (rw [hy235]; with_reducible exact H) | (have H2_ := (Option.bind_some _ _).symm.trans H; rw [hy235]; with_reducible exact H2_) | (have H2_ := (Option.bind_some _ _).symm.trans H; with_reducible exact H2_) | with_reducible exact H | (rw [hy235]; exact H) | exact H
      have Ny235 := am_ hy235; clear hy235; replace H := Option.bind_eq_some_iff.mp H; obtain ⟨t238, A490, H⟩ := H; replace H : (some t238) = some r := H; have A49 := am_ A490; clear A490; obtain rfl := Option.some.inj H; have hnb50 := NB218_213.out; have hnc50 := NB213_218.out; have hnb51 := NB218_224.out; have hnc51 := NB224_218.out; obtain ⟨hcz52_0, hcz52_1, hfz52_0, hfz52_1⟩ := bw2_ BK218.out; have hnb53 := NB224_213.out; have hnc53 := NB213_224.out; obtain ⟨hcz54_0, hcz54_1, hcz54_2, hfz54_0, hfz54_1, hfz54_2⟩ := bw3_ BK224.out
      go_wp2_with (first | (go_at_call 102; (with_reducible refine (frac_Of.calls (wrap64 (t214 - t220)) t214 t234 _ A48.out).mono ?_); rintro e w' ⟨rfl, ⟨nd, rfl⟩⟩; (try first | exact ⟨rfl, _, World.drewN_drewN _ _ _⟩ | exact ⟨rfl, _, Eq.trans (World.drewN_drewN _ _ _) (congrArg (World.drewN _) (Nat.add_assoc _ _ _))⟩)) | ((with_reducible refine gate_dst (N := 84) rfl ?_); refine Kd.R_lit Kd.flt _ 65 ?hg (N := 84) ?hd (xs := ([t234, x16_27] : List Nat)) (inner := [.float .f64 t234, .float .f64 x16_27]) (ok := fun _ => True) (okp := fun _ => True) ?hr ?hp (fun _ hk => hk) trivial (Below.refl _ _) (Nat.le_refl _) (by simp) ?_; (case hd => rfl); (case hg => rfl); (case hr => first | (go_simp; done) | (go_simp; rfl)); (case hp => exact (Reps.one (show Kd.M Kd.flt _ _ _ t234 [.float .f64 t234] from rfl) (Reps.one (show Kd.M Kd.flt _ _ _ x16_27 [.float .f64 x16_27] from rfl) (Reps.none _ _)))); intro v236 w55 ho56 hb hg_ hnew_; clear hg_ hnew_; (first | rw [← Ny235.out] at ho56 | (simp only [Int.reduceToNat] at ho56; rw [← Ny235.out] at ho56)); replace HO_219001 := am_ (Kd.S_below (by (with_reducible repeat (first | apply Kd.S_alloc | apply Kd.S_drewN | apply Kd.S_drew)); exact HO_219001.out) hb); replace HO_225002 := am_ (Kd.R_below (kr_ HO_225002.out) hb); have HO237 := am_ (Kd.R_lower ho56 (below_size (bl_))); replace BK213 := am_ (blk_below (bk_ BK213.out) hb); replace BK218 := am_ (blk_below (bk_ BK218.out) hb); replace BK224 := am_ (blk_below (bk_ BK224.out) hb); replace HB := am_ (below_step (bl_) hb); clear hb ho56; obtain ⟨Ao57, co57, eo57⟩ := Kd.R_slice HO237.out; subst eo57) | (go_at_call 52; (with_reducible refine (frac_And.calls _ _ y235 t238 _ ?side1 ?side2 A49.out).mono ?_); (case side1 => repeat (first | exact (Kd.R_reads' HO237.out).2.2 | (with_reducible refine Kd.C_alloc ?_ _) | (with_reducible refine Kd.C_drewN ?_ _) | (with_reducible refine Kd.C_drew ?_))); (case side2 => exact (Kd.R_reads' HO237.out).2.1); rintro e w' ⟨rfl, ⟨nd, rfl⟩⟩; (try first | exact ⟨rfl, _, World.drewN_drewN _ _ _⟩ | exact ⟨rfl, _, Eq.trans (World.drewN_drewN _ _ _) (congrArg (World.drewN _) (Nat.add_assoc _ _ _))⟩)))
      repeat (go_quiet (first | (go_at_call 102; (with_reducible refine (frac_Of.calls (wrap64 (t214 - t220)) t214 t234 _ A48.out).mono ?_); rintro e w' ⟨rfl, ⟨nd, rfl⟩⟩; (try first | exact ⟨rfl, _, World.drewN_drewN _ _ _⟩ | exact ⟨rfl, _, Eq.trans (World.drewN_drewN _ _ _) (congrArg (World.drewN _) (Nat.add_assoc _ _ _))⟩)) | ((with_reducible refine gate_dst (N := 84) rfl ?_); refine Kd.R_lit Kd.flt _ 65 ?hg (N := 84) ?hd (xs := ([t234, x16_27] : List Nat)) (inner := [.float .f64 t234, .float .f64 x16_27]) (ok := fun _ => True) (okp := fun _ => True) ?hr ?hp (fun _ hk => hk) trivial (Below.refl _ _) (Nat.le_refl _) (by simp) ?_; (case hd => rfl); (case hg => rfl); (case hr => first | (go_simp; done) | (go_simp; rfl)); (case hp => exact (Reps.one (show Kd.M Kd.flt _ _ _ t234 [.float .f64 t234] from rfl) (Reps.one (show Kd.M Kd.flt _ _ _ x16_27 [.float .f64 x16_27] from rfl) (Reps.none _ _)))); intro v236 w55 ho56 hb hg_ hnew_; clear hg_ hnew_; (first | rw [← Ny235.out] at ho56 | (simp only [Int.reduceToNat] at ho56; rw [← Ny235.out] at ho56)); replace HO_219001 := am_ (Kd.S_below (by (with_reducible repeat (first | apply Kd.S_alloc | apply Kd.S_drewN | apply Kd.S_drew)); exact HO_219001.out) hb); replace HO_225002 := am_ (Kd.R_below (kr_ HO_225002.out) hb); have HO237 := am_ (Kd.R_lower ho56 (below_size (bl_))); replace BK213 := am_ (blk_below (bk_ BK213.out) hb); replace BK218 := am_ (blk_below (bk_ BK218.out) hb); replace BK224 := am_ (blk_below (bk_ BK224.out) hb); replace HB := am_ (below_step (bl_) hb); clear hb ho56; obtain ⟨Ao57, co57, eo57⟩ := Kd.R_slice HO237.out; subst eo57) | (go_at_call 52; (with_reducible refine (frac_And.calls _ _ y235 t238 _ ?side1 ?side2 A49.out).mono ?_); (case side1 => repeat (first | exact (Kd.R_reads' HO237.out).2.2 | (with_reducible refine Kd.C_alloc ?_ _) | (with_reducible refine Kd.C_drewN ?_ _) | (with_reducible refine Kd.C_drew ?_))); (case side2 => exact (Kd.R_reads' HO237.out).2.1); rintro e w' ⟨rfl, ⟨nd, rfl⟩⟩; (try first | exact ⟨rfl, _, World.drewN_drewN _ _ _⟩ | exact ⟨rfl, _, Eq.trans (World.drewN_drewN _ _ _) (congrArg (World.drewN _) (Nat.add_assoc _ _ _))⟩))); try go_wp2_with (first | (go_at_call 102; (with_reducible refine (frac_Of.calls (wrap64 (t214 - t220)) t214 t234 _ A48.out).mono ?_); rintro e w' ⟨rfl, ⟨nd, rfl⟩⟩; (try first | exact ⟨rfl, _, World.drewN_drewN _ _ _⟩ | exact ⟨rfl, _, Eq.trans (World.drewN_drewN _ _ _) (congrArg (World.drewN _) (Nat.add_assoc _ _ _))⟩)) | ((with_reducible refine gate_dst (N := 84) rfl ?_); refine Kd.R_lit Kd.flt _ 65 ?hg (N := 84) ?hd (xs := ([t234, x16_27] : List Nat)) (inner := [.float .f64 t234, .float .f64 x16_27]) (ok := fun _ => True) (okp := fun _ => True) ?hr ?hp (fun _ hk => hk) trivial (Below.refl _ _) (Nat.le_refl _) (by simp) ?_; (case hd => rfl); (case hg => rfl); (case hr => first | (go_simp; done) | (go_simp; rfl)); (case hp => exact (Reps.one (show Kd.M Kd.flt _ _ _ t234 [.float .f64 t234] from rfl) (Reps.one (show Kd.M Kd.flt _ _ _ x16_27 [.float .f64 x16_27] from rfl) (Reps.none _ _)))); intro v236 w55 ho56 hb hg_ hnew_; clear hg_ hnew_; (first | rw [← Ny235.out] at ho56 | (simp only [Int.reduceToNat] at ho56; rw [← Ny235.out] at ho56)); replace HO_219001 := am_ (Kd.S_below (by (with_reducible repeat (first | apply Kd.S_alloc | apply Kd.S_drewN | apply Kd.S_drew)); exact HO_219001.out) hb); replace HO_225002 := am_ (Kd.R_below (kr_ HO_225002.out) hb); have HO237 := am_ (Kd.R_lower ho56 (below_size (bl_))); replace BK213 := am_ (blk_below (bk_ BK213.out) hb); replace BK218 := am_ (blk_below (bk_ BK218.out) hb); replace BK224 := am_ (blk_below (bk_ BK224.out) hb); replace HB := am_ (below_step (bl_) hb); clear hb ho56; obtain ⟨Ao57, co57, eo57⟩ := Kd.R_slice HO237.out; subst eo57) | (go_at_call 52; (with_reducible refine (frac_And.calls _ _ y235 t238 _ ?side1 ?side2 A49.out).mono ?_); (case side1 => repeat (first | exact (Kd.R_reads' HO237.out).2.2 | (with_reducible refine Kd.C_alloc ?_ _) | (with_reducible refine Kd.C_drewN ?_ _) | (with_reducible refine Kd.C_drew ?_))); (case side2 => exact (Kd.R_reads' HO237.out).2.1); rintro e w' ⟨rfl, ⟨nd, rfl⟩⟩; (try first | exact ⟨rfl, _, World.drewN_drewN _ _ _⟩ | exact ⟨rfl, _, Eq.trans (World.drewN_drewN _ _ _) (congrArg (World.drewN _) (Nat.add_assoc _ _ _))⟩))))
      go_ret
      exact ⟨ew_, bl_⟩
def cost_turned.f (a0 : Int) : Option (Int) := if a0 = 0 then some 0 else if a0 = 1 then some 1 else if a0 = 2 then some 2 else if a0 = 3 then some 5 else if a0 = 4 then some 6 else if a0 = 5 then some 3 else if a0 = 6 then some 4 else none
theorem cost_turned.c0 (w : World) : Calls Try.prog 106 #[.int .i64 0] w fun e w' => e = .returned (.int .i64 0) ∧ Below w.heap.size w w' := by
 go_enter Try.func106, Try.ntmps106
 go_wp2
 go_ret
 exact ⟨rfl, below_alloc (Below.refl _ _) _⟩
theorem cost_turned.c1 (w : World) : Calls Try.prog 106 #[.int .i64 1] w fun e w' => e = .returned (.int .i64 1) ∧ Below w.heap.size w w' := by
 go_enter Try.func106, Try.ntmps106
 go_wp2
 go_ret
 exact ⟨rfl, below_alloc (Below.refl _ _) _⟩
theorem cost_turned.c2 (w : World) : Calls Try.prog 106 #[.int .i64 2] w fun e w' => e = .returned (.int .i64 2) ∧ Below w.heap.size w w' := by
 go_enter Try.func106, Try.ntmps106
 go_wp2
 go_ret
 exact ⟨rfl, below_alloc (Below.refl _ _) _⟩
theorem cost_turned.c3 (w : World) : Calls Try.prog 106 #[.int .i64 3] w fun e w' => e = .returned (.int .i64 5) ∧ Below w.heap.size w w' := by
 go_enter Try.func106, Try.ntmps106
 go_wp2
 go_ret
 exact ⟨rfl, below_alloc (Below.refl _ _) _⟩
theorem cost_turned.c4 (w : World) : Calls Try.prog 106 #[.int .i64 4] w fun e w' => e = .returned (.int .i64 6) ∧ Below w.heap.size w w' := by
 go_enter Try.func106, Try.ntmps106
 go_wp2
 go_ret
 exact ⟨rfl, below_alloc (Below.refl _ _) _⟩
theorem cost_turned.c5 (w : World) : Calls Try.prog 106 #[.int .i64 5] w fun e w' => e = .returned (.int .i64 3) ∧ Below w.heap.size w w' := by
 go_enter Try.func106, Try.ntmps106
 go_wp2
 go_ret
 exact ⟨rfl, below_alloc (Below.refl _ _) _⟩
theorem cost_turned.c6 (w : World) : Calls Try.prog 106 #[.int .i64 6] w fun e w' => e = .returned (.int .i64 4) ∧ Below w.heap.size w w' := by
 go_enter Try.func106, Try.ntmps106
 go_wp2
 go_ret
 exact ⟨rfl, below_alloc (Below.refl _ _) _⟩
theorem cost_turned.calls (a0 : Int) (r : Int) (w : World) (h : cost_turned.f a0 = some r) : Calls Try.prog 106 #[.int .i64 a0] w fun e w' => e = .returned (.int .i64 r) ∧ Below w.heap.size w w' := by
 unfold cost_turned.f at h
 split at h
 ·rename_i c
  subst c; obtain rfl := Option.some.inj h; exact cost_turned.c0 w
 split at h
 ·rename_i c
  subst c; obtain rfl := Option.some.inj h; exact cost_turned.c1 w
 split at h
 ·rename_i c
  subst c; obtain rfl := Option.some.inj h; exact cost_turned.c2 w
 split at h
 ·rename_i c
  subst c; obtain rfl := Option.some.inj h; exact cost_turned.c3 w
 split at h
 ·rename_i c
  subst c; obtain rfl := Option.some.inj h; exact cost_turned.c4 w
 split at h
 ·rename_i c
  subst c; obtain rfl := Option.some.inj h; exact cost_turned.c5 w
 split at h
 ·rename_i c
  subst c; obtain rfl := Option.some.inj h; exact cost_turned.c6 w
 cases h
def cost_unlike.f (k : Nat) (l0 : List (S103)) (a1 : Int) (a2 : Int) : Option (Int) := (cost_stat.f k l0 a1).bind fun bt239 => ((hist_Col.f bt239.1 bt239.2 a2).bind fun bt243 => (some bt243.1))
theorem cost_unlike.mono : ∀ a0 a1 a2 k, LeO (cost_unlike.f k a0 a1 a2) (cost_unlike.f (k + 1) a0 a1 a2) := by
 intro a0 a1 a2 k; unfold cost_unlike.f
 repeat' first
   | (with_reducible exact cost_stat.mono _ _ _)
   | (with_reducible exact LeO.refl _)
   | (with_reducible exact LeO.none _)
   | (with_reducible refine LeO.ite ?_ ?_)
   | (with_reducible refine LeO.bind ?_ (fun _ => ?_))
   | exact cost_stat.mono _ _ _
   | exact LeO.none _
   | refine LeO.ite ?_ ?_
   | refine LeO.bind ?_ (fun _ => ?_)
theorem cost_unlike.calls (k : Nat) (A0 : Option Addr) (c0 : Nat) (l0 : List (S103)) (a1 : Int) (a2 : Int) (r : Int) (w : World) (hr0 : Kd.C k103 w A0 l0.length l0) (hc0 : l0.length ≤ c0) (h : cost_unlike.f k l0 a1 a2 = some r) :
  Calls Try.prog 134 #[.slice A0 l0.length c0, .int .i64 a1, .int .i64 a2] w fun e w' => e = .returned (.int .i64 r) ∧ Below w.heap.size w w' := by
 have hu116 := Try.underlying116
 have hfd116_0 : ∀ (x0_ x1_ x2_ : Value) (W_ : World), (Instr.field 116 (.agg #[x0_, x1_, x2_]) 0).run Try.prog W_ = .ok x0_ W_ := fun _ _ _ _ => by kernel_rfl
 have HR0 := am_ hr0; have HC0 := am_ hc0; clear hr0 hc0; have HB := am_ (Below.refl w.heap.size w); have H : ((cost_stat.f k l0 a1).bind fun bt239 => ((hist_Col.f bt239.1 bt239.2 a2).bind fun bt243 => (some bt243.1))) = some r := h; clear h; replace H := Option.bind_eq_some_iff.mp H; obtain ⟨⟨t239, t240⟩, A40, H⟩ := H; replace H : ((hist_Col.f t239 t240 a2).bind fun bt243 => (some bt243.1)) = some r := H; have A4 := am_ A40; clear A40; replace H := Option.bind_eq_some_iff.mp H; obtain ⟨⟨t243, t244, t245⟩, A50, H⟩ := H; replace H : (some t243) = some r := H; have A5 := am_ A50; clear A50; obtain rfl := Option.some.inj H
 go_enter Try.func134, Try.ntmps134
 go_wp2_with (first | ((with_reducible refine gate_callee (f := 101) rfl ?_); refine goesL_ (some 9) rfl rfl Try.func101 (by kernel_rfl) rfl #[.slice A0 l0.length c0, .int .i64 a1] rfl (by (try simp only [List.map_toArray, List.map_cons, List.map_nil]); first | done | rfl | (simp only [List.length_drop, List.length_take]; rfl)) ?_; (with_reducible refine (cost_stat.calls k _ _ l0 a1 t239 t240 _ ?side1 ?side2 A4.out).mono ?_); (case side1 => repeat (first | exact HR0.out | (with_reducible refine Kd.C_alloc ?_ _) | (with_reducible refine Kd.C_drewN ?_ _) | (with_reducible refine Kd.C_drew ?_))); (case side2 => exact HC0.out); rintro e w6 ⟨v241, rfl, ho0, hb⟩; refine ⟨_, rfl, ?_⟩; have HO242 := am_ (Kd.S_lower ho0 (below_size (bl_))); replace HB := am_ (below_step (bl_) hb); (try clear hb); (try clear hb2); (try clear hk); (try clear hi); (try clear ho0); obtain ⟨Ao7, co7, eo7⟩ := Kd.S_slice HO242.out; subst eo7) | ((with_reducible refine gate_callee (f := 103) rfl ?_); refine goesL_ (some 11) rfl rfl Try.func103 (by kernel_rfl) rfl #[.agg #[.int .i64 t239, .slice Ao7 t240.length co7], .int .i64 a2] rfl (by (try simp only [List.map_toArray, List.map_cons, List.map_nil]); first | done | rfl | (simp only [List.length_drop, List.length_take]; rfl)) ?_; (with_reducible refine (hist_Col.calls t239 _ _ t240 a2 t243 t244 t245 _ ?side1 ?side2 A5.out).mono ?_); (case side1 => repeat (first | exact (Kd.S_reads' HO242.out).2.2 | (with_reducible refine Kd.C_alloc ?_ _) | (with_reducible refine Kd.C_drewN ?_ _) | (with_reducible refine Kd.C_drew ?_))); (case side2 => exact (Kd.S_reads' HO242.out).2.1); rintro e w8 ⟨v246, rfl, ho0, hb⟩; refine ⟨_, rfl, ?_⟩; replace HO242 := am_ (Kd.S_elder' (by (with_reducible repeat (first | apply Kd.S_alloc | apply Kd.S_drewN | apply Kd.S_drew)); exact HO242.out) (Kd.R_base ho0) hb); have HO247 := am_ (Kd.R_lower ho0 (below_size (bl_))); replace HB := am_ (below_step (bl_) hb); (try clear hb); (try clear hb2); (try clear hk); (try clear hi); (try clear ho0)))
 go_ret
 exact ⟨ew_, bl_⟩
def cost_same.f (k : Nat) (l0 : List (S103)) (a1_0 : Int) (a1_1 : Int) (a1_2 : Int) (a1_3 : Int) : Option (Nat) := (cost_unlike.f k l0 a1_0 a1_1).bind fun t249 => ((cost_unlike.f k l0 a1_2 a1_3).bind fun t250 => ((frac_Of.f 1 (mx t249 t250)).bind fun t251 => (some t251)))
theorem cost_same.mono : ∀ a0 a1 a2 a3 a4 k, LeO (cost_same.f k a0 a1 a2 a3 a4) (cost_same.f (k + 1) a0 a1 a2 a3 a4) := by
 intro a0 a1 a2 a3 a4 k; unfold cost_same.f
 repeat' first
   | (with_reducible exact cost_unlike.mono _ _ _ _)
   | (with_reducible exact LeO.refl _)
   | (with_reducible exact LeO.none _)
   | (with_reducible refine LeO.ite ?_ ?_)
   | (with_reducible refine LeO.bind ?_ (fun _ => ?_))
   | exact cost_unlike.mono _ _ _ _
   | exact LeO.none _
   | refine LeO.ite ?_ ?_
   | refine LeO.bind ?_ (fun _ => ?_)
def cost_same.T1 : Bool × List (List Nat × List Nat) := (true, [([], []), ([], []), ([1], [1]), ([], []), ([3], [3]), ([0, 2, 4], [0, 2, 4]), ([], []), ([], []), ([7], [7]), ([], []), ([9], [9]), ([6, 8, 10, 5], [6, 8, 10]), ([5, 11], [5, 11]), ([12, 11], [12]), ([13, 13, 0, 1, 2, 3, 4, 5, 6, 7, 8, 9, 10, 11, 12, 13], [13])])
def cost_same.B1 : List Nat := [0, 0, 2, 0, 8, 31, 0, 0, 128, 0, 512, 2047, 4095, 8191, 16383]
theorem cost_same.tab1 : rtab .any (opsOf Try.f107 1) = cost_same.T1 := by kernel_rfl
theorem cost_same.bits1 : waitsOk cost_same.T1.2 cost_same.B1 = true := by kernel_rfl
theorem cost_same.calls (k : Nat) (A0 : Option Addr) (c0 : Nat) (l0 : List (S103)) (a1_0 : Int) (a1_1 : Int) (a1_2 : Int) (a1_3 : Int) (r : Nat) (w : World) (hr0 : Kd.C k103 w A0 l0.length l0) (hc0 : l0.length ≤ c0) (h : cost_same.f k l0 a1_0 a1_1 a1_2 a1_3 = some r) :
  Calls Try.prog 107 #[.slice A0 l0.length c0, .agg #[.int .i64 a1_0, .int .i64 a1_1, .int .i64 a1_2, .int .i64 a1_3]] w fun e w' => e = .returned (.float .f64 r) ∧ Below w.heap.size w w' := by
 have hu76 := Try.underlying76; have HR0 := am_ hr0; have HC0 := am_ hc0; clear hr0 hc0; have HB := am_ (Below.refl w.heap.size w); have H : ((cost_unlike.f k l0 a1_0 a1_1).bind fun t249 => ((cost_unlike.f k l0 a1_2 a1_3).bind fun t250 => ((frac_Of.f 1 (mx t249 t250)).bind fun t251 => (some t251)))) = some r := h; clear h; replace H := Option.bind_eq_some_iff.mp H; obtain ⟨t249, A30, H⟩ := H; replace H : ((cost_unlike.f k l0 a1_2 a1_3).bind fun t250 => ((frac_Of.f 1 (mx t249 t250)).bind fun t251 => (some t251))) = some r := H; have A3 := am_ A30; clear A30; replace H := Option.bind_eq_some_iff.mp H; obtain ⟨t250, A40, H⟩ := H; replace H : ((frac_Of.f 1 (mx t249 t250)).bind fun t251 => (some t251)) = some r := H; have A4 := am_ A40; clear A40
 obtain ⟨ji5, hji5⟩ : ∃ j_ : Int, (mx t249 t250) = j_ := ⟨_, rfl⟩
 replace H : ((frac_Of.f 1 (ji5)).bind fun t251 => (some t251)) = some r := by first | (rw [hji5] at H; exact H) | (simp only [hji5] at H ⊢; exact H)
 (try rw [hji5] at A3); (try rw [hji5] at A4); have hji5_ : (if t249 < t250 then t250 else t249) = ji5 := hji5; replace H := Option.bind_eq_some_iff.mp H; obtain ⟨t251, A60, H⟩ := H; replace H : (some t251) = some r := H; have A6 := am_ A60; clear A60; obtain rfl := Option.some.inj H
 go_enter Try.func107, Try.ntmps107
 try go_wp2_with (first | ((with_reducible refine gate_dst (N := 3) rfl ?_); refine box_event ?hg (N := 3) ?hd (cs := #[.int .i64 a1_0, .int .i64 a1_1, .int .i64 a1_2, .int .i64 a1_3]) (t := 76) ?hr ?_; (case hd => rfl); (case hg => rfl); (case hr => first | (go_simp; done) | (go_simp; rfl)); intro gb248 hg w7 hbox hb; have BK248 := am_ (hbox); have GW248 := am_ ((by rw [hg]; exact (below_size (bl_)) : w.heap.size ≤ gb248)); have GE248 := am_ ((by rw [hg]; exact (below_size (bl_)) : w.heap.size ≤ gb248)); replace HB := am_ (below_step (bl_) hb); clear hb hbox hg))
 have n0_ := am_ (blk_drew BK248.out); have n1_ := am_ (below_drew1 HB.out); clear BK248; clear HB; have BK248 := n0_; have HB := n1_; clear n0_ n1_
 refine start_ (n := 15) (S := fun w' => w'.cell? ⟨gb248, 0, none⟩ = some (.int .i64 a1_0) ∧ w'.cell? ⟨gb248, 1, none⟩ = some (.int .i64 a1_1) ∧ w'.cell? ⟨gb248, 2, none⟩ = some (.int .i64 a1_2) ∧ w'.cell? ⟨gb248, 3, none⟩ = some (.int .i64 a1_3)) (ds := []) #[false, false, false, false, false, false, false, false, false, false, false, false, false, false, false] (by kernel_rfl) rfl rfl ⟨bc_ BK248.out 0, bc_ BK248.out 1, bc_ BK248.out 2, bc_ BK248.out 3⟩ (fun hHeld => ?_); refine with_tabW cost_same.tab1 cost_same.bits1 (fun HT_ HW_ => ?_)
 generalize w7.drew = w8 at BK248 HB hHeld ⊢
 refine pure_ (i := 0) (N := some 5) (v := ?_) (a' := ?_) #[true, false, false, false, false, false, false, false, false, false, false, false, false, false, false] rfl rfl (any_of HT_.out (by kernel_rfl)) (fun _ _ _ h => h) (Or.inl ⟨by rfl, ?_⟩) ?_ ?_; rotate_left
 ·intro w'
  go_simp; (with_reducible rfl)
 rotate_left
 ·simp only [Act.put, sa_, sz_, ss_, i64_w, i32_w]
  rfl
 refine pure_ (i := 1) (N := some 6) (v := ?_) (a' := ?_) #[true, true, false, false, false, false, false, false, false, false, false, false, false, false, false] rfl rfl (any_of HT_.out (by kernel_rfl)) (fun _ _ _ h => h) (Or.inl ⟨by rfl, ?_⟩) ?_ ?_; rotate_left
 ·intro w'
  go_simp; (with_reducible rfl)
 rotate_left
 ·simp only [Act.put, sa_, sz_, ss_, i64_w, i32_w]
  rfl
 refine pure_ (i := 3) (N := some 8) (v := ?_) (a' := ?_) #[true, true, false, true, false, false, false, false, false, false, false, false, false, false, false] rfl rfl (any_of HT_.out (by kernel_rfl)) (fun _ _ _ h => h) (Or.inl ⟨by rfl, ?_⟩) ?_ ?_; rotate_left
 ·intro w'
  go_simp; (with_reducible rfl)
 rotate_left
 ·simp only [Act.put, sa_, sz_, ss_, i64_w, i32_w]
  rfl
 refine pure_ (i := 6) (N := some 11) (v := ?_) (a' := ?_) #[true, true, false, true, false, false, true, false, false, false, false, false, false, false, false] rfl rfl (any_of HT_.out (by kernel_rfl)) (fun _ _ _ h => h) (Or.inl ⟨by rfl, ?_⟩) ?_ ?_; rotate_left
 ·intro w'
  go_simp; (with_reducible rfl)
 rotate_left
 ·simp only [Act.put, sa_, sz_, ss_, i64_w, i32_w]
  rfl
 refine pure_ (i := 7) (N := some 12) (v := ?_) (a' := ?_) #[true, true, false, true, false, false, true, true, false, false, false, false, false, false, false] rfl rfl (any_of HT_.out (by kernel_rfl)) (fun _ _ _ h => h) (Or.inl ⟨by rfl, ?_⟩) ?_ ?_; rotate_left
 ·intro w'
  go_simp; (with_reducible rfl)
 rotate_left
 ·simp only [Act.put, sa_, sz_, ss_, i64_w, i32_w]
  rfl
 refine pure_ (i := 9) (N := some 14) (v := ?_) (a' := ?_) #[true, true, false, true, false, false, true, true, false, true, false, false, false, false, false] rfl rfl (any_of HT_.out (by kernel_rfl)) (fun _ _ _ h => h) (Or.inl ⟨by rfl, ?_⟩) ?_ ?_; rotate_left
 ·intro w'
  go_simp; (with_reducible rfl)
 rotate_left
 ·simp only [Act.put, sa_, sz_, ss_, i64_w, i32_w]
  rfl
 refine take_ (i := 2) (N := some 7) (v := ?_) (a' := ?_) #[true, true, true, true, false, false, true, true, false, true, false, false, false, false, false] rfl rfl (take_ofW HT_.out HW_.out (by kernel_rfl)) (fun _ _ _ h => h) (Or.inl ⟨by rfl, ?_⟩) hHeld ?_ ?_; rotate_left
 ·rintro w' ⟨s0, s1, s2, s3⟩
  go_simp; (with_reducible rfl)
 rotate_left
 ·simp only [Act.put, sa_, sz_, ss_, i64_w, i32_w]
  rfl
 refine take_ (i := 4) (N := some 9) (v := ?_) (a' := ?_) #[true, true, true, true, true, false, true, true, false, true, false, false, false, false, false] rfl rfl (take_ofW HT_.out HW_.out (by kernel_rfl)) (fun _ _ _ h => h) (Or.inl ⟨by rfl, ?_⟩) hHeld ?_ ?_; rotate_left
 ·rintro w' ⟨s0, s1, s2, s3⟩
  go_simp; (with_reducible rfl)
 rotate_left
 ·simp only [Act.put, sa_, sz_, ss_, i64_w, i32_w]
  rfl
 refine take_ (i := 8) (N := some 13) (v := ?_) (a' := ?_) #[true, true, true, true, true, false, true, true, true, true, false, false, false, false, false] rfl rfl (take_ofW HT_.out HW_.out (by kernel_rfl)) (fun _ _ _ h => h) (Or.inl ⟨by rfl, ?_⟩) hHeld ?_ ?_; rotate_left
 ·rintro w' ⟨s0, s1, s2, s3⟩
  go_simp; (with_reducible rfl)
 rotate_left
 ·simp only [Act.put, sa_, sz_, ss_, i64_w, i32_w]
  rfl
 refine take_ (i := 10) (N := some 15) (v := ?_) (a' := ?_) #[true, true, true, true, true, false, true, true, true, true, true, false, false, false, false] rfl rfl (take_ofW HT_.out HW_.out (by kernel_rfl)) (fun _ _ _ h => h) (Or.inl ⟨by rfl, ?_⟩) hHeld ?_ ?_; rotate_left
 ·rintro w' ⟨s0, s1, s2, s3⟩
  go_simp; (with_reducible rfl)
 rotate_left
 ·simp only [Act.put, sa_, sz_, ss_, i64_w, i32_w]
  rfl
 refine one_ (i := 5) (N := some 10) #[true, true, true, true, true, true, true, true, true, true, true, false, false, false, false] rfl rfl (one_of HT_.out (by kernel_rfl)) (by decide) (fun K hK => ?_); refine goes_ Try.func134 (by kernel_rfl) rfl #[.slice A0 l0.length c0, .int .i64 a1_0, .int .i64 a1_1] (by rfl) rfl rfl (by (try simp only [List.map_toArray, List.map_cons, List.map_nil]); first | done | rfl | (simp only [List.length_drop, List.length_take]; rfl)) ?_; (with_reducible refine (cost_unlike.calls k _ _ l0 a1_0 a1_1 t249 _ ?side1 ?side2 A3.out).mono ?_); (case side1 => repeat (first | exact (Kd.C_below HR0.out HB.out) | (with_reducible refine Kd.C_alloc ?_ _) | (with_reducible refine Kd.C_drewN ?_ _) | (with_reducible refine Kd.C_drew ?_))); (case side2 => exact HC0.out); rintro e w9 ⟨rfl, hb⟩; refine ⟨_, rfl, ?_⟩; have n0_ := am_ (blk_below (bk_ BK248.out) hb); have n1_ := am_ (below_step (bl_) hb); clear BK248; clear HB; have BK248 := n0_; have HB := n1_; clear n0_ n1_; (try clear hb); (try clear hb2); (try clear hk); (try clear hi); refine hK.out _ _ ⟨bc_ BK248.out 0, bc_ BK248.out 1, bc_ BK248.out 2, bc_ BK248.out 3⟩ (fun hHeld => ?_); clear hK K; refine norm_ (a' := ?_) ?_ ?_; rotate_left
 ·show Act.put _ (some 10) _ = _
  simp only [Act.put, sa_, sz_, ss_, i64_w, i32_w]; rfl
 refine one_ (i := 11) (N := some 16) #[true, true, true, true, true, true, true, true, true, true, true, true, false, false, false] rfl rfl (one_of HT_.out (by kernel_rfl)) (by decide) (fun K hK => ?_); refine goes_ Try.func134 (by kernel_rfl) rfl #[.slice A0 l0.length c0, .int .i64 a1_2, .int .i64 a1_3] (by rfl) rfl rfl (by (try simp only [List.map_toArray, List.map_cons, List.map_nil]); first | done | rfl | (simp only [List.length_drop, List.length_take]; rfl)) ?_; (with_reducible refine (cost_unlike.calls k _ _ l0 a1_2 a1_3 t250 _ ?side1 ?side2 A4.out).mono ?_); (case side1 => repeat (first | exact (Kd.C_below HR0.out HB.out) | (with_reducible refine Kd.C_alloc ?_ _) | (with_reducible refine Kd.C_drewN ?_ _) | (with_reducible refine Kd.C_drew ?_))); (case side2 => exact HC0.out); rintro e w10 ⟨rfl, hb⟩; refine ⟨_, rfl, ?_⟩; have n0_ := am_ (blk_below (bk_ BK248.out) hb); have n1_ := am_ (below_step (bl_) hb); clear BK248; clear HB; have BK248 := n0_; have HB := n1_; clear n0_ n1_; (try clear hb); (try clear hb2); (try clear hk); (try clear hi); refine hK.out _ _ ⟨bc_ BK248.out 0, bc_ BK248.out 1, bc_ BK248.out 2, bc_ BK248.out 3⟩ (fun hHeld => ?_); clear hK K; refine norm_ (a' := ?_) ?_ ?_; rotate_left
 ·show Act.put _ (some 16) _ = _
  simp only [Act.put, sa_, sz_, ss_, i64_w, i32_w]; rfl
 refine pure_ (i := 12) (N := some 17) (v := ?_) (a' := ?_) #[true, true, true, true, true, true, true, true, true, true, true, true, true, false, false] rfl rfl (any_of HT_.out (by kernel_rfl)) (fun _ _ _ h => h) (Or.inl ⟨by rfl, ?_⟩) ?_ ?_; rotate_left
 ·intro w'
  go_simp; (with_reducible rfl)
 rotate_left
 ·simp only [Act.put, sa_, sz_, ss_, i64_w, i32_w]
  rfl
 refine one_ (i := 13) (N := some 18) #[true, true, true, true, true, true, true, true, true, true, true, true, true, true, false] rfl rfl (one_of HT_.out (by kernel_rfl)) (by decide) (fun K hK => ?_); refine goes_ Try.func102 (by kernel_rfl) rfl #[.int .i64 1, .int .i64 ji5] (by rfl) rfl rfl (by (try simp only [List.map_toArray, List.map_cons, List.map_nil]); first | done | (simp only [hji5]; rfl) | rfl | (simp only [List.length_drop, List.length_take]; rfl)) ?_; (with_reducible refine (frac_Of.calls 1 ji5 t251 _ A6.out).mono ?_); rintro e w' ⟨rfl, ⟨nd, rfl⟩⟩; refine ⟨_, rfl, ?_⟩; refine hK.out _ _ ⟨bc_ BK248.out 0, bc_ BK248.out 1, bc_ BK248.out 2, bc_ BK248.out 3⟩ (fun hHeld => ?_); clear hK K; refine norm_ (a' := ?_) ?_ ?_; rotate_left
 ·show Act.put _ (some 18) _ = _
  simp only [Act.put, sa_, sz_, ss_, i64_w, i32_w]; rfl
 refine pure_ (i := 14) (N := some 4) (v := ?_) (a' := ?_) #[true, true, true, true, true, true, true, true, true, true, true, true, true, true, true] rfl rfl (any_of HT_.out (by kernel_rfl)) (fun _ _ _ h => h) (Or.inl ⟨by rfl, ?_⟩) ?_ ?_; rotate_left
 ·intro w'
  go_simp; (with_reducible rfl)
 rotate_left
 ·simp only [Act.put, sa_, sz_, ss_, i64_w, i32_w]
  rfl
 refine done_ (done_of HT_.out (by kernel_rfl)) ?_
 try go_wp2
 go_ret
 exact ⟨by first | rfl | (simp [errW_none, errW_some] <;> rfl) | (simp only [← hji5]; first | rfl | (simp [errW_none, errW_some] <;> rfl)) | (simp [*, errW_none, errW_some] <;> rfl), bl_⟩
end Go.Proofs.Ytcfgjaggccnoaaa.PCostShares
namespace Go.Proofs.Ytcfgjaggccnoaaa.PCostShares
open Go.RowKit Go.Proofs.YtcfgjaggccnoaaaW.PrintWords Go.Proofs.YtcfgjaggccnoaaaW.PrintLast Go.Proofs.YtcfgjaggccnoaaaW.PrintMore
attribute [local go_sem] max2_int min2_int max_two min_two max_three min_three max_four min_four
set_option linter.unusedVariables false
set_option maxHeartbeats 8000000
set_option linter.unusedSimpArgs false
set_option maxRecDepth 100000
def cost_test_1.f (a0_0 : Int) (a0_1 : ByteArray) (a0_2 : ByteArray) (a0_3 : Int) (a0_4 : Int) (a0_5 : Int) (a0_6 : Int) (a0_7 : ByteArray) (l0_8 : List (S27)) : Option (Bool) := if a0_0 = 16 then (some (a0_5 == 1)) else (some false)
theorem cost_test_1.calls (a0_0 : Int) (a0_1 : ByteArray) (a0_2 : ByteArray) (a0_3 : Int) (a0_4 : Int) (a0_5 : Int) (a0_6 : Int) (a0_7 : ByteArray) (A0_8 : Option Addr) (c0_8 : Nat) (l0_8 : List (S27)) (r : Bool) (w : World) (hr0_8 : Kd.C k27 w A0_8 l0_8.length l0_8) (hc0_8 : l0_8.length ≤ c0_8) (h : cost_test_1.f a0_0 a0_1 a0_2 a0_3 a0_4 a0_5 a0_6 a0_7 l0_8 = some r) :
  Calls Try.prog 104 #[.agg #[.int .i64 a0_0, .string a0_1, .string a0_2, .int .i64 a0_3, .int .i64 a0_4, .int .i64 a0_5, .int .i64 a0_6, .string a0_7, .slice A0_8 l0_8.length c0_8]] w fun e w' => e = .returned (.bool r) ∧ Below w.heap.size w w' := by
 have hu27 := Try.underlying27; have HR0_8 := am_ hr0_8; have HC0_8 := am_ hc0_8; clear hr0_8 hc0_8; have HB := am_ (Below.refl w.heap.size w); have H : (if a0_0 = 16 then (some (a0_5 == 1)) else (some false)) = some r := h; clear h
 by_cases c2 : a0_0 = 16
 ·rw [if_pos c2] at H
  have c2b0 : (a0_0 == 16) = true := beq_iff_eq.mpr c2; have c2b1 : (a0_0 != 16) = false := bne_eq_false_iff_eq.mpr c2; clear c2; obtain rfl := Option.some.inj H
  go_enter Try.func104, Try.ntmps104
  go_wp2_with (first | ((with_reducible refine gate_dst (N := 1) rfl ?_); refine box_event ?hg (N := 1) ?hd (cs := #[.int .i64 a0_0, .string a0_1, .string a0_2, .int .i64 a0_3, .int .i64 a0_4, .int .i64 a0_5, .int .i64 a0_6, .string a0_7, .slice A0_8 l0_8.length c0_8]) (t := 27) ?hr ?_; (case hd => rfl); (case hg => rfl); (case hr => first | (go_simp; done) | (go_simp; rfl)); intro gb252 hg w3 hbox hb; have BK252 := am_ (hbox); have GW252 := am_ ((by rw [hg]; exact (below_size (bl_)) : w.heap.size ≤ gb252)); have GE252 := am_ ((by rw [hg]; exact (below_size (bl_)) : w.heap.size ≤ gb252)); replace HB := am_ (below_step (bl_) hb); clear hb hbox hg; obtain ⟨hcz4_0, hcz4_1, hcz4_2, hcz4_3, hcz4_4, hcz4_5, hcz4_6, hcz4_7, hcz4_8, hfz4_0, hfz4_1, hfz4_2, hfz4_3, hfz4_4, hfz4_5, hfz4_6, hfz4_7, hfz4_8⟩ := bw9_ BK252.out))
  go_ret
  exact ⟨ew_, bl_⟩
 ·rw [if_neg c2] at H
  have c2b0 : (a0_0 == 16) = false := beq_eq_false_iff_ne.mpr c2; have c2b1 : (a0_0 != 16) = true := bne_iff_ne.mpr c2; obtain rfl := Option.some.inj H
  go_enter Try.func104, Try.ntmps104
  go_wp2_with (first | ((with_reducible refine gate_dst (N := 1) rfl ?_); refine box_event ?hg (N := 1) ?hd (cs := #[.int .i64 a0_0, .string a0_1, .string a0_2, .int .i64 a0_3, .int .i64 a0_4, .int .i64 a0_5, .int .i64 a0_6, .string a0_7, .slice A0_8 l0_8.length c0_8]) (t := 27) ?hr ?_; (case hd => rfl); (case hg => rfl); (case hr => first | (go_simp; done) | (go_simp; rfl)); intro gb252 hg w5 hbox hb; have BK252 := am_ (hbox); have GW252 := am_ ((by rw [hg]; exact (below_size (bl_)) : w.heap.size ≤ gb252)); have GE252 := am_ ((by rw [hg]; exact (below_size (bl_)) : w.heap.size ≤ gb252)); replace HB := am_ (below_step (bl_) hb); clear hb hbox hg; obtain ⟨hcz6_0, hcz6_1, hcz6_2, hcz6_3, hcz6_4, hcz6_5, hcz6_6, hcz6_7, hcz6_8, hfz6_0, hfz6_1, hfz6_2, hfz6_3, hfz6_4, hfz6_5, hfz6_6, hfz6_7, hfz6_8⟩ := bw9_ BK252.out))
  go_ret
  exact ⟨ew_, bl_⟩
end Go.Proofs.Ytcfgjaggccnoaaa.PCostShares
namespace Go.Proofs.Ytcfgjaggccnoaaa.PCostShares
open Go.RowKit Go.Proofs.YtcfgjaggccnoaaaW.PrintWords Go.Proofs.YtcfgjaggccnoaaaW.PrintLast Go.Proofs.YtcfgjaggccnoaaaW.PrintMore
attribute [local go_sem] max2_int min2_int max_two min_two max_three min_three max_four min_four
set_option linter.unusedVariables false
set_option maxHeartbeats 8000000
set_option linter.unusedSimpArgs false
set_option maxRecDepth 100000
mutual
def cost_test.j0 : Nat → Int → List (S103) → Bool → Int → ByteArray → ByteArray → Int → Int → Int → Int → ByteArray → List (S27) → Int → ByteArray → ByteArray → Int → Int → Int → Int → ByteArray → List (S27) → Option (Nat)
 | 0, _, _, _, _, _, _, _, _, _, _, _, _, _, _, _, _, _, _, _, _, _ => none
 | k + 1, x0, x3, x10, x254000, x254001, x254002, x254003, x254004, x254005, x254006, x254007, x254008, x255000, x255001, x255002, x255003, x255004, x255005, x255006, x255007, x255008 => if x10 = true then ((cost_against.f k x0 x254000 x254001 x254002 x254003 x254004 x254005 x254006 x254007 x254008 x255006 x3).bind fun t256 => (some t256)) else (if x255000 = 15 then ((cost_test_1.f x254000 x254001 x254002 x254003 x254004 x254005 x254006 x254007 x254008).bind fun t257 => (cost_test.j1 k x0 x3 t257 x254000 x254001 x254002 x254003 x254004 x254005 x254006 x254007 x254008 x255000 x255001 x255002 x255003 x255004 x255005 x255006 x255007 x255008)) else (cost_test.j1 k x0 x3 false x254000 x254001 x254002 x254003 x254004 x254005 x254006 x254007 x254008 x255000 x255001 x255002 x255003 x255004 x255005 x255006 x255007 x255008))
def cost_test.j1 : Nat → Int → List (S103) → Bool → Int → ByteArray → ByteArray → Int → Int → Int → Int → ByteArray → List (S27) → Int → ByteArray → ByteArray → Int → Int → Int → Int → ByteArray → List (S27) → Option (Nat)
 | 0, _, _, _, _, _, _, _, _, _, _, _, _, _, _, _, _, _, _, _, _, _ => none
 | k + 1, x0, x3, x26, x254000, x254001, x254002, x254003, x254004, x254005, x254006, x254007, x254008, x255000, x255001, x255002, x255003, x255004, x255005, x255006, x255007, x255008 => if x26 = true then ((cost_turned.f x0).bind fun t258 => ((cost_against.f k t258 x255000 x255001 x255002 x255003 x255004 x255005 x255006 x255007 x255008 x254006 x3).bind fun t259 => (some t259))) else (if x0 = 1 then (if x254000 = 15 then (if x255000 = 15 then ((cost_same.f k x3 x254003 x254004 x255003 x255004).bind fun t260 => (some t260)) else (some 4602678819172646912)) else (some 4602678819172646912)) else (some 4602678819172646912))
end
def cost_test.f (k : Nat) (a0 : Int) (a1_0 : Int) (a1_1 : ByteArray) (a1_2 : ByteArray) (a1_3 : Int) (a1_4 : Int) (a1_5 : Int) (a1_6 : Int) (a1_7 : ByteArray) (l1_8 : List (S27)) (a2_0 : Int) (a2_1 : ByteArray) (a2_2 : ByteArray) (a2_3 : Int) (a2_4 : Int) (a2_5 : Int) (a2_6 : Int) (a2_7 : ByteArray) (l2_8 : List (S27)) (l3 : List (S103)) : Option (Nat) := if a1_0 = 15 then ((cost_test_1.f a2_0 a2_1 a2_2 a2_3 a2_4 a2_5 a2_6 a2_7 l2_8).bind fun t255 => (cost_test.j0 k a0 l3 t255 a1_0 a1_1 a1_2 a1_3 a1_4 a1_5 a1_6 a1_7 l1_8 a2_0 a2_1 a2_2 a2_3 a2_4 a2_5 a2_6 a2_7 l2_8)) else (cost_test.j0 k a0 l3 false a1_0 a1_1 a1_2 a1_3 a1_4 a1_5 a1_6 a1_7 l1_8 a2_0 a2_1 a2_2 a2_3 a2_4 a2_5 a2_6 a2_7 l2_8)
theorem cost_test.mono_l : ∀ k, (∀ y0 y1 y2 y3 y4 y5 y6 y7 y8 y9 y10 y11 y12 y13 y14 y15 y16 y17 y18 y19 y20, LeO (cost_test.j0 k y0 y1 y2 y3 y4 y5 y6 y7 y8 y9 y10 y11 y12 y13 y14 y15 y16 y17 y18 y19 y20) (cost_test.j0 (k + 1) y0 y1 y2 y3 y4 y5 y6 y7 y8 y9 y10 y11 y12 y13 y14 y15 y16 y17 y18 y19 y20)) ∧ (∀ y0 y1 y2 y3 y4 y5 y6 y7 y8 y9 y10 y11 y12 y13 y14 y15 y16 y17 y18 y19 y20, LeO (cost_test.j1 k y0 y1 y2 y3 y4 y5 y6 y7 y8 y9 y10 y11 y12 y13 y14 y15 y16 y17 y18 y19 y20) (cost_test.j1 (k + 1) y0 y1 y2 y3 y4 y5 y6 y7 y8 y9 y10 y11 y12 y13 y14 y15 y16 y17 y18 y19 y20))
 | 0 => ⟨fun _ _ _ _ _ _ _ _ _ _ _ _ _ _ _ _ _ _ _ _ _ r h => by simp [cost_test.j0] at h, fun _ _ _ _ _ _ _ _ _ _ _ _ _ _ _ _ _ _ _ _ _ r h => by simp [cost_test.j1] at h⟩
 | k + 1 => by
  obtain ⟨ih0, ih1⟩ := cost_test.mono_l k; refine ⟨?_, ?_⟩
  ·intro y0 y1 y2 y3 y4 y5 y6 y7 y8 y9 y10 y11 y12 y13 y14 y15 y16 y17 y18 y19 y20
   unfold cost_test.j0
   repeat' first
   | (with_reducible exact ih0 _ _ _ _ _ _ _ _ _ _ _ _ _ _ _ _ _ _ _ _ _)
   | (with_reducible exact ih1 _ _ _ _ _ _ _ _ _ _ _ _ _ _ _ _ _ _ _ _ _)
   | (with_reducible exact cost_against.mono _ _ _ _ _ _ _ _ _ _ _ _ _)
   | (with_reducible exact cost_same.mono _ _ _ _ _ _)
   | (with_reducible exact LeO.refl _)
   | (with_reducible exact LeO.none _)
   | (with_reducible refine LeO.ite ?_ ?_)
   | (with_reducible refine LeO.bind ?_ (fun _ => ?_))
   | exact ih0 _ _ _ _ _ _ _ _ _ _ _ _ _ _ _ _ _ _ _ _ _
   | exact ih1 _ _ _ _ _ _ _ _ _ _ _ _ _ _ _ _ _ _ _ _ _
   | exact cost_against.mono _ _ _ _ _ _ _ _ _ _ _ _ _
   | exact cost_same.mono _ _ _ _ _ _
   | exact LeO.none _
   | refine LeO.ite ?_ ?_
   | refine LeO.bind ?_ (fun _ => ?_)
  ·intro y0 y1 y2 y3 y4 y5 y6 y7 y8 y9 y10 y11 y12 y13 y14 y15 y16 y17 y18 y19 y20
   unfold cost_test.j1
   repeat' first
   | (with_reducible exact ih0 _ _ _ _ _ _ _ _ _ _ _ _ _ _ _ _ _ _ _ _ _)
   | (with_reducible exact ih1 _ _ _ _ _ _ _ _ _ _ _ _ _ _ _ _ _ _ _ _ _)
   | (with_reducible exact cost_against.mono _ _ _ _ _ _ _ _ _ _ _ _ _)
   | (with_reducible exact cost_same.mono _ _ _ _ _ _)
   | (with_reducible exact LeO.refl _)
   | (with_reducible exact LeO.none _)
   | (with_reducible refine LeO.ite ?_ ?_)
   | (with_reducible refine LeO.bind ?_ (fun _ => ?_))
   | exact ih0 _ _ _ _ _ _ _ _ _ _ _ _ _ _ _ _ _ _ _ _ _
   | exact ih1 _ _ _ _ _ _ _ _ _ _ _ _ _ _ _ _ _ _ _ _ _
   | exact cost_against.mono _ _ _ _ _ _ _ _ _ _ _ _ _
   | exact cost_same.mono _ _ _ _ _ _
   | exact LeO.none _
   | refine LeO.ite ?_ ?_
   | refine LeO.bind ?_ (fun _ => ?_)
theorem cost_test.mono : ∀ a0 a1 a2 a3 a4 a5 a6 a7 a8 a9 a10 a11 a12 a13 a14 a15 a16 a17 a18 a19 k, LeO (cost_test.f k a0 a1 a2 a3 a4 a5 a6 a7 a8 a9 a10 a11 a12 a13 a14 a15 a16 a17 a18 a19) (cost_test.f (k + 1) a0 a1 a2 a3 a4 a5 a6 a7 a8 a9 a10 a11 a12 a13 a14 a15 a16 a17 a18 a19) := by
 intro a0 a1 a2 a3 a4 a5 a6 a7 a8 a9 a10 a11 a12 a13 a14 a15 a16 a17 a18 a19 k; obtain ⟨ih0, ih1⟩ := cost_test.mono_l k; unfold cost_test.f
 repeat' first
   | (with_reducible exact ih0 _ _ _ _ _ _ _ _ _ _ _ _ _ _ _ _ _ _ _ _ _)
   | (with_reducible exact ih1 _ _ _ _ _ _ _ _ _ _ _ _ _ _ _ _ _ _ _ _ _)
   | (with_reducible exact cost_against.mono _ _ _ _ _ _ _ _ _ _ _ _ _)
   | (with_reducible exact cost_same.mono _ _ _ _ _ _)
   | (with_reducible exact LeO.refl _)
   | (with_reducible exact LeO.none _)
   | (with_reducible refine LeO.ite ?_ ?_)
   | (with_reducible refine LeO.bind ?_ (fun _ => ?_))
   | exact ih0 _ _ _ _ _ _ _ _ _ _ _ _ _ _ _ _ _ _ _ _ _
   | exact ih1 _ _ _ _ _ _ _ _ _ _ _ _ _ _ _ _ _ _ _ _ _
   | exact cost_against.mono _ _ _ _ _ _ _ _ _ _ _ _ _
   | exact cost_same.mono _ _ _ _ _ _
   | exact LeO.none _
   | refine LeO.ite ?_ ?_
   | refine LeO.bind ?_ (fun _ => ?_)
def cost_test.T5 : Bool × List (List Nat × List Nat) := (true, [([], []), ([0], [0]), ([], []), ([], []), ([3], [3]), ([4], [4]), ([], []), ([1, 2, 5, 6, 1], [1, 2, 5, 6]), ([7, 7, 0, 1, 2, 3, 4, 5, 6, 7], [7])])
def cost_test.B5 : List Nat := [0, 1, 0, 0, 8, 24, 0, 127, 255]
theorem cost_test.tab5 : rtab .any (opsOf Try.f56 5) = cost_test.T5 := by kernel_rfl
theorem cost_test.bits5 : waitsOk cost_test.T5.2 cost_test.B5 = true := by kernel_rfl
theorem cost_test.calls (k : Nat) (a0 : Int) (a1_0 : Int) (a1_1 : ByteArray) (a1_2 : ByteArray) (a1_3 : Int) (a1_4 : Int) (a1_5 : Int) (a1_6 : Int) (a1_7 : ByteArray) (A1_8 : Option Addr) (c1_8 : Nat) (l1_8 : List (S27)) (a2_0 : Int) (a2_1 : ByteArray) (a2_2 : ByteArray) (a2_3 : Int) (a2_4 : Int) (a2_5 : Int) (a2_6 : Int) (a2_7 : ByteArray) (A2_8 : Option Addr) (c2_8 : Nat) (l2_8 : List (S27)) (A3 : Option Addr) (c3 : Nat) (l3 : List (S103)) (r : Nat) (w : World) (hr1_8 : Kd.C k27 w A1_8 l1_8.length l1_8) (hc1_8 : l1_8.length ≤ c1_8) (hr2_8 : Kd.C k27 w A2_8 l2_8.length l2_8) (hc2_8 : l2_8.length ≤ c2_8) (hr3 : Kd.C k103 w A3 l3.length l3) (hc3 : l3.length ≤ c3) (h : cost_test.f k a0 a1_0 a1_1 a1_2 a1_3 a1_4 a1_5 a1_6 a1_7 l1_8 a2_0 a2_1 a2_2 a2_3 a2_4 a2_5 a2_6 a2_7 l2_8 l3 = some r) :
  Calls Try.prog 56 #[.int .i64 a0, .agg #[.int .i64 a1_0, .string a1_1, .string a1_2, .int .i64 a1_3, .int .i64 a1_4, .int .i64 a1_5, .int .i64 a1_6, .string a1_7, .slice A1_8 l1_8.length c1_8], .agg #[.int .i64 a2_0, .string a2_1, .string a2_2, .int .i64 a2_3, .int .i64 a2_4, .int .i64 a2_5, .int .i64 a2_6, .string a2_7, .slice A2_8 l2_8.length c2_8], .slice A3 l3.length c3] w fun e w' => e = .returned (.float .f64 r) ∧ Below w.heap.size w w' := by
 have hu27 := Try.underlying27; have hu76 := Try.underlying76; have HR1_8 := am_ hr1_8; have HC1_8 := am_ hc1_8; clear hr1_8 hc1_8; have HR2_8 := am_ hr2_8; have HC2_8 := am_ hc2_8; clear hr2_8 hc2_8; have HR3 := am_ hr3; have HC3 := am_ hc3; clear hr3 hc3; have HB := am_ (Below.refl w.heap.size w); have H : (if a1_0 = 15 then ((cost_test_1.f a2_0 a2_1 a2_2 a2_3 a2_4 a2_5 a2_6 a2_7 l2_8).bind fun t255 => (cost_test.j0 k a0 l3 t255 a1_0 a1_1 a1_2 a1_3 a1_4 a1_5 a1_6 a1_7 l1_8 a2_0 a2_1 a2_2 a2_3 a2_4 a2_5 a2_6 a2_7 l2_8)) else (cost_test.j0 k a0 l3 false a1_0 a1_1 a1_2 a1_3 a1_4 a1_5 a1_6 a1_7 l1_8 a2_0 a2_1 a2_2 a2_3 a2_4 a2_5 a2_6 a2_7 l2_8)) = some r := h; clear h; have HC5 := am_ H; clear H
 go_enter Try.func56, Try.ntmps56
 go_upto_region 2 with (first | ((with_reducible refine gate_dst (N := 5) rfl ?_); refine box_event ?hg (N := 5) ?hd (cs := #[.int .i64 a1_0, .string a1_1, .string a1_2, .int .i64 a1_3, .int .i64 a1_4, .int .i64 a1_5, .int .i64 a1_6, .string a1_7, .slice A1_8 l1_8.length c1_8]) (t := 27) ?hr ?_; (case hd => rfl); (case hg => rfl); (case hr => first | (go_simp; done) | (go_simp; rfl)); intro gb253 hg w6 hbox hb; have BK253 := am_ (hbox); have GW253 := am_ ((by rw [hg]; exact (below_size (bl_)) : w.heap.size ≤ gb253)); have GE253 := am_ ((by rw [hg]; exact (below_size (bl_)) : w.heap.size ≤ gb253)); replace HB := am_ (below_step (bl_) hb); clear hb hbox hg) | ((with_reducible refine gate_dst (N := 6) rfl ?_); refine box_event ?hg (N := 6) ?hd (cs := #[.int .i64 a2_0, .string a2_1, .string a2_2, .int .i64 a2_3, .int .i64 a2_4, .int .i64 a2_5, .int .i64 a2_6, .string a2_7, .slice A2_8 l2_8.length c2_8]) (t := 27) ?hr ?_; (case hd => rfl); (case hg => rfl); (case hr => first | (go_simp; done) | (go_simp; rfl)); intro gb254 hg w7 hbox hb; have n0_ := am_ (blk_below (bk_ BK253.out) hb); have n1_ := am_ (below_step (bl_) hb); have n2_ := am_ (hbox); have n3_ := am_ ((by rw [hg]; exact (below_size (bl_)) : w.heap.size ≤ gb254)); have n4_ := am_ ((by rw [hg]; exact (below_size (bl_)) : w.heap.size ≤ gb254)); have n5_ := am_ ((by rw [hg]; exact Nat.ne_of_lt (blk_lt (g := gb253) (o := .cells #[.int .i64 a1_0, .string a1_1, .string a1_2, .int .i64 a1_3, .int .i64 a1_4, .int .i64 a1_5, .int .i64 a1_6, .string a1_7, .slice A1_8 l1_8.length c1_8] 27 (0, 0)) (bk_ BK253.out)) : gb253 ≠ gb254)); have n6_ := am_ ((by rw [hg]; exact Nat.ne_of_gt (blk_lt (g := gb253) (o := .cells #[.int .i64 a1_0, .string a1_1, .string a1_2, .int .i64 a1_3, .int .i64 a1_4, .int .i64 a1_5, .int .i64 a1_6, .string a1_7, .slice A1_8 l1_8.length c1_8] 27 (0, 0)) (bk_ BK253.out)) : gb254 ≠ gb253)); clear BK253; clear HB; have BK253 := n0_; have HB := n1_; have BK254 := n2_; have GW254 := n3_; have GE254 := n4_; have NB253_254 := n5_; have NB254_253 := n6_; clear n0_ n1_ n2_ n3_ n4_ n5_ n6_; clear hb hbox hg))
 (try simp only [Act.put, sa_, sz_, ss_])
 go_cut [10] (fun v10 wc => ∃ (kq : Nat) (x10_4 : Bool), v10 = .bool x10_4 ∧ Aside0 (cost_test.j0 kq a0 l3 x10_4 a1_0 a1_1 a1_2 a1_3 a1_4 a1_5 a1_6 a1_7 l1_8 a2_0 a2_1 a2_2 a2_3 a2_4 a2_5 a2_6 a2_7 l2_8 = some r) ∧ Aside0 (kq ≤ k) ∧ Aside0 (wc.heap[gb253]? = some (.cells #[.int .i64 a1_0, .string a1_1, .string a1_2, .int .i64 a1_3, .int .i64 a1_4, .int .i64 a1_5, .int .i64 a1_6, .string a1_7, (.slice A1_8 l1_8.length c1_8)] 27 (0, 0))) ∧ Aside0 (wc.heap[gb254]? = some (.cells #[.int .i64 a2_0, .string a2_1, .string a2_2, .int .i64 a2_3, .int .i64 a2_4, .int .i64 a2_5, .int .i64 a2_6, .string a2_7, (.slice A2_8 l2_8.length c2_8)] 27 (0, 0))) ∧ Aside0 (Below w.heap.size w wc))
 case first =>
  have H := HC5.out; clear HC5
  by_cases c8 : a1_0 = 15
  ·rw [if_pos c8] at H
   have c8b0 : (a1_0 == 15) = true := beq_iff_eq.mpr c8; have c8b1 : (a1_0 != 15) = false := bne_eq_false_iff_eq.mpr c8; clear c8; (first | rw [c8b0] | (simp only [i64_w, i32_w]; rw [c8b0]) | skip); replace H := Option.bind_eq_some_iff.mp H; obtain ⟨t255, A90, H⟩ := H; replace H : (cost_test.j0 k a0 l3 t255 a1_0 a1_1 a1_2 a1_3 a1_4 a1_5 a1_6 a1_7 l1_8 a2_0 a2_1 a2_2 a2_3 a2_4 a2_5 a2_6 a2_7 l2_8) = some r := H; have A9 := am_ A90; clear A90; have H' := am_ H; clear H; have hnb10 := NB253_254.out; have hnc10 := NB254_253.out; obtain ⟨hcz11_0, hcz11_1, hcz11_2, hcz11_3, hcz11_4, hcz11_5, hcz11_6, hcz11_7, hcz11_8, hfz11_0, hfz11_1, hfz11_2, hfz11_3, hfz11_4, hfz11_5, hfz11_6, hfz11_7, hfz11_8⟩ := bw9_ BK253.out; obtain ⟨hcz12_0, hcz12_1, hcz12_2, hcz12_3, hcz12_4, hcz12_5, hcz12_6, hcz12_7, hcz12_8, hfz12_0, hfz12_1, hfz12_2, hfz12_3, hfz12_4, hfz12_5, hfz12_6, hfz12_7, hfz12_8⟩ := bw9_ BK254.out
   go_wp2_with (first | (go_at_call 104; (with_reducible refine (cost_test_1.calls a2_0 a2_1 a2_2 a2_3 a2_4 a2_5 a2_6 a2_7 _ _ l2_8 t255 _ ?side1 ?side2 A9.out).mono ?_); (case side1 => repeat (first | exact (Kd.C_below HR2_8.out HB.out) | (with_reducible refine Kd.C_alloc ?_ _) | (with_reducible refine Kd.C_drewN ?_ _) | (with_reducible refine Kd.C_drew ?_))); (case side2 => exact HC2_8.out); rintro e w13 ⟨rfl, hb⟩; replace BK253 := am_ (blk_below (bk_ BK253.out) hb); replace BK254 := am_ (blk_below (bk_ BK254.out) hb); replace HB := am_ (below_step (bl_) hb); (try clear hb); (try clear hb2); (try clear hk); (try clear hi)))
   go_meet
   case rel => exact ⟨_, (t255), (rs_), H', ⟨by first | omega | exact Nat.le_refl _⟩, ⟨bk_ BK253.out⟩, ⟨bk_ BK254.out⟩, ⟨bl_⟩⟩
  ·rw [if_neg c8] at H
   have c8b0 : (a1_0 == 15) = false := beq_eq_false_iff_ne.mpr c8; have c8b1 : (a1_0 != 15) = true := bne_iff_ne.mpr c8; (first | rw [c8b0] | (simp only [i64_w, i32_w]; rw [c8b0]) | skip); have H' := am_ H; clear H; have hnb14 := NB253_254.out; have hnc14 := NB254_253.out; obtain ⟨hcz15_0, hcz15_1, hcz15_2, hcz15_3, hcz15_4, hcz15_5, hcz15_6, hcz15_7, hcz15_8, hfz15_0, hfz15_1, hfz15_2, hfz15_3, hfz15_4, hfz15_5, hfz15_6, hfz15_7, hfz15_8⟩ := bw9_ BK253.out
   go_wp2
   go_meet
   case rel => exact ⟨_, (false), (rs_), H', ⟨by first | omega | exact Nat.le_refl _⟩, ⟨bk_ BK253.out⟩, ⟨bk_ BK254.out⟩, ⟨bl_⟩⟩
 case rest =>
  clear HC5; (try clear c1); (try clear c2); (try clear p2); (try clear c3); (try clear c5); (try clear c8); (try clear c8b0); (try clear c8b1); (try clear c10); (try clear c14); (try clear hcz11_0); (try clear hcz11_1); (try clear hcz11_2); (try clear hcz11_3); (try clear hcz11_4); (try clear hcz11_5); (try clear hcz11_6); (try clear hcz11_7); (try clear hcz11_8); (try clear hcz12_0); (try clear hcz12_1); (try clear hcz12_2); (try clear hcz12_3); (try clear hcz12_4); (try clear hcz12_5); (try clear hcz12_6); (try clear hcz12_7); (try clear hcz12_8); (try clear hcz15_0); (try clear hcz15_1); (try clear hcz15_2); (try clear hcz15_3); (try clear hcz15_4); (try clear hcz15_5); (try clear hcz15_6); (try clear hcz15_7); (try clear hcz15_8); (try clear hfz11_0); (try clear hfz11_1); (try clear hfz11_2); (try clear hfz11_3); (try clear hfz11_4); (try clear hfz11_5); (try clear hfz11_6); (try clear hfz11_7); (try clear hfz11_8); (try clear hfz12_0); (try clear hfz12_1); (try clear hfz12_2); (try clear hfz12_3); (try clear hfz12_4); (try clear hfz12_5); (try clear hfz12_6); (try clear hfz12_7); (try clear hfz12_8); (try clear hfz15_0); (try clear hfz15_1); (try clear hfz15_2); (try clear hfz15_3); (try clear hfz15_4); (try clear hfz15_5); (try clear hfz15_6); (try clear hfz15_7); (try clear hfz15_8); obtain ⟨kq, x10_4, rfl, HA, HJ4, BK253, BK254, HB⟩ := hcut
  cases kq with
  | zero => exact absurd HA.out (by simp [cost_test.j0])
  | succ kj4 =>
   have H := HA.out; clear HA; simp only [cost_test.j0] at H
   by_cases c16 : x10_4 = true
   ·subst c16
    have H1 : ((cost_against.f kj4 a0 a1_0 a1_1 a1_2 a1_3 a1_4 a1_5 a1_6 a1_7 l1_8 a2_6 l3).bind fun t256 => (some t256)) = some r := by rw [if_pos rfl] at H; exact H
    clear H; have H := H1; clear H1; replace H := Option.bind_eq_some_iff.mp H; obtain ⟨t256, A170, H⟩ := H; replace H : (some t256) = some r := H; have A17 := am_ A170; clear A170; obtain rfl := Option.some.inj H; have hnb18 := NB253_254.out; have hnc18 := NB254_253.out; obtain ⟨hcz19_0, hcz19_1, hcz19_2, hcz19_3, hcz19_4, hcz19_5, hcz19_6, hcz19_7, hcz19_8, hfz19_0, hfz19_1, hfz19_2, hfz19_3, hfz19_4, hfz19_5, hfz19_6, hfz19_7, hfz19_8⟩ := bw9_ BK253.out; obtain ⟨hcz20_0, hcz20_1, hcz20_2, hcz20_3, hcz20_4, hcz20_5, hcz20_6, hcz20_7, hcz20_8, hfz20_0, hfz20_1, hfz20_2, hfz20_3, hfz20_4, hfz20_5, hfz20_6, hfz20_7, hfz20_8⟩ := bw9_ BK254.out
    go_wp2_with (first | ((with_reducible refine gate_callee (f := 105) rfl ?_); refine goesL_ (some 25) rfl rfl Try.func105 (by kernel_rfl) rfl #[.int .i64 a0, .agg #[.int .i64 a1_0, .string a1_1, .string a1_2, .int .i64 a1_3, .int .i64 a1_4, .int .i64 a1_5, .int .i64 a1_6, .string a1_7, .slice A1_8 l1_8.length c1_8], .int .i64 a2_6, .slice A3 l3.length c3] rfl (by (try simp only [List.map_toArray, List.map_cons, List.map_nil]); first | done | rfl | (simp only [List.length_drop, List.length_take]; rfl)) ?_; (with_reducible refine (cost_against.calls kj4 a0 a1_0 a1_1 a1_2 a1_3 a1_4 a1_5 a1_6 a1_7 _ _ l1_8 a2_6 _ _ l3 t256 _ ?side1 ?side2 ?side3 ?side4 A17.out).mono ?_); (case side1 => repeat (first | exact (Kd.C_below HR1_8.out HB.out) | (with_reducible refine Kd.C_alloc ?_ _) | (with_reducible refine Kd.C_drewN ?_ _) | (with_reducible refine Kd.C_drew ?_))); (case side2 => exact HC1_8.out); (case side3 => repeat (first | exact (Kd.C_below HR3.out HB.out) | (with_reducible refine Kd.C_alloc ?_ _) | (with_reducible refine Kd.C_drewN ?_ _) | (with_reducible refine Kd.C_drew ?_))); (case side4 => exact HC3.out); rintro e w21 ⟨rfl, hb⟩; refine ⟨_, rfl, ?_⟩; replace BK253 := am_ (blk_below (bk_ BK253.out) hb); replace BK254 := am_ (blk_below (bk_ BK254.out) hb); replace HB := am_ (below_step (bl_) hb); (try clear hb); (try clear hb2); (try clear hk); (try clear hi)))
    go_ret
    exact ⟨ew_, bl_⟩
   ·replace c16 := Bool.eq_false_iff.mpr c16
    subst c16
    have H1 : (if a2_0 = 15 then ((cost_test_1.f a1_0 a1_1 a1_2 a1_3 a1_4 a1_5 a1_6 a1_7 l1_8).bind fun t257 => (cost_test.j1 kj4 a0 l3 t257 a1_0 a1_1 a1_2 a1_3 a1_4 a1_5 a1_6 a1_7 l1_8 a2_0 a2_1 a2_2 a2_3 a2_4 a2_5 a2_6 a2_7 l2_8)) else (cost_test.j1 kj4 a0 l3 false a1_0 a1_1 a1_2 a1_3 a1_4 a1_5 a1_6 a1_7 l1_8 a2_0 a2_1 a2_2 a2_3 a2_4 a2_5 a2_6 a2_7 l2_8)) = some r := by rw [if_neg (show ¬ (false = true) by decide)] at H; exact H
    clear H; have H := H1; clear H1; have HC22 := am_ H; clear H
    go_upto_region 4 with (fail)
    go_cut [26] (fun v26 wc => ∃ (kq : Nat) (x26_21 : Bool), v26 = .bool x26_21 ∧ Aside0 (cost_test.j1 kq a0 l3 x26_21 a1_0 a1_1 a1_2 a1_3 a1_4 a1_5 a1_6 a1_7 l1_8 a2_0 a2_1 a2_2 a2_3 a2_4 a2_5 a2_6 a2_7 l2_8 = some r) ∧ Aside0 (kq ≤ kj4) ∧ Aside0 (wc.heap[gb253]? = some (.cells #[.int .i64 a1_0, .string a1_1, .string a1_2, .int .i64 a1_3, .int .i64 a1_4, .int .i64 a1_5, .int .i64 a1_6, .string a1_7, (.slice A1_8 l1_8.length c1_8)] 27 (0, 0))) ∧ Aside0 (wc.heap[gb254]? = some (.cells #[.int .i64 a2_0, .string a2_1, .string a2_2, .int .i64 a2_3, .int .i64 a2_4, .int .i64 a2_5, .int .i64 a2_6, .string a2_7, (.slice A2_8 l2_8.length c2_8)] 27 (0, 0))) ∧ Aside0 (Below w.heap.size w wc))
    case first =>
     have H := HC22.out; clear HC22
     by_cases c23 : a2_0 = 15
     ·rw [if_pos c23] at H
      have c23b0 : (a2_0 == 15) = true := beq_iff_eq.mpr c23; have c23b1 : (a2_0 != 15) = false := bne_eq_false_iff_eq.mpr c23; clear c23; (first | rw [c23b0] | (simp only [i64_w, i32_w]; rw [c23b0]) | skip); replace H := Option.bind_eq_some_iff.mp H; obtain ⟨t257, A240, H⟩ := H; replace H : (cost_test.j1 kj4 a0 l3 t257 a1_0 a1_1 a1_2 a1_3 a1_4 a1_5 a1_6 a1_7 l1_8 a2_0 a2_1 a2_2 a2_3 a2_4 a2_5 a2_6 a2_7 l2_8) = some r := H; have A24 := am_ A240; clear A240; have H' := am_ H; clear H; have hnb25 := NB254_253.out; have hnc25 := NB253_254.out; obtain ⟨hcz26_0, hcz26_1, hcz26_2, hcz26_3, hcz26_4, hcz26_5, hcz26_6, hcz26_7, hcz26_8, hfz26_0, hfz26_1, hfz26_2, hfz26_3, hfz26_4, hfz26_5, hfz26_6, hfz26_7, hfz26_8⟩ := bw9_ BK254.out; obtain ⟨hcz27_0, hcz27_1, hcz27_2, hcz27_3, hcz27_4, hcz27_5, hcz27_6, hcz27_7, hcz27_8, hfz27_0, hfz27_1, hfz27_2, hfz27_3, hfz27_4, hfz27_5, hfz27_6, hfz27_7, hfz27_8⟩ := bw9_ BK253.out
      go_wp2_with (first | (go_at_call 104; (with_reducible refine (cost_test_1.calls a1_0 a1_1 a1_2 a1_3 a1_4 a1_5 a1_6 a1_7 _ _ l1_8 t257 _ ?side1 ?side2 A24.out).mono ?_); (case side1 => repeat (first | exact (Kd.C_below HR1_8.out HB.out) | (with_reducible refine Kd.C_alloc ?_ _) | (with_reducible refine Kd.C_drewN ?_ _) | (with_reducible refine Kd.C_drew ?_))); (case side2 => exact HC1_8.out); rintro e w28 ⟨rfl, hb⟩; replace BK253 := am_ (blk_below (bk_ BK253.out) hb); replace BK254 := am_ (blk_below (bk_ BK254.out) hb); replace HB := am_ (below_step (bl_) hb); (try clear hb); (try clear hb2); (try clear hk); (try clear hi)))
      go_meet
      case rel => exact ⟨_, (t257), (rs_), H', ⟨by have := HJ4.out; first | omega | exact Nat.le_refl _⟩, ⟨bk_ BK253.out⟩, ⟨bk_ BK254.out⟩, ⟨bl_⟩⟩
     ·rw [if_neg c23] at H
      have c23b0 : (a2_0 == 15) = false := beq_eq_false_iff_ne.mpr c23; have c23b1 : (a2_0 != 15) = true := bne_iff_ne.mpr c23; (first | rw [c23b0] | (simp only [i64_w, i32_w]; rw [c23b0]) | skip); have H' := am_ H; clear H; have hnb29 := NB254_253.out; have hnc29 := NB253_254.out; obtain ⟨hcz30_0, hcz30_1, hcz30_2, hcz30_3, hcz30_4, hcz30_5, hcz30_6, hcz30_7, hcz30_8, hfz30_0, hfz30_1, hfz30_2, hfz30_3, hfz30_4, hfz30_5, hfz30_6, hfz30_7, hfz30_8⟩ := bw9_ BK254.out
      go_wp2
      go_meet
      case rel => exact ⟨_, (false), (rs_), H', ⟨by have := HJ4.out; first | omega | exact Nat.le_refl _⟩, ⟨bk_ BK253.out⟩, ⟨bk_ BK254.out⟩, ⟨bl_⟩⟩
    case rest =>
     clear HC22; (try clear c1); (try clear c2); (try clear p2); (try clear c3); (try clear c5); (try clear c8); (try clear c8b0); (try clear c8b1); (try clear c10); (try clear c14); (try clear c16); (try clear c18); (try clear c23); (try clear c23b0); (try clear c23b1); (try clear c25); (try clear c29); (try clear hcz11_0); (try clear hcz11_1); (try clear hcz11_2); (try clear hcz11_3); (try clear hcz11_4); (try clear hcz11_5); (try clear hcz11_6); (try clear hcz11_7); (try clear hcz11_8); (try clear hcz12_0); (try clear hcz12_1); (try clear hcz12_2); (try clear hcz12_3); (try clear hcz12_4); (try clear hcz12_5); (try clear hcz12_6); (try clear hcz12_7); (try clear hcz12_8); (try clear hcz15_0); (try clear hcz15_1); (try clear hcz15_2); (try clear hcz15_3); (try clear hcz15_4); (try clear hcz15_5); (try clear hcz15_6); (try clear hcz15_7); (try clear hcz15_8); (try clear hcz19_0); (try clear hcz19_1); (try clear hcz19_2); (try clear hcz19_3); (try clear hcz19_4); (try clear hcz19_5); (try clear hcz19_6); (try clear hcz19_7); (try clear hcz19_8); (try clear hcz20_0); (try clear hcz20_1); (try clear hcz20_2); (try clear hcz20_3); (try clear hcz20_4); (try clear hcz20_5); (try clear hcz20_6); (try clear hcz20_7); (try clear hcz20_8); (try clear hcz26_0); (try clear hcz26_1); (try clear hcz26_2); (try clear hcz26_3); (try clear hcz26_4); (try clear hcz26_5); (try clear hcz26_6); (try clear hcz26_7); (try clear hcz26_8); (try clear hcz27_0); (try clear hcz27_1); (try clear hcz27_2); (try clear hcz27_3); (try clear hcz27_4); (try clear hcz27_5); (try clear hcz27_6); (try clear hcz27_7); (try clear hcz27_8); (try clear hcz30_0); (try clear hcz30_1); (try clear hcz30_2); (try clear hcz30_3); (try clear hcz30_4); (try clear hcz30_5); (try clear hcz30_6); (try clear hcz30_7); (try clear hcz30_8); (try clear hfz11_0); (try clear hfz11_1); (try clear hfz11_2); (try clear hfz11_3); (try clear hfz11_4); (try clear hfz11_5); (try clear hfz11_6); (try clear hfz11_7); (try clear hfz11_8); (try clear hfz12_0); (try clear hfz12_1); (try clear hfz12_2); (try clear hfz12_3); (try clear hfz12_4); (try clear hfz12_5); (try clear hfz12_6); (try clear hfz12_7); (try clear hfz12_8); (try clear hfz15_0); (try clear hfz15_1); (try clear hfz15_2); (try clear hfz15_3); (try clear hfz15_4); (try clear hfz15_5); (try clear hfz15_6); (try clear hfz15_7); (try clear hfz15_8); (try clear hfz19_0); (try clear hfz19_1); (try clear hfz19_2); (try clear hfz19_3); (try clear hfz19_4); (try clear hfz19_5); (try clear hfz19_6); (try clear hfz19_7); (try clear hfz19_8); (try clear hfz20_0); (try clear hfz20_1); (try clear hfz20_2); (try clear hfz20_3); (try clear hfz20_4); (try clear hfz20_5); (try clear hfz20_6); (try clear hfz20_7); (try clear hfz20_8); (try clear hfz26_0); (try clear hfz26_1); (try clear hfz26_2); (try clear hfz26_3); (try clear hfz26_4); (try clear hfz26_5); (try clear hfz26_6); (try clear hfz26_7); (try clear hfz26_8); (try clear hfz27_0); (try clear hfz27_1); (try clear hfz27_2); (try clear hfz27_3); (try clear hfz27_4); (try clear hfz27_5); (try clear hfz27_6); (try clear hfz27_7); (try clear hfz27_8); (try clear hfz30_0); (try clear hfz30_1); (try clear hfz30_2); (try clear hfz30_3); (try clear hfz30_4); (try clear hfz30_5); (try clear hfz30_6); (try clear hfz30_7); (try clear hfz30_8); (try clear p2); obtain ⟨kq, x26_21, rfl, HA, HJ21, BK253, BK254, HB⟩ := hcut
     cases kq with
     | zero => exact absurd HA.out (by simp [cost_test.j1])
     | succ kj21 =>
      have H := HA.out; clear HA; simp only [cost_test.j1] at H
      by_cases c31 : x26_21 = true
      ·subst c31
       have H1 : ((cost_turned.f a0).bind fun t258 => ((cost_against.f kj21 t258 a2_0 a2_1 a2_2 a2_3 a2_4 a2_5 a2_6 a2_7 l2_8 a1_6 l3).bind fun t259 => (some t259))) = some r := by rw [if_pos rfl] at H; exact H
       clear H; have H := H1; clear H1; replace H := Option.bind_eq_some_iff.mp H; obtain ⟨t258, A320, H⟩ := H; replace H : ((cost_against.f kj21 t258 a2_0 a2_1 a2_2 a2_3 a2_4 a2_5 a2_6 a2_7 l2_8 a1_6 l3).bind fun t259 => (some t259)) = some r := H; have A32 := am_ A320; clear A320; replace H := Option.bind_eq_some_iff.mp H; obtain ⟨t259, A330, H⟩ := H; replace H : (some t259) = some r := H; have A33 := am_ A330; clear A330; obtain rfl := Option.some.inj H
       try go_wp2
       have n0_ := am_ (blk_drew BK253.out); have n1_ := am_ (blk_drew BK254.out); have n2_ := am_ (below_drew1 HB.out); clear BK253; clear BK254; clear HB; have BK253 := n0_; have BK254 := n1_; have HB := n2_; clear n0_ n1_ n2_
       refine start_ (n := 9) (S := fun w' => w'.cell? ⟨gb254, 0, none⟩ = some (.int .i64 a2_0) ∧ w'.cell? ⟨gb254, 1, none⟩ = some (.string a2_1) ∧ w'.cell? ⟨gb254, 2, none⟩ = some (.string a2_2) ∧ w'.cell? ⟨gb254, 3, none⟩ = some (.int .i64 a2_3) ∧ w'.cell? ⟨gb254, 4, none⟩ = some (.int .i64 a2_4) ∧ w'.cell? ⟨gb254, 5, none⟩ = some (.int .i64 a2_5) ∧ w'.cell? ⟨gb254, 6, none⟩ = some (.int .i64 a2_6) ∧ w'.cell? ⟨gb254, 7, none⟩ = some (.string a2_7) ∧ w'.cell? ⟨gb254, 8, none⟩ = some (.slice A2_8 l2_8.length c2_8) ∧ w'.cell? ⟨gb253, 0, none⟩ = some (.int .i64 a1_0) ∧ w'.cell? ⟨gb253, 1, none⟩ = some (.string a1_1) ∧ w'.cell? ⟨gb253, 2, none⟩ = some (.string a1_2) ∧ w'.cell? ⟨gb253, 3, none⟩ = some (.int .i64 a1_3) ∧ w'.cell? ⟨gb253, 4, none⟩ = some (.int .i64 a1_4) ∧ w'.cell? ⟨gb253, 5, none⟩ = some (.int .i64 a1_5) ∧ w'.cell? ⟨gb253, 6, none⟩ = some (.int .i64 a1_6) ∧ w'.cell? ⟨gb253, 7, none⟩ = some (.string a1_7) ∧ w'.cell? ⟨gb253, 8, none⟩ = some (.slice A1_8 l1_8.length c1_8)) (ds := []) #[false, false, false, false, false, false, false, false, false] (by kernel_rfl) rfl rfl ⟨bc_ BK254.out 0, bc_ BK254.out 1, bc_ BK254.out 2, bc_ BK254.out 3, bc_ BK254.out 4, bc_ BK254.out 5, bc_ BK254.out 6, bc_ BK254.out 7, bc_ BK254.out 8, bc_ BK253.out 0, bc_ BK253.out 1, bc_ BK253.out 2, bc_ BK253.out 3, bc_ BK253.out 4, bc_ BK253.out 5, bc_ BK253.out 6, bc_ BK253.out 7, bc_ BK253.out 8⟩ (fun hHeld => ?_); refine with_tabW cost_test.tab5 cost_test.bits5 (fun HT_ HW_ => ?_)
       generalize wc.drew = w34 at BK253 BK254 HB hHeld ⊢
       refine pure_ (i := 0) (N := some 35) (v := ?_) (a' := ?_) #[true, false, false, false, false, false, false, false, false] rfl rfl (any_of HT_.out (by kernel_rfl)) (fun _ _ _ h => h) (Or.inl ⟨by rfl, ?_⟩) ?_ ?_; rotate_left
       ·intro w'
        go_simp; (with_reducible rfl)
       rotate_left
       ·simp only [Act.put, sa_, sz_, ss_, i64_w, i32_w]
        rfl
       refine pure_ (i := 3) (N := some 38) (v := ?_) (a' := ?_) #[true, false, false, true, false, false, false, false, false] rfl rfl (any_of HT_.out (by kernel_rfl)) (fun _ _ _ h => h) (Or.inl ⟨by rfl, ?_⟩) ?_ ?_; rotate_left
       ·intro w'
        go_simp; (with_reducible rfl)
       rotate_left
       ·simp only [Act.put, sa_, sz_, ss_, i64_w, i32_w]
        rfl
       refine pure_ (i := 4) (N := some 39) (v := ?_) (a' := ?_) #[true, false, false, true, true, false, false, false, false] rfl rfl (any_of HT_.out (by kernel_rfl)) (fun _ _ _ h => h) (Or.inl ⟨by rfl, ?_⟩) ?_ ?_; rotate_left
       ·intro w'
        go_simp; (with_reducible rfl)
       rotate_left
       ·simp only [Act.put, sa_, sz_, ss_, i64_w, i32_w]
        rfl
       refine pure_ (i := 6) (N := some 41) (v := ?_) (a' := ?_) #[true, false, false, true, true, false, true, false, false] rfl rfl (any_of HT_.out (by kernel_rfl)) (fun _ _ _ h => h) (Or.inl ⟨by rfl, ?_⟩) ?_ ?_; rotate_left
       ·intro w'
        go_simp; (with_reducible rfl)
       rotate_left
       ·simp only [Act.put, sa_, sz_, ss_, i64_w, i32_w]
        rfl
       refine take_ (i := 2) (N := some 37) (v := ?_) (a' := ?_) #[true, false, true, true, true, false, true, false, false] rfl rfl (take_ofW HT_.out HW_.out (by kernel_rfl)) (fun _ _ _ h => h) (Or.inl ⟨by rfl, ?_⟩) hHeld ?_ ?_; rotate_left
       ·rintro w' ⟨s0, s1, s2, s3, s4, s5, s6, s7, s8, s9, s10, s11, s12, s13, s14, s15, s16, s17⟩
        go_simp; (with_reducible rfl)
       rotate_left
       ·simp only [Act.put, sa_, sz_, ss_, i64_w, i32_w]
        rfl
       refine take_ (i := 5) (N := some 40) (v := ?_) (a' := ?_) #[true, false, true, true, true, true, true, false, false] rfl rfl (take_ofW HT_.out HW_.out (by kernel_rfl)) (fun _ _ _ h => h) (Or.inl ⟨by rfl, ?_⟩) hHeld ?_ ?_; rotate_left
       ·rintro w' ⟨s0, s1, s2, s3, s4, s5, s6, s7, s8, s9, s10, s11, s12, s13, s14, s15, s16, s17⟩
        go_simp; (with_reducible rfl)
       rotate_left
       ·simp only [Act.put, sa_, sz_, ss_, i64_w, i32_w]
        rfl
       refine one_ (i := 1) (N := some 36) #[true, true, true, true, true, true, true, false, false] rfl rfl (one_of HT_.out (by kernel_rfl)) (by decide) (fun K hK => ?_); refine goes_ Try.func106 (by kernel_rfl) rfl #[.int .i64 a0] (by rfl) rfl rfl (by (try simp only [List.map_toArray, List.map_cons, List.map_nil]); first | done | rfl | (simp only [List.length_drop, List.length_take]; rfl)) ?_; (with_reducible refine (cost_turned.calls a0 t258 _ A32.out).mono ?_); rintro e w35 ⟨rfl, hb⟩; refine ⟨_, rfl, ?_⟩; have n0_ := am_ (blk_below (bk_ BK253.out) hb); have n1_ := am_ (blk_below (bk_ BK254.out) hb); have n2_ := am_ (below_step (bl_) hb); clear BK253; clear BK254; clear HB; have BK253 := n0_; have BK254 := n1_; have HB := n2_; clear n0_ n1_ n2_; (try clear hb); (try clear hb2); (try clear hk); (try clear hi); refine hK.out _ _ ⟨bc_ BK254.out 0, bc_ BK254.out 1, bc_ BK254.out 2, bc_ BK254.out 3, bc_ BK254.out 4, bc_ BK254.out 5, bc_ BK254.out 6, bc_ BK254.out 7, bc_ BK254.out 8, bc_ BK253.out 0, bc_ BK253.out 1, bc_ BK253.out 2, bc_ BK253.out 3, bc_ BK253.out 4, bc_ BK253.out 5, bc_ BK253.out 6, bc_ BK253.out 7, bc_ BK253.out 8⟩ (fun hHeld => ?_); clear hK K; refine norm_ (a' := ?_) ?_ ?_; rotate_left
       ·show Act.put _ (some 36) _ = _
        simp only [Act.put, sa_, sz_, ss_, i64_w, i32_w]; rfl
       refine one_ (i := 7) (N := some 42) #[true, true, true, true, true, true, true, true, false] rfl rfl (one_of HT_.out (by kernel_rfl)) (by decide) (fun K hK => ?_); refine goes_ Try.func105 (by kernel_rfl) rfl #[.int .i64 t258, .agg #[.int .i64 a2_0, .string a2_1, .string a2_2, .int .i64 a2_3, .int .i64 a2_4, .int .i64 a2_5, .int .i64 a2_6, .string a2_7, .slice A2_8 l2_8.length c2_8], .int .i64 a1_6, .slice A3 l3.length c3] (by rfl) rfl rfl (by (try simp only [List.map_toArray, List.map_cons, List.map_nil]); first | done | rfl | (simp only [List.length_drop, List.length_take]; rfl)) ?_; (with_reducible refine (cost_against.calls kj21 t258 a2_0 a2_1 a2_2 a2_3 a2_4 a2_5 a2_6 a2_7 _ _ l2_8 a1_6 _ _ l3 t259 _ ?side1 ?side2 ?side3 ?side4 A33.out).mono ?_); (case side1 => repeat (first | exact (Kd.C_below HR2_8.out HB.out) | (with_reducible refine Kd.C_alloc ?_ _) | (with_reducible refine Kd.C_drewN ?_ _) | (with_reducible refine Kd.C_drew ?_))); (case side2 => exact HC2_8.out); (case side3 => repeat (first | exact (Kd.C_below HR3.out HB.out) | (with_reducible refine Kd.C_alloc ?_ _) | (with_reducible refine Kd.C_drewN ?_ _) | (with_reducible refine Kd.C_drew ?_))); (case side4 => exact HC3.out); rintro e w36 ⟨rfl, hb⟩; refine ⟨_, rfl, ?_⟩; have n0_ := am_ (blk_below (bk_ BK253.out) hb); have n1_ := am_ (blk_below (bk_ BK254.out) hb); have n2_ := am_ (below_step (bl_) hb); clear BK253; clear BK254; clear HB; have BK253 := n0_; have BK254 := n1_; have HB := n2_; clear n0_ n1_ n2_; (try clear hb); (try clear hb2); (try clear hk); (try clear hi); refine hK.out _ _ ⟨bc_ BK254.out 0, bc_ BK254.out 1, bc_ BK254.out 2, bc_ BK254.out 3, bc_ BK254.out 4, bc_ BK254.out 5, bc_ BK254.out 6, bc_ BK254.out 7, bc_ BK254.out 8, bc_ BK253.out 0, bc_ BK253.out 1, bc_ BK253.out 2, bc_ BK253.out 3, bc_ BK253.out 4, bc_ BK253.out 5, bc_ BK253.out 6, bc_ BK253.out 7, bc_ BK253.out 8⟩ (fun hHeld => ?_); clear hK K; refine norm_ (a' := ?_) ?_ ?_; rotate_left
       ·show Act.put _ (some 42) _ = _
        simp only [Act.put, sa_, sz_, ss_, i64_w, i32_w]; rfl
       refine pure_ (i := 8) (N := some 8) (v := ?_) (a' := ?_) #[true, true, true, true, true, true, true, true, true] rfl rfl (any_of HT_.out (by kernel_rfl)) (fun _ _ _ h => h) (Or.inl ⟨by rfl, ?_⟩) ?_ ?_; rotate_left
       ·intro w'
        go_simp; (with_reducible rfl)
       rotate_left
       ·simp only [Act.put, sa_, sz_, ss_, i64_w, i32_w]
        rfl
       refine done_ (done_of HT_.out (by kernel_rfl)) ?_
       try go_wp2
       go_ret
       exact ⟨ew_, bl_⟩
      ·replace c31 := Bool.eq_false_iff.mpr c31
       subst c31
       have H1 : (if a0 = 1 then (if a1_0 = 15 then (if a2_0 = 15 then ((cost_same.f kj21 l3 a1_3 a1_4 a2_3 a2_4).bind fun t260 => (some t260)) else (some 4602678819172646912)) else (some 4602678819172646912)) else (some 4602678819172646912)) = some r := by rw [if_neg (show ¬ (false = true) by decide)] at H; exact H
       clear H; have H := H1; clear H1
       by_cases c37 : a0 = 1
       ·rw [if_pos c37] at H
        have c37b0 : (a0 == 1) = true := beq_iff_eq.mpr c37; have c37b1 : (a0 != 1) = false := bne_eq_false_iff_eq.mpr c37; clear c37
        by_cases c38 : a1_0 = 15
        ·rw [if_pos c38] at H
         have c38b0 : (a1_0 == 15) = true := beq_iff_eq.mpr c38; have c38b1 : (a1_0 != 15) = false := bne_eq_false_iff_eq.mpr c38; clear c38
         by_cases c39 : a2_0 = 15
         ·rw [if_pos c39] at H
          have c39b0 : (a2_0 == 15) = true := beq_iff_eq.mpr c39; have c39b1 : (a2_0 != 15) = false := bne_eq_false_iff_eq.mpr c39; clear c39; replace H := Option.bind_eq_some_iff.mp H; obtain ⟨t260, A400, H⟩ := H; replace H : (some t260) = some r := H; have A40 := am_ A400; clear A400; obtain rfl := Option.some.inj H; have hnb41 := NB253_254.out; have hnc41 := NB254_253.out; obtain ⟨hcz42_0, hcz42_1, hcz42_2, hcz42_3, hcz42_4, hcz42_5, hcz42_6, hcz42_7, hcz42_8, hfz42_0, hfz42_1, hfz42_2, hfz42_3, hfz42_4, hfz42_5, hfz42_6, hfz42_7, hfz42_8⟩ := bw9_ BK253.out; obtain ⟨hcz43_0, hcz43_1, hcz43_2, hcz43_3, hcz43_4, hcz43_5, hcz43_6, hcz43_7, hcz43_8, hfz43_0, hfz43_1, hfz43_2, hfz43_3, hfz43_4, hfz43_5, hfz43_6, hfz43_7, hfz43_8⟩ := bw9_ BK254.out
          go_wp2_with (first | ((with_reducible refine gate_callee (f := 107) rfl ?_); refine goesL_ (some 66) rfl rfl Try.func107 (by kernel_rfl) rfl #[.slice A3 l3.length c3, .agg #[.int .i64 a1_3, .int .i64 a1_4, .int .i64 a2_3, .int .i64 a2_4]] rfl (by (try simp only [List.map_toArray, List.map_cons, List.map_nil]); first | done | rfl | (simp only [List.length_drop, List.length_take]; rfl)) ?_; (with_reducible refine (cost_same.calls kj21 _ _ l3 a1_3 a1_4 a2_3 a2_4 t260 _ ?side1 ?side2 A40.out).mono ?_); (case side1 => repeat (first | exact (Kd.C_below HR3.out HB.out) | (with_reducible refine Kd.C_alloc ?_ _) | (with_reducible refine Kd.C_drewN ?_ _) | (with_reducible refine Kd.C_drew ?_))); (case side2 => exact HC3.out); rintro e w44 ⟨rfl, hb⟩; refine ⟨_, rfl, ?_⟩; replace BK253 := am_ (blk_below (bk_ BK253.out) hb); replace BK254 := am_ (blk_below (bk_ BK254.out) hb); replace HB := am_ (below_step (bl_) hb); (try clear hb); (try clear hb2); (try clear hk); (try clear hi)))
          go_ret
          exact ⟨ew_, bl_⟩
         ·rw [if_neg c39] at H
          have c39b0 : (a2_0 == 15) = false := beq_eq_false_iff_ne.mpr c39; have c39b1 : (a2_0 != 15) = true := bne_iff_ne.mpr c39; obtain rfl := Option.some.inj H; have hnb45 := NB253_254.out; have hnc45 := NB254_253.out; obtain ⟨hcz46_0, hcz46_1, hcz46_2, hcz46_3, hcz46_4, hcz46_5, hcz46_6, hcz46_7, hcz46_8, hfz46_0, hfz46_1, hfz46_2, hfz46_3, hfz46_4, hfz46_5, hfz46_6, hfz46_7, hfz46_8⟩ := bw9_ BK253.out; obtain ⟨hcz47_0, hcz47_1, hcz47_2, hcz47_3, hcz47_4, hcz47_5, hcz47_6, hcz47_7, hcz47_8, hfz47_0, hfz47_1, hfz47_2, hfz47_3, hfz47_4, hfz47_5, hfz47_6, hfz47_7, hfz47_8⟩ := bw9_ BK254.out
          go_wp2
          go_ret
          exact ⟨ew_, bl_⟩
        ·rw [if_neg c38] at H
         have c38b0 : (a1_0 == 15) = false := beq_eq_false_iff_ne.mpr c38; have c38b1 : (a1_0 != 15) = true := bne_iff_ne.mpr c38; obtain rfl := Option.some.inj H; have hnb48 := NB253_254.out; have hnc48 := NB254_253.out; obtain ⟨hcz49_0, hcz49_1, hcz49_2, hcz49_3, hcz49_4, hcz49_5, hcz49_6, hcz49_7, hcz49_8, hfz49_0, hfz49_1, hfz49_2, hfz49_3, hfz49_4, hfz49_5, hfz49_6, hfz49_7, hfz49_8⟩ := bw9_ BK253.out
         go_wp2
         go_ret
         exact ⟨ew_, bl_⟩
       ·rw [if_neg c37] at H
        have c37b0 : (a0 == 1) = false := beq_eq_false_iff_ne.mpr c37; have c37b1 : (a0 != 1) = true := bne_iff_ne.mpr c37; obtain rfl := Option.some.inj H
        go_wp2
        go_ret
        exact ⟨ew_, bl_⟩
end Go.Proofs.Ytcfgjaggccnoaaa.PCostShares
namespace Go.Proofs.Ytcfgjaggccnoaaa.PCostShares
open Go.RowKit Go.Proofs.YtcfgjaggccnoaaaW.PrintWords Go.Proofs.YtcfgjaggccnoaaaW.PrintLast Go.Proofs.YtcfgjaggccnoaaaW.PrintMore
attribute [local go_sem] max2_int min2_int max_two min_two max_three min_three max_four min_four
set_option linter.unusedVariables false
set_option maxHeartbeats 8000000
set_option linter.unusedSimpArgs false
set_option maxRecDepth 100000
mutual
def cost_Share.j0 : Nat → List (S103) → Bool → Int → ByteArray → ByteArray → Int → Int → Int → Int → ByteArray → List (S27) → Option (Nat)
 | 0, _, _, _, _, _, _, _, _, _, _, _ => none
 | k + 1, x1, x5, x262000, x262001, x262002, x262003, x262004, x262005, x262006, x262007, x262008 => if x5 = true then (if 0 < (x262008.length : Int) then ((cost_Share.f k ((rd_T27 x262008 0).f0) ((rd_T27 x262008 0).f1) ((rd_T27 x262008 0).f2) ((rd_T27 x262008 0).f3) ((rd_T27 x262008 0).f4) ((rd_T27 x262008 0).f5.f0) ((rd_T27 x262008 0).f5.f1) ((rd_T27 x262008 0).f5.f2) ((rd_T27 x262008 0).f6) x1).bind fun t263 => (if 1 < (x262008.length : Int) then ((cost_Share.f k ((rd_T27 x262008 1).f0) ((rd_T27 x262008 1).f1) ((rd_T27 x262008 1).f2) ((rd_T27 x262008 1).f3) ((rd_T27 x262008 1).f4) ((rd_T27 x262008 1).f5.f0) ((rd_T27 x262008 1).f5.f1) ((rd_T27 x262008 1).f5.f2) ((rd_T27 x262008 1).f6) x1).bind fun t265 => ((frac_And.f (([t263, t265] : List Nat))).bind fun t269 => (some t269))) else (none))) else (none)) else (if x262000 = 11 then (cost_Share.j1 k x1 ((x262008.length : Int) == 2) x262000 x262001 x262002 x262003 x262004 x262005 x262006 x262007 x262008) else (cost_Share.j1 k x1 false x262000 x262001 x262002 x262003 x262004 x262005 x262006 x262007 x262008))
def cost_Share.j1 : Nat → List (S103) → Bool → Int → ByteArray → ByteArray → Int → Int → Int → Int → ByteArray → List (S27) → Option (Nat)
 | 0, _, _, _, _, _, _, _, _, _, _, _ => none
 | k + 1, x1, x29, x262000, x262001, x262002, x262003, x262004, x262005, x262006, x262007, x262008 => if x29 = true then (if 0 < (x262008.length : Int) then ((cost_Share.f k ((rd_T27 x262008 0).f0) ((rd_T27 x262008 0).f1) ((rd_T27 x262008 0).f2) ((rd_T27 x262008 0).f3) ((rd_T27 x262008 0).f4) ((rd_T27 x262008 0).f5.f0) ((rd_T27 x262008 0).f5.f1) ((rd_T27 x262008 0).f5.f2) ((rd_T27 x262008 0).f6) x1).bind fun t271 => (if 1 < (x262008.length : Int) then ((cost_Share.f k ((rd_T27 x262008 1).f0) ((rd_T27 x262008 1).f1) ((rd_T27 x262008 1).f2) ((rd_T27 x262008 1).f3) ((rd_T27 x262008 1).f4) ((rd_T27 x262008 1).f5.f0) ((rd_T27 x262008 1).f5.f1) ((rd_T27 x262008 1).f5.f2) ((rd_T27 x262008 1).f6) x1).bind fun t273 => ((frac_Or.f t271 t273).bind fun t274 => (some t274))) else (none))) else (none)) else (if x262000 = 12 then (cost_Share.j2 k x1 ((x262008.length : Int) == 1) x262000 x262001 x262002 x262003 x262004 x262005 x262006 x262007 x262008) else (cost_Share.j2 k x1 false x262000 x262001 x262002 x262003 x262004 x262005 x262006 x262007 x262008))
def cost_Share.j2 : Nat → List (S103) → Bool → Int → ByteArray → ByteArray → Int → Int → Int → Int → ByteArray → List (S27) → Option (Nat)
 | 0, _, _, _, _, _, _, _, _, _, _, _ => none
 | k + 1, x1, x52, x262000, x262001, x262002, x262003, x262004, x262005, x262006, x262007, x262008 => if x52 = true then (if 0 < (x262008.length : Int) then ((cost_Share.f k ((rd_T27 x262008 0).f0) ((rd_T27 x262008 0).f1) ((rd_T27 x262008 0).f2) ((rd_T27 x262008 0).f3) ((rd_T27 x262008 0).f4) ((rd_T27 x262008 0).f5.f0) ((rd_T27 x262008 0).f5.f1) ((rd_T27 x262008 0).f5.f2) ((rd_T27 x262008 0).f6) x1).bind fun t276 => ((frac_Not.f t276).bind fun t277 => (some t277))) else (none)) else (if x262000 = 13 then (if (x262008.length : Int) = 1 then (if 0 < (x262008.length : Int) then (cost_Share.j3 k x1 (((rd_T27 x262008 0).f0) == 15) x262000 x262001 x262002 x262003 x262004 x262005 x262006 x262007 x262008) else (none)) else (cost_Share.j3 k x1 false x262000 x262001 x262002 x262003 x262004 x262005 x262006 x262007 x262008)) else (cost_Share.j3 k x1 false x262000 x262001 x262002 x262003 x262004 x262005 x262006 x262007 x262008))
def cost_Share.j3 : Nat → List (S103) → Bool → Int → ByteArray → ByteArray → Int → Int → Int → Int → ByteArray → List (S27) → Option (Nat)
 | 0, _, _, _, _, _, _, _, _, _, _, _ => none
 | k + 1, x1, x69, x262000, x262001, x262002, x262003, x262004, x262005, x262006, x262007, x262008 => if x69 = true then (if 0 < (x262008.length : Int) then ((cost_nulls.f k ((rd_T27 x262008 0).f0) ((rd_T27 x262008 0).f1) ((rd_T27 x262008 0).f2) ((rd_T27 x262008 0).f3) ((rd_T27 x262008 0).f4) ((rd_T27 x262008 0).f5.f0) ((rd_T27 x262008 0).f5.f1) ((rd_T27 x262008 0).f5.f2) ((rd_T27 x262008 0).f6) x1).bind fun t280 => (some t280)) else (none)) else (if x262000 = 14 then (if (x262008.length : Int) = 1 then (if 0 < (x262008.length : Int) then (cost_Share.j4 k x1 (((rd_T27 x262008 0).f0) == 15) x262000 x262001 x262002 x262003 x262004 x262005 x262006 x262007 x262008) else (none)) else (cost_Share.j4 k x1 false x262000 x262001 x262002 x262003 x262004 x262005 x262006 x262007 x262008)) else (cost_Share.j4 k x1 false x262000 x262001 x262002 x262003 x262004 x262005 x262006 x262007 x262008))
def cost_Share.j4 : Nat → List (S103) → Bool → Int → ByteArray → ByteArray → Int → Int → Int → Int → ByteArray → List (S27) → Option (Nat)
 | 0, _, _, _, _, _, _, _, _, _, _, _ => none
 | k + 1, x1, x93, x262000, x262001, x262002, x262003, x262004, x262005, x262006, x262007, x262008 => if x93 = true then (if 0 < (x262008.length : Int) then ((cost_nulls.f k ((rd_T27 x262008 0).f0) ((rd_T27 x262008 0).f1) ((rd_T27 x262008 0).f2) ((rd_T27 x262008 0).f3) ((rd_T27 x262008 0).f4) ((rd_T27 x262008 0).f5.f0) ((rd_T27 x262008 0).f5.f1) ((rd_T27 x262008 0).f5.f2) ((rd_T27 x262008 0).f6) x1).bind fun t283 => ((frac_Not.f t283).bind fun t284 => (some t284))) else (none)) else (if x262000 ≥ 1 then (if x262000 ≤ 6 then (if (x262008.length : Int) = 2 then (if 0 < (x262008.length : Int) then (if 1 < (x262008.length : Int) then ((cost_test.f k x262000 ((rd_T27 x262008 0).f0) ((rd_T27 x262008 0).f1) ((rd_T27 x262008 0).f2) ((rd_T27 x262008 0).f3) ((rd_T27 x262008 0).f4) ((rd_T27 x262008 0).f5.f0) ((rd_T27 x262008 0).f5.f1) ((rd_T27 x262008 0).f5.f2) ((rd_T27 x262008 0).f6) ((rd_T27 x262008 1).f0) ((rd_T27 x262008 1).f1) ((rd_T27 x262008 1).f2) ((rd_T27 x262008 1).f3) ((rd_T27 x262008 1).f4) ((rd_T27 x262008 1).f5.f0) ((rd_T27 x262008 1).f5.f1) ((rd_T27 x262008 1).f5.f2) ((rd_T27 x262008 1).f6) x1).bind fun t287 => (some t287)) else (none)) else (none)) else (some 4602678819172646912)) else (some 4602678819172646912)) else (some 4602678819172646912))
def cost_Share.f : Nat → Int → ByteArray → ByteArray → Int → Int → Int → Int → ByteArray → List (S27) → List (S103) → Option (Nat)
 | 0, _, _, _, _, _, _, _, _, _, _ => none
 | k + 1, a0_0, a0_1, a0_2, a0_3, a0_4, a0_5, a0_6, a0_7, l0_8, l1 => if a0_0 = 10 then (cost_Share.j0 k l1 ((l0_8.length : Int) == 2) a0_0 a0_1 a0_2 a0_3 a0_4 a0_5 a0_6 a0_7 l0_8) else (cost_Share.j0 k l1 false a0_0 a0_1 a0_2 a0_3 a0_4 a0_5 a0_6 a0_7 l0_8)
end
theorem cost_Share.mono_l : ∀ k, (∀ y0 y1 y2 y3 y4 y5 y6 y7 y8 y9, LeO (cost_Share.f k y0 y1 y2 y3 y4 y5 y6 y7 y8 y9) (cost_Share.f (k + 1) y0 y1 y2 y3 y4 y5 y6 y7 y8 y9)) ∧ (∀ y0 y1 y2 y3 y4 y5 y6 y7 y8 y9 y10, LeO (cost_Share.j0 k y0 y1 y2 y3 y4 y5 y6 y7 y8 y9 y10) (cost_Share.j0 (k + 1) y0 y1 y2 y3 y4 y5 y6 y7 y8 y9 y10)) ∧ (∀ y0 y1 y2 y3 y4 y5 y6 y7 y8 y9 y10, LeO (cost_Share.j1 k y0 y1 y2 y3 y4 y5 y6 y7 y8 y9 y10) (cost_Share.j1 (k + 1) y0 y1 y2 y3 y4 y5 y6 y7 y8 y9 y10)) ∧ (∀ y0 y1 y2 y3 y4 y5 y6 y7 y8 y9 y10, LeO (cost_Share.j2 k y0 y1 y2 y3 y4 y5 y6 y7 y8 y9 y10) (cost_Share.j2 (k + 1) y0 y1 y2 y3 y4 y5 y6 y7 y8 y9 y10)) ∧ (∀ y0 y1 y2 y3 y4 y5 y6 y7 y8 y9 y10, LeO (cost_Share.j3 k y0 y1 y2 y3 y4 y5 y6 y7 y8 y9 y10) (cost_Share.j3 (k + 1) y0 y1 y2 y3 y4 y5 y6 y7 y8 y9 y10)) ∧ (∀ y0 y1 y2 y3 y4 y5 y6 y7 y8 y9 y10, LeO (cost_Share.j4 k y0 y1 y2 y3 y4 y5 y6 y7 y8 y9 y10) (cost_Share.j4 (k + 1) y0 y1 y2 y3 y4 y5 y6 y7 y8 y9 y10))
 | 0 => ⟨fun _ _ _ _ _ _ _ _ _ _ r h => by simp [cost_Share.f] at h, fun _ _ _ _ _ _ _ _ _ _ _ r h => by simp [cost_Share.j0] at h, fun _ _ _ _ _ _ _ _ _ _ _ r h => by simp [cost_Share.j1] at h, fun _ _ _ _ _ _ _ _ _ _ _ r h => by simp [cost_Share.j2] at h, fun _ _ _ _ _ _ _ _ _ _ _ r h => by simp [cost_Share.j3] at h, fun _ _ _ _ _ _ _ _ _ _ _ r h => by simp [cost_Share.j4] at h⟩
 | k + 1 => by
  obtain ⟨ih0, ih1, ih2, ih3, ih4, ih5⟩ := cost_Share.mono_l k; refine ⟨?_, ?_, ?_, ?_, ?_, ?_⟩
  ·intro y0 y1 y2 y3 y4 y5 y6 y7 y8 y9
   unfold cost_Share.f
   repeat' first
   | (with_reducible exact ih0 _ _ _ _ _ _ _ _ _ _)
   | (with_reducible exact ih1 _ _ _ _ _ _ _ _ _ _ _)
   | (with_reducible exact ih2 _ _ _ _ _ _ _ _ _ _ _)
   | (with_reducible exact ih3 _ _ _ _ _ _ _ _ _ _ _)
   | (with_reducible exact ih4 _ _ _ _ _ _ _ _ _ _ _)
   | (with_reducible exact ih5 _ _ _ _ _ _ _ _ _ _ _)
   | (with_reducible exact cost_nulls.mono _ _ _ _ _ _ _ _ _ _ _)
   | (with_reducible exact cost_test.mono _ _ _ _ _ _ _ _ _ _ _ _ _ _ _ _ _ _ _ _ _)
   | (with_reducible exact LeO.refl _)
   | (with_reducible exact LeO.none _)
   | (with_reducible refine LeO.ite ?_ ?_)
   | (with_reducible refine LeO.bind ?_ (fun _ => ?_))
   | exact ih0 _ _ _ _ _ _ _ _ _ _
   | exact ih1 _ _ _ _ _ _ _ _ _ _ _
   | exact ih2 _ _ _ _ _ _ _ _ _ _ _
   | exact ih3 _ _ _ _ _ _ _ _ _ _ _
   | exact ih4 _ _ _ _ _ _ _ _ _ _ _
   | exact ih5 _ _ _ _ _ _ _ _ _ _ _
   | exact cost_nulls.mono _ _ _ _ _ _ _ _ _ _ _
   | exact cost_test.mono _ _ _ _ _ _ _ _ _ _ _ _ _ _ _ _ _ _ _ _ _
   | exact LeO.none _
   | refine LeO.ite ?_ ?_
   | refine LeO.bind ?_ (fun _ => ?_)
  ·intro y0 y1 y2 y3 y4 y5 y6 y7 y8 y9 y10
   unfold cost_Share.j0
   repeat' first
   | (with_reducible exact ih0 _ _ _ _ _ _ _ _ _ _)
   | (with_reducible exact ih1 _ _ _ _ _ _ _ _ _ _ _)
   | (with_reducible exact ih2 _ _ _ _ _ _ _ _ _ _ _)
   | (with_reducible exact ih3 _ _ _ _ _ _ _ _ _ _ _)
   | (with_reducible exact ih4 _ _ _ _ _ _ _ _ _ _ _)
   | (with_reducible exact ih5 _ _ _ _ _ _ _ _ _ _ _)
   | (with_reducible exact cost_nulls.mono _ _ _ _ _ _ _ _ _ _ _)
   | (with_reducible exact cost_test.mono _ _ _ _ _ _ _ _ _ _ _ _ _ _ _ _ _ _ _ _ _)
   | (with_reducible exact LeO.refl _)
   | (with_reducible exact LeO.none _)
   | (with_reducible refine LeO.ite ?_ ?_)
   | (with_reducible refine LeO.bind ?_ (fun _ => ?_))
   | exact ih0 _ _ _ _ _ _ _ _ _ _
   | exact ih1 _ _ _ _ _ _ _ _ _ _ _
   | exact ih2 _ _ _ _ _ _ _ _ _ _ _
   | exact ih3 _ _ _ _ _ _ _ _ _ _ _
   | exact ih4 _ _ _ _ _ _ _ _ _ _ _
   | exact ih5 _ _ _ _ _ _ _ _ _ _ _
   | exact cost_nulls.mono _ _ _ _ _ _ _ _ _ _ _
   | exact cost_test.mono _ _ _ _ _ _ _ _ _ _ _ _ _ _ _ _ _ _ _ _ _
   | exact LeO.none _
   | refine LeO.ite ?_ ?_
   | refine LeO.bind ?_ (fun _ => ?_)
  ·intro y0 y1 y2 y3 y4 y5 y6 y7 y8 y9 y10
   unfold cost_Share.j1
   repeat' first
   | (with_reducible exact ih0 _ _ _ _ _ _ _ _ _ _)
   | (with_reducible exact ih1 _ _ _ _ _ _ _ _ _ _ _)
   | (with_reducible exact ih2 _ _ _ _ _ _ _ _ _ _ _)
   | (with_reducible exact ih3 _ _ _ _ _ _ _ _ _ _ _)
   | (with_reducible exact ih4 _ _ _ _ _ _ _ _ _ _ _)
   | (with_reducible exact ih5 _ _ _ _ _ _ _ _ _ _ _)
   | (with_reducible exact cost_nulls.mono _ _ _ _ _ _ _ _ _ _ _)
   | (with_reducible exact cost_test.mono _ _ _ _ _ _ _ _ _ _ _ _ _ _ _ _ _ _ _ _ _)
   | (with_reducible exact LeO.refl _)
   | (with_reducible exact LeO.none _)
   | (with_reducible refine LeO.ite ?_ ?_)
   | (with_reducible refine LeO.bind ?_ (fun _ => ?_))
   | exact ih0 _ _ _ _ _ _ _ _ _ _
   | exact ih1 _ _ _ _ _ _ _ _ _ _ _
   | exact ih2 _ _ _ _ _ _ _ _ _ _ _
   | exact ih3 _ _ _ _ _ _ _ _ _ _ _
   | exact ih4 _ _ _ _ _ _ _ _ _ _ _
   | exact ih5 _ _ _ _ _ _ _ _ _ _ _
   | exact cost_nulls.mono _ _ _ _ _ _ _ _ _ _ _
   | exact cost_test.mono _ _ _ _ _ _ _ _ _ _ _ _ _ _ _ _ _ _ _ _ _
   | exact LeO.none _
   | refine LeO.ite ?_ ?_
   | refine LeO.bind ?_ (fun _ => ?_)
  ·intro y0 y1 y2 y3 y4 y5 y6 y7 y8 y9 y10
   unfold cost_Share.j2
   repeat' first
   | (with_reducible exact ih0 _ _ _ _ _ _ _ _ _ _)
   | (with_reducible exact ih1 _ _ _ _ _ _ _ _ _ _ _)
   | (with_reducible exact ih2 _ _ _ _ _ _ _ _ _ _ _)
   | (with_reducible exact ih3 _ _ _ _ _ _ _ _ _ _ _)
   | (with_reducible exact ih4 _ _ _ _ _ _ _ _ _ _ _)
   | (with_reducible exact ih5 _ _ _ _ _ _ _ _ _ _ _)
   | (with_reducible exact cost_nulls.mono _ _ _ _ _ _ _ _ _ _ _)
   | (with_reducible exact cost_test.mono _ _ _ _ _ _ _ _ _ _ _ _ _ _ _ _ _ _ _ _ _)
   | (with_reducible exact LeO.refl _)
   | (with_reducible exact LeO.none _)
   | (with_reducible refine LeO.ite ?_ ?_)
   | (with_reducible refine LeO.bind ?_ (fun _ => ?_))
   | exact ih0 _ _ _ _ _ _ _ _ _ _
   | exact ih1 _ _ _ _ _ _ _ _ _ _ _
   | exact ih2 _ _ _ _ _ _ _ _ _ _ _
   | exact ih3 _ _ _ _ _ _ _ _ _ _ _
   | exact ih4 _ _ _ _ _ _ _ _ _ _ _
   | exact ih5 _ _ _ _ _ _ _ _ _ _ _
   | exact cost_nulls.mono _ _ _ _ _ _ _ _ _ _ _
   | exact cost_test.mono _ _ _ _ _ _ _ _ _ _ _ _ _ _ _ _ _ _ _ _ _
   | exact LeO.none _
   | refine LeO.ite ?_ ?_
   | refine LeO.bind ?_ (fun _ => ?_)
  ·intro y0 y1 y2 y3 y4 y5 y6 y7 y8 y9 y10
   unfold cost_Share.j3
   repeat' first
   | (with_reducible exact ih0 _ _ _ _ _ _ _ _ _ _)
   | (with_reducible exact ih1 _ _ _ _ _ _ _ _ _ _ _)
   | (with_reducible exact ih2 _ _ _ _ _ _ _ _ _ _ _)
   | (with_reducible exact ih3 _ _ _ _ _ _ _ _ _ _ _)
   | (with_reducible exact ih4 _ _ _ _ _ _ _ _ _ _ _)
   | (with_reducible exact ih5 _ _ _ _ _ _ _ _ _ _ _)
   | (with_reducible exact cost_nulls.mono _ _ _ _ _ _ _ _ _ _ _)
   | (with_reducible exact cost_test.mono _ _ _ _ _ _ _ _ _ _ _ _ _ _ _ _ _ _ _ _ _)
   | (with_reducible exact LeO.refl _)
   | (with_reducible exact LeO.none _)
   | (with_reducible refine LeO.ite ?_ ?_)
   | (with_reducible refine LeO.bind ?_ (fun _ => ?_))
   | exact ih0 _ _ _ _ _ _ _ _ _ _
   | exact ih1 _ _ _ _ _ _ _ _ _ _ _
   | exact ih2 _ _ _ _ _ _ _ _ _ _ _
   | exact ih3 _ _ _ _ _ _ _ _ _ _ _
   | exact ih4 _ _ _ _ _ _ _ _ _ _ _
   | exact ih5 _ _ _ _ _ _ _ _ _ _ _
   | exact cost_nulls.mono _ _ _ _ _ _ _ _ _ _ _
   | exact cost_test.mono _ _ _ _ _ _ _ _ _ _ _ _ _ _ _ _ _ _ _ _ _
   | exact LeO.none _
   | refine LeO.ite ?_ ?_
   | refine LeO.bind ?_ (fun _ => ?_)
  ·intro y0 y1 y2 y3 y4 y5 y6 y7 y8 y9 y10
   unfold cost_Share.j4
   repeat' first
   | (with_reducible exact ih0 _ _ _ _ _ _ _ _ _ _)
   | (with_reducible exact ih1 _ _ _ _ _ _ _ _ _ _ _)
   | (with_reducible exact ih2 _ _ _ _ _ _ _ _ _ _ _)
   | (with_reducible exact ih3 _ _ _ _ _ _ _ _ _ _ _)
   | (with_reducible exact ih4 _ _ _ _ _ _ _ _ _ _ _)
   | (with_reducible exact ih5 _ _ _ _ _ _ _ _ _ _ _)
   | (with_reducible exact cost_nulls.mono _ _ _ _ _ _ _ _ _ _ _)
   | (with_reducible exact cost_test.mono _ _ _ _ _ _ _ _ _ _ _ _ _ _ _ _ _ _ _ _ _)
   | (with_reducible exact LeO.refl _)
   | (with_reducible exact LeO.none _)
   | (with_reducible refine LeO.ite ?_ ?_)
   | (with_reducible refine LeO.bind ?_ (fun _ => ?_))
   | exact ih0 _ _ _ _ _ _ _ _ _ _
   | exact ih1 _ _ _ _ _ _ _ _ _ _ _
   | exact ih2 _ _ _ _ _ _ _ _ _ _ _
   | exact ih3 _ _ _ _ _ _ _ _ _ _ _
   | exact ih4 _ _ _ _ _ _ _ _ _ _ _
   | exact ih5 _ _ _ _ _ _ _ _ _ _ _
   | exact cost_nulls.mono _ _ _ _ _ _ _ _ _ _ _
   | exact cost_test.mono _ _ _ _ _ _ _ _ _ _ _ _ _ _ _ _ _ _ _ _ _
   | exact LeO.none _
   | refine LeO.ite ?_ ?_
   | refine LeO.bind ?_ (fun _ => ?_)
theorem cost_Share.mono : ∀ a0 a1 a2 a3 a4 a5 a6 a7 a8 a9 k, LeO (cost_Share.f k a0 a1 a2 a3 a4 a5 a6 a7 a8 a9) (cost_Share.f (k + 1) a0 a1 a2 a3 a4 a5 a6 a7 a8 a9) := by
 intro a0 a1 a2 a3 a4 a5 a6 a7 a8 a9 k; obtain ⟨ih0, ih1, ih2, ih3, ih4, ih5⟩ := cost_Share.mono_l k; exact ih0 a0 a1 a2 a3 a4 a5 a6 a7 a8 a9
def cost_Share.T2 : Bool × List (List Nat × List Nat) := (true, [([], []), ([0], [0]), ([1], [1]), ([2], [2]), ([], []), ([3, 4], [3, 4]), ([], []), ([6], [6]), ([7], [7]), ([8], [8]), ([], []), ([9, 10, 5], [9, 10]), ([5, 11], [5, 11]), ([12, 11], [12]), ([13, 13, 0, 1, 2, 3, 4, 5, 6, 7, 8, 9, 10, 11, 12, 13], [13])])
def cost_Share.B2 : List Nat := [0, 1, 3, 7, 0, 31, 0, 64, 192, 448, 0, 2047, 4095, 8191, 16383]
theorem cost_Share.tab2 : rtab .any (opsOf Try.f25 2) = cost_Share.T2 := by kernel_rfl
theorem cost_Share.bits2 : waitsOk cost_Share.T2.2 cost_Share.B2 = true := by kernel_rfl
def cost_Share.T4 : Bool × List (List Nat × List Nat) := (true, [([], []), ([0], [0]), ([1], [1]), ([2], [2]), ([], []), ([3, 4], [3, 4]), ([], []), ([6], [6]), ([7], [7]), ([8], [8]), ([], []), ([9, 10, 5], [9, 10]), ([5, 11, 11], [5, 11]), ([12, 12, 0, 1, 2, 3, 4, 5, 6, 7, 8, 9, 10, 11, 12], [12])])
def cost_Share.B4 : List Nat := [0, 1, 3, 7, 0, 31, 0, 64, 192, 448, 0, 2047, 4095, 8191]
theorem cost_Share.tab4 : rtab .any (opsOf Try.f25 4) = cost_Share.T4 := by kernel_rfl
theorem cost_Share.bits4 : waitsOk cost_Share.T4.2 cost_Share.B4 = true := by kernel_rfl
def cost_Share.T12 : Bool × List (List Nat × List Nat) := (true, [([], []), ([0], [0]), ([], []), ([2], [2]), ([3], [3]), ([4], [4]), ([], []), ([6], [6]), ([7], [7]), ([8], [8]), ([], []), ([1, 5, 9, 10], [1, 5, 9, 10]), ([11, 11, 0, 1, 2, 3, 4, 5, 6, 7, 8, 9, 10, 11], [11])])
def cost_Share.B12 : List Nat := [0, 1, 0, 4, 12, 28, 0, 64, 192, 448, 0, 2047, 4095]
theorem cost_Share.tab12 : rtab .any (opsOf Try.f25 12) = cost_Share.T12 := by kernel_rfl
theorem cost_Share.bits12 : waitsOk cost_Share.T12.2 cost_Share.B12 = true := by kernel_rfl
end Go.Proofs.Ytcfgjaggccnoaaa.PCostShares
