-- Written by wip/pack.py, a program of mine: the texts that this law stands on, as far as it uses them; Lean checks it.
import Derived.Test.YtcfgjaggccnoaaaProg
import Derived.Below
import Derived.Deep.Draws
import Derived.Deep.AppendLies
import Derived.Maps.AppendAt
import Derived.OwnWalk
import Derived.Laws.BytesArg
import Derived.Laws.MakeOwn
import Derived.Laws.OwnMore
import Derived.Deep.OwnRows
import Derived.Tactics
import Derived.Lib.ConvBytes
import Derived.Laws.Slices
import Derived.WalkKit
import Derived.KernelRfl
import Derived.RowKit3
import Derived.Deep.LoopGhost
import Derived.Deep.QuietTactic
import Derived.BigQuiet
import Derived.WideLaws
import Derived.Deep.DeepCutAuto
import Derived.Deep.CutBlock
import Derived.Deep.RegionHeld3
import Derived.Laws.Rows
import Derived.Lib.AppendStr
import Derived.ArgAppend
import Derived.Laws.IdiomCopy
import Derived.RowKit
import Derived.OrdersHeld
import Derived.Laws.BitsLemmas
import Ieee.Arith
import GoSem.Core.Float
import Derived.Laws.FloatArith
import Derived.Laws.Externs
import GoSem.Extern.MathFloatBits
import Derived.Laws.StructEq
import Derived.Lib.BitFns
import Derived.Lib.Hide
import Derived.Lib.Slices
import Derived.Lib.Small
import Derived.Lib.Strings
import Derived.Lib.Walk
import Derived.StillTailTactics
import Derived.Lib.SliceRun
import Derived.ChangeSlices
import Derived.ChangeOld
import Derived.SizedLaws
import Derived.ProofKit
import Derived.OpenShut
import Derived.Carry
import Derived.Test.YtcfgjaggccnoaaaZCostShares4
namespace Go.Proofs.Ytcfgjaggccnoaaa.PCostShares
open Go.RowKit Go.Proofs.YtcfgjaggccnoaaaW.PrintWords Go.Proofs.YtcfgjaggccnoaaaW.PrintLast Go.Proofs.YtcfgjaggccnoaaaW.PrintMore
attribute [local go_sem] max2_int min2_int max_two min_two max_three min_three max_four min_four
set_option linter.unusedVariables false
set_option maxHeartbeats 8000000
set_option linter.unusedSimpArgs false
set_option maxRecDepth 100000
theorem r29_Share.th1 {x : S27} {st : List S103} {A0 A1 : Option Addr} {c0 c1 : Nat} {w : World} (hx : Kd.C k27 w A0 x.f6.length x.f6) (hc0 : x.f6.length ≤ c0) (hs : Kd.C k103 w A1 st.length st) (hc1 : st.length ≤ c1) {k : Nat} (ih : r29_Share.Ok k st) (hl : x.f6.length = 2) (h1 : 1 ≤ x.f0) (h6 : x.f0 ≤ 6) (fa : (rd_T27 x.f6 0).f0 ≠ 15) (fb : (rd_T27 x.f6 1).f0 ≠ 15)  :
  Calls Try.prog 27 #[.agg #[.int .i64 x.f0, .string x.f1, .string x.f2, .int .i64 x.f3, .int .i64 x.f4, .int .i64 x.f5.f0, .int .i64 x.f5.f1, .string x.f5.f2, .slice A0 x.f6.length c0], .slice A1 st.length c1] w fun e w' => e = .returned (.float .f64 4602678819172646912) ∧ Below w.heap.size w w' := by
 have HX := Lib.hid hx; have HS := Lib.hid hs; have HC := Lib.hid (And.intro hc0 hc1); have IH := Lib.hid ih
 have n2 : ((x.f6.length : Int) == 2) = true := beq_iff_eq.2 (by omega); have n2' : ((x.f6.length : Int) != 2) = false := bne_eq_false_iff_eq.2 (by omega); have n1 : ((x.f6.length : Int) == 1) = false := beq_eq_false_iff_ne.2 (by omega); have o10 : (x.f0 == 10) = false := beq_eq_false_iff_ne.2 (by omega); have o11 : (x.f0 == 11) = false := beq_eq_false_iff_ne.2 (by omega); have lo : (decide (x.f0 < 1)) = false := decide_eq_false (by omega); have hi : (decide (6 < x.f0)) = false := decide_eq_false (by omega)
 have hl2 : (x.f6.length : Int) = 2 := by omega
 have ca : ((rd_T27 x.f6 0).f0 == 15) = false := beq_eq_false_iff_ne.2 (by omega); have cb : ((rd_T27 x.f6 1).f0 == 15) = false := beq_eq_false_iff_ne.2 (by omega); clear hx hs hc0 hc1 ih fa fb
 go_enter Try.func27, Try.ntmps27
 go_wp2_with (((with_reducible refine gate_dst (N := 2) rfl ?_); refine box_event ?hg (N := 2) ?hd (cs := #[.int .i64 x.f0, .string x.f1, .string x.f2, .int .i64 x.f3, .int .i64 x.f4, .int .i64 x.f5.f0, .int .i64 x.f5.f1, .string x.f5.f2, .slice A0 x.f6.length c0]) (t := 27) ?hr ?_; (case hd => rfl); (case hg => rfl); (case hr => first | (go_simp; done) | (go_simp; rfl)); intro g hg_ wb hb_ hl_; have BK := Lib.hid hb_; have BB := Lib.hid hl_; have HG := Lib.hid (Nat.le_of_eq hg_.symm); obtain ⟨p0, p1, p2, p3, p4, p5, p6, p7, p8, q0, q1, q2, q3, q4, q5, q6, q7, q8⟩ := bw9_  hb_; clear hb_ hl_ hg_; simp only [Act.put, sa_, sz_, ss_]))
 have m0 : (Int.toNat 0 * 9) = 0 := rfl; have m1 : (Int.toNat 1 * 9) = 9 := rfl; obtain ⟨ada, Ga, da, ea, xa0, xa1, xa2, xa3, xa4, xa5, xa6, xa7, xa8, la, ia⟩ := at_T27 (Kd.C_below HX.out BB.out) 0 (by decide) (by omega); subst ea; obtain ⟨adb, Gb, db, eb, xb0, xb1, xb2, xb3, xb4, xb5, xb6, xb7, xb8, lb, ib⟩ := at_T27 (Kd.C_below HX.out BB.out) 1 (by decide) (by omega)
 obtain rfl : ada = adb := by injection eb
 clear eb
 have LA := Lib.hid (And.intro la ia); have LB := Lib.hid (And.intro lb ib); clear la ia lb ib
 have z0 : ada.add 0 = ada := by cases ada; simp [Addr.add]
 have z9 : ada.add 9 = ⟨ada.block, ada.off + 9, none⟩ := by have h := add_field ada 0 9 (by decide); rw [z0] at h; exact h
 simp only [m0, m1, z0, z9] at xa0 xa1 xa2 xa3 xa4 xa5 xa6 xa7 xa8 xb0 xb1 xb2 xb3 xb4 xb5 xb6 xb7 xb8; clear z0 z9; refine start_ (n := 12) (S := fun w' => Below wb.heap.size wb w') (ds := []) #[false, false, false, false, false, false, false, false, false, false, false, false] (by kernel_rfl) rfl rfl (Below.drew (Below.refl _ _)) (fun hHeld => ?_)
 generalize wb.drew = wc at hHeld ⊢
 refine pure_ (i := 0) (N := some 128) (v := ?_) (a' := ?_) #[true, false, false, false, false, false, false, false, false, false, false, false] rfl rfl (by kernel_rfl) (fun _ _ _ h => h) (Or.inl ⟨by rfl, ?_⟩) ?_ ?_; rotate_left
 ·intro w'
  go_simp; (with_reducible rfl)
 rotate_left
 ·simp only [Act.put, sa_, sz_, ss_, i64_w, i32_w]
  rfl
 refine take_ (i := 1) (N := some 129) (v := ?_) (a' := ?_) #[true, true, false, false, false, false, false, false, false, false, false, false] rfl rfl (by kernel_rfl) (fun _ _ _ h => h) (Or.inl ⟨by rfl, ?_⟩) hHeld ?_ ?_; rotate_left
 ·intro w' hS; obtain ⟨p0, p1, p2, p3, p4, p5, p6, p7, p8, q0, q1, q2, q3, q4, q5, q6, q7, q8⟩ := bw9_ (blk_below BK.out hS); go_simp; (with_reducible rfl)
 rotate_left
 ·simp only [Act.put, sa_, sz_, ss_, i64_w, i32_w]
  rfl
 refine pure_ (i := 2) (N := some 130) (v := ?_) (a' := ?_) #[true, true, true, false, false, false, false, false, false, false, false, false] rfl rfl (by kernel_rfl) (fun _ _ _ h => h) (Or.inl ⟨by rfl, ?_⟩) ?_ ?_; rotate_left
 ·intro w'
  go_simp; (with_reducible rfl)
 rotate_left
 ·simp only [Act.put, sa_, sz_, ss_, i64_w, i32_w]
  rfl
 refine take_ (i := 3) (N := some 131) (v := ?_) (a' := ?_) #[true, true, true, true, false, false, false, false, false, false, false, false] rfl rfl (by kernel_rfl) (fun _ _ _ h => h) (Or.inl ⟨by rfl, ?_⟩) hHeld ?_ ?_; rotate_left
 ·intro w' hS; have ua0 := pw_cell_below hS xa0; have ua1 := pw_cell_below hS xa1; have ua2 := pw_cell_below hS xa2; have ua3 := pw_cell_below hS xa3; have ua4 := pw_cell_below hS xa4; have ua5 := pw_cell_below hS xa5; have ua6 := pw_cell_below hS xa6; have ua7 := pw_cell_below hS xa7; have ua8 := pw_cell_below hS xa8; go_simp; (with_reducible rfl)
 rotate_left
 ·simp only [Act.put, sa_, sz_, ss_, i64_w, i32_w]
  rfl
 refine pure_ (i := 4) (N := some 132) (v := ?_) (a' := ?_) #[true, true, true, true, true, false, false, false, false, false, false, false] rfl rfl (by kernel_rfl) (fun _ _ _ h => h) (Or.inl ⟨by rfl, ?_⟩) ?_ ?_; rotate_left
 ·intro w'
  go_simp; (with_reducible rfl)
 rotate_left
 ·simp only [Act.put, sa_, sz_, ss_, i64_w, i32_w]
  rfl
 refine take_ (i := 5) (N := some 133) (v := ?_) (a' := ?_) #[true, true, true, true, true, true, false, false, false, false, false, false] rfl rfl (by kernel_rfl) (fun _ _ _ h => h) (Or.inl ⟨by rfl, ?_⟩) hHeld ?_ ?_; rotate_left
 ·intro w' hS; obtain ⟨p0, p1, p2, p3, p4, p5, p6, p7, p8, q0, q1, q2, q3, q4, q5, q6, q7, q8⟩ := bw9_ (blk_below BK.out hS); go_simp; (with_reducible rfl)
 rotate_left
 ·simp only [Act.put, sa_, sz_, ss_, i64_w, i32_w]
  rfl
 refine pure_ (i := 6) (N := some 134) (v := ?_) (a' := ?_) #[true, true, true, true, true, true, true, false, false, false, false, false] rfl rfl (by kernel_rfl) (fun _ _ _ h => h) (Or.inl ⟨by rfl, ?_⟩) ?_ ?_; rotate_left
 ·intro w'
  go_simp; (with_reducible rfl)
 rotate_left
 ·simp only [Act.put, sa_, sz_, ss_, i64_w, i32_w]
  rfl
 refine take_ (i := 7) (N := some 135) (v := ?_) (a' := ?_) #[true, true, true, true, true, true, true, true, false, false, false, false] rfl rfl (by kernel_rfl) (fun _ _ _ h => h) (Or.inl ⟨by rfl, ?_⟩) hHeld ?_ ?_; rotate_left
 ·intro w' hS; have ub0 := pw_cell_below hS xb0; have ub1 := pw_cell_below hS xb1; have ub2 := pw_cell_below hS xb2; have ub3 := pw_cell_below hS xb3; have ub4 := pw_cell_below hS xb4; have ub5 := pw_cell_below hS xb5; have ub6 := pw_cell_below hS xb6; have ub7 := pw_cell_below hS xb7; have ub8 := pw_cell_below hS xb8; go_simp; (with_reducible rfl)
 rotate_left
 ·simp only [Act.put, sa_, sz_, ss_, i64_w, i32_w]
  rfl
 refine two_ (i := 8) (j := 9) (Ni := some 7) (Nj := some 8) #[true, true, true, true, true, true, true, true, true, false, false, false] #[true, true, true, true, true, true, true, true, false, true, false, false] rfl rfl rfl rfl (by kernel_rfl) (by decide) (by decide) (fun K hK => ?arm1) (fun K hK => ?arm2)
 case' arm1 =>
  refine r29_Share.boxV (by rfl) rfl (cs := #[.int .i64 0, .string (⟨#[]⟩ : ByteArray), .string (⟨#[]⟩ : ByteArray), .int .i64 0, .int .i64 0, .int .i64 0, .int .i64 0, .string (⟨#[]⟩ : ByteArray), .slice none 0 0]) (t := 27) ?hr ?_; (case hr => first | (go_simp; done) | (go_simp; rfl)); intro ga hg_ w1 hb_ hl_; have G_ga := Lib.hid hb_; have X1 := Lib.hid (below_step hHeld hl_); have H_ga := Lib.hid (show wb.heap.size ≤ ga from by rw [hg_]; exact (hHeld).size); clear hb_ hl_ hg_; refine hK.out _ _ (X1.out) (fun hHeld => ?_); clear hK K; refine norm_ (a' := ?_) ?_ ?_; rotate_left
  ·show Act.put _ (some 7) _ = _
   simp only [Act.put, sa_, sz_, ss_, i64_w, i32_w]; rfl
  refine one_ (i := 9) (N := some 8) #[true, true, true, true, true, true, true, true, true, true, false, false] rfl rfl (by kernel_rfl) (by decide) (fun K hK => ?_)
  refine r29_Share.boxV (by rfl) rfl (cs := #[.int .i64 0, .string (⟨#[]⟩ : ByteArray), .string (⟨#[]⟩ : ByteArray), .int .i64 0, .int .i64 0, .int .i64 0, .int .i64 0, .string (⟨#[]⟩ : ByteArray), .slice none 0 0]) (t := 27) ?hr ?_; (case hr => first | (go_simp; done) | (go_simp; rfl)); intro gb hg_ w2 hb_ hl_; have G_gb := Lib.hid hb_; have X2 := Lib.hid (below_step X1.out hl_); have H_gb := Lib.hid (show wb.heap.size ≤ gb from by rw [hg_]; exact (X1.out).size); have NE := Lib.hid (show ga ≠ gb from by have h := blk_lt G_ga.out; rw [hg_]; exact Nat.ne_of_lt h); have GA := Lib.hid (blk_below G_ga.out hl_); have GB := G_gb; clear hb_ hl_ hg_; refine hK.out _ _ (X2.out) (fun hHeld => ?_); clear hK K; refine norm_ (a' := ?_) ?_ ?_; rotate_left
  ·show Act.put _ (some 8) _ = _
   simp only [Act.put, sa_, sz_, ss_, i64_w, i32_w]; rfl
  obtain ⟨z0, z1, z2, z3, z4, z5, z6, z7, z8, y0, y1, y2, y3, y4, y5, y6, y7, y8⟩ := bw9_ (GA.out)
  refine one_ (i := 10) (N := none) #[true, true, true, true, true, true, true, true, true, true, true, false] rfl rfl (by kernel_rfl) (by decide) (fun K hK => ?_); refine skip_ (w1 := ?W10a) ?A10a ?B10a ?C10a ?D10a; (case A10a => rfl); (case B10a => rfl)
  case C10a =>
   go_simp; rfl
  (with_reducible refine hK.out _ _ ?S10a (fun hHeld2 => ?_))
  case S10a => exact X2.out.trans (r29_Share.st_below (v0 := .int .i64 (rd_T27 x.f6 0).f0) (v1 := .string (rd_T27 x.f6 0).f1) (v2 := .string (rd_T27 x.f6 0).f2) (v3 := .int .i64 (rd_T27 x.f6 0).f3) (v4 := .int .i64 (rd_T27 x.f6 0).f4) (v5 := .int .i64 (rd_T27 x.f6 0).f5.f0) (v6 := .int .i64 (rd_T27 x.f6 0).f5.f1) (v7 := .string (rd_T27 x.f6 0).f5.f2) (v8 := .slice Ga (rd_T27 x.f6 0).f6.length da) H_ga.out)
  clear hK K; obtain ⟨V, hV, h1_, h2_, hB_⟩ := r29_Share.one_in (n := wb.heap.size) (w := wb) (a := ga) (v0 := .int .i64 (rd_T27 x.f6 0).f0) (v1 := .string (rd_T27 x.f6 0).f1) (v2 := .string (rd_T27 x.f6 0).f2) (v3 := .int .i64 (rd_T27 x.f6 0).f3) (v4 := .int .i64 (rd_T27 x.f6 0).f4) (v5 := .int .i64 (rd_T27 x.f6 0).f5.f0) (v6 := .int .i64 (rd_T27 x.f6 0).f5.f1) (v7 := .string (rd_T27 x.f6 0).f5.f2) (v8 := .slice Ga (rd_T27 x.f6 0).f6.length da) X2.out H_ga.out GA.out
  unfold r29_Share.st9 at hV; rw [← hV]; clear hV; have X3 := Lib.hid hB_; clear hB_ hHeld2
  have GB' := Lib.hid ((h2_ gb (fun e => NE.out e.symm)).trans GB.out); have VG' := Lib.hid ((h2_ _ (by have h := H_ga.out; have h' := blk_lt BK.out; omega)).trans (blk_below BK.out X2.out)); have GA' := Lib.hid h1_; clear h1_ h2_ GA GB X2
  clear z0 z1 z2 z3 z4 z5 z6 z7 z8 y0 y1 y2 y3 y4 y5 y6 y7 y8; obtain ⟨z0, z1, z2, z3, z4, z5, z6, z7, z8, y0, y1, y2, y3, y4, y5, y6, y7, y8⟩ := bw9_ (GB'.out)
  refine one_ (i := 11) (N := none) #[true, true, true, true, true, true, true, true, true, true, true, true] rfl rfl (by kernel_rfl) (by decide) (fun K hK => ?_); refine skip_ (w1 := ?W11a) ?A11a ?B11a ?C11a ?D11a; (case A11a => rfl); (case B11a => rfl)
  case C11a =>
   go_simp; rfl
  (with_reducible refine hK.out _ _ ?S11a (fun hHeld2 => ?_))
  case S11a => exact X3.out.trans (r29_Share.st_below (v0 := .int .i64 (rd_T27 x.f6 1).f0) (v1 := .string (rd_T27 x.f6 1).f1) (v2 := .string (rd_T27 x.f6 1).f2) (v3 := .int .i64 (rd_T27 x.f6 1).f3) (v4 := .int .i64 (rd_T27 x.f6 1).f4) (v5 := .int .i64 (rd_T27 x.f6 1).f5.f0) (v6 := .int .i64 (rd_T27 x.f6 1).f5.f1) (v7 := .string (rd_T27 x.f6 1).f5.f2) (v8 := .slice Gb (rd_T27 x.f6 1).f6.length db) H_gb.out)
  clear hK K; obtain ⟨V, hV, h1_, h2_, hB_⟩ := r29_Share.one_in (n := wb.heap.size) (w := wb) (a := gb) (v0 := .int .i64 (rd_T27 x.f6 1).f0) (v1 := .string (rd_T27 x.f6 1).f1) (v2 := .string (rd_T27 x.f6 1).f2) (v3 := .int .i64 (rd_T27 x.f6 1).f3) (v4 := .int .i64 (rd_T27 x.f6 1).f4) (v5 := .int .i64 (rd_T27 x.f6 1).f5.f0) (v6 := .int .i64 (rd_T27 x.f6 1).f5.f1) (v7 := .string (rd_T27 x.f6 1).f5.f2) (v8 := .slice Gb (rd_T27 x.f6 1).f6.length db) X3.out H_gb.out GB'.out
  unfold r29_Share.st9 at hV; rw [← hV]; clear hV; have XV := Lib.hid hB_; clear hB_ hHeld2
  have VA := Lib.hid ((h2_ ga NE.out).trans GA'.out); have VG := Lib.hid ((h2_ _ (by have h := H_gb.out; have h' := blk_lt BK.out; omega)).trans VG'.out); have VB := Lib.hid h1_; clear h1_ h2_ GA' GB' VG' X3 X1 G_ga G_gb NE H_ga H_gb
  refine done_ (by kernel_rfl) ?_; clear z0 z1 z2 z3 z4 z5 z6 z7 z8 y0 y1 y2 y3 y4 y5 y6 y7 y8 p0 p1 p2 p3 p4 p5 p6 p7 p8 q0 q1 q2 q3 q4 q5 q6 q7 q8
  obtain ⟨p0, p1, p2, p3, p4, p5, p6, p7, p8, q0, q1, q2, q3, q4, q5, q6, q7, q8⟩ := bw9_ VG.out; obtain ⟨s0, s1, s2, s3, s4, s5, s6, s7, s8, r0, r1, r2, r3, r4, r5, r6, r7, r8⟩ := bw9_ (VA.out); obtain ⟨t0, t1, t2, t3, t4, t5, t6, t7, t8, i0, i1, i2, i3, i4, i5, i6, i7, i8⟩ := bw9_ (VB.out)
 case' arm2 =>
  refine r29_Share.boxV (by rfl) rfl (cs := #[.int .i64 0, .string (⟨#[]⟩ : ByteArray), .string (⟨#[]⟩ : ByteArray), .int .i64 0, .int .i64 0, .int .i64 0, .int .i64 0, .string (⟨#[]⟩ : ByteArray), .slice none 0 0]) (t := 27) ?hr ?_; (case hr => first | (go_simp; done) | (go_simp; rfl)); intro gb hg_ w1 hb_ hl_; have G_gb := Lib.hid hb_; have X1 := Lib.hid (below_step hHeld hl_); have H_gb := Lib.hid (show wb.heap.size ≤ gb from by rw [hg_]; exact (hHeld).size); clear hb_ hl_ hg_; refine hK.out _ _ (X1.out) (fun hHeld => ?_); clear hK K; refine norm_ (a' := ?_) ?_ ?_; rotate_left
  ·show Act.put _ (some 8) _ = _
   simp only [Act.put, sa_, sz_, ss_, i64_w, i32_w]; rfl
  refine one_ (i := 8) (N := some 7) #[true, true, true, true, true, true, true, true, true, true, false, false] rfl rfl (by kernel_rfl) (by decide) (fun K hK => ?_)
  refine r29_Share.boxV (by rfl) rfl (cs := #[.int .i64 0, .string (⟨#[]⟩ : ByteArray), .string (⟨#[]⟩ : ByteArray), .int .i64 0, .int .i64 0, .int .i64 0, .int .i64 0, .string (⟨#[]⟩ : ByteArray), .slice none 0 0]) (t := 27) ?hr ?_; (case hr => first | (go_simp; done) | (go_simp; rfl)); intro ga hg_ w2 hb_ hl_; have G_ga := Lib.hid hb_; have X2 := Lib.hid (below_step X1.out hl_); have H_ga := Lib.hid (show wb.heap.size ≤ ga from by rw [hg_]; exact (X1.out).size); have NE := Lib.hid (show ga ≠ gb from by have h := blk_lt G_gb.out; rw [hg_]; exact (Nat.ne_of_lt h).symm); have GB := Lib.hid (blk_below G_gb.out hl_); have GA := G_ga; clear hb_ hl_ hg_; refine hK.out _ _ (X2.out) (fun hHeld => ?_); clear hK K; refine norm_ (a' := ?_) ?_ ?_; rotate_left
  ·show Act.put _ (some 7) _ = _
   simp only [Act.put, sa_, sz_, ss_, i64_w, i32_w]; rfl
  obtain ⟨z0, z1, z2, z3, z4, z5, z6, z7, z8, y0, y1, y2, y3, y4, y5, y6, y7, y8⟩ := bw9_ (GA.out)
  refine one_ (i := 10) (N := none) #[true, true, true, true, true, true, true, true, true, true, true, false] rfl rfl (by kernel_rfl) (by decide) (fun K hK => ?_); refine skip_ (w1 := ?W10b) ?A10b ?B10b ?C10b ?D10b; (case A10b => rfl); (case B10b => rfl)
  case C10b =>
   go_simp; rfl
  (with_reducible refine hK.out _ _ ?S10b (fun hHeld2 => ?_))
  case S10b => exact X2.out.trans (r29_Share.st_below (v0 := .int .i64 (rd_T27 x.f6 0).f0) (v1 := .string (rd_T27 x.f6 0).f1) (v2 := .string (rd_T27 x.f6 0).f2) (v3 := .int .i64 (rd_T27 x.f6 0).f3) (v4 := .int .i64 (rd_T27 x.f6 0).f4) (v5 := .int .i64 (rd_T27 x.f6 0).f5.f0) (v6 := .int .i64 (rd_T27 x.f6 0).f5.f1) (v7 := .string (rd_T27 x.f6 0).f5.f2) (v8 := .slice Ga (rd_T27 x.f6 0).f6.length da) H_ga.out)
  clear hK K; obtain ⟨V, hV, h1_, h2_, hB_⟩ := r29_Share.one_in (n := wb.heap.size) (w := wb) (a := ga) (v0 := .int .i64 (rd_T27 x.f6 0).f0) (v1 := .string (rd_T27 x.f6 0).f1) (v2 := .string (rd_T27 x.f6 0).f2) (v3 := .int .i64 (rd_T27 x.f6 0).f3) (v4 := .int .i64 (rd_T27 x.f6 0).f4) (v5 := .int .i64 (rd_T27 x.f6 0).f5.f0) (v6 := .int .i64 (rd_T27 x.f6 0).f5.f1) (v7 := .string (rd_T27 x.f6 0).f5.f2) (v8 := .slice Ga (rd_T27 x.f6 0).f6.length da) X2.out H_ga.out GA.out
  unfold r29_Share.st9 at hV; rw [← hV]; clear hV; have X3 := Lib.hid hB_; clear hB_ hHeld2
  have GB' := Lib.hid ((h2_ gb (fun e => NE.out e.symm)).trans GB.out); have VG' := Lib.hid ((h2_ _ (by have h := H_ga.out; have h' := blk_lt BK.out; omega)).trans (blk_below BK.out X2.out)); have GA' := Lib.hid h1_; clear h1_ h2_ GA GB X2
  clear z0 z1 z2 z3 z4 z5 z6 z7 z8 y0 y1 y2 y3 y4 y5 y6 y7 y8; obtain ⟨z0, z1, z2, z3, z4, z5, z6, z7, z8, y0, y1, y2, y3, y4, y5, y6, y7, y8⟩ := bw9_ (GB'.out)
  refine one_ (i := 11) (N := none) #[true, true, true, true, true, true, true, true, true, true, true, true] rfl rfl (by kernel_rfl) (by decide) (fun K hK => ?_); refine skip_ (w1 := ?W11b) ?A11b ?B11b ?C11b ?D11b; (case A11b => rfl); (case B11b => rfl)
  case C11b =>
   go_simp; rfl
  (with_reducible refine hK.out _ _ ?S11b (fun hHeld2 => ?_))
  case S11b => exact X3.out.trans (r29_Share.st_below (v0 := .int .i64 (rd_T27 x.f6 1).f0) (v1 := .string (rd_T27 x.f6 1).f1) (v2 := .string (rd_T27 x.f6 1).f2) (v3 := .int .i64 (rd_T27 x.f6 1).f3) (v4 := .int .i64 (rd_T27 x.f6 1).f4) (v5 := .int .i64 (rd_T27 x.f6 1).f5.f0) (v6 := .int .i64 (rd_T27 x.f6 1).f5.f1) (v7 := .string (rd_T27 x.f6 1).f5.f2) (v8 := .slice Gb (rd_T27 x.f6 1).f6.length db) H_gb.out)
  clear hK K; obtain ⟨V, hV, h1_, h2_, hB_⟩ := r29_Share.one_in (n := wb.heap.size) (w := wb) (a := gb) (v0 := .int .i64 (rd_T27 x.f6 1).f0) (v1 := .string (rd_T27 x.f6 1).f1) (v2 := .string (rd_T27 x.f6 1).f2) (v3 := .int .i64 (rd_T27 x.f6 1).f3) (v4 := .int .i64 (rd_T27 x.f6 1).f4) (v5 := .int .i64 (rd_T27 x.f6 1).f5.f0) (v6 := .int .i64 (rd_T27 x.f6 1).f5.f1) (v7 := .string (rd_T27 x.f6 1).f5.f2) (v8 := .slice Gb (rd_T27 x.f6 1).f6.length db) X3.out H_gb.out GB'.out
  unfold r29_Share.st9 at hV; rw [← hV]; clear hV; have XV := Lib.hid hB_; clear hB_ hHeld2
  have VA := Lib.hid ((h2_ ga NE.out).trans GA'.out); have VG := Lib.hid ((h2_ _ (by have h := H_gb.out; have h' := blk_lt BK.out; omega)).trans VG'.out); have VB := Lib.hid h1_; clear h1_ h2_ GA' GB' VG' X3 X1 G_ga G_gb NE H_ga H_gb
  refine done_ (by kernel_rfl) ?_; clear z0 z1 z2 z3 z4 z5 z6 z7 z8 y0 y1 y2 y3 y4 y5 y6 y7 y8 p0 p1 p2 p3 p4 p5 p6 p7 p8 q0 q1 q2 q3 q4 q5 q6 q7 q8
  obtain ⟨p0, p1, p2, p3, p4, p5, p6, p7, p8, q0, q1, q2, q3, q4, q5, q6, q7, q8⟩ := bw9_ VG.out; obtain ⟨s0, s1, s2, s3, s4, s5, s6, s7, s8, r0, r1, r2, r3, r4, r5, r6, r7, r8⟩ := bw9_ (VA.out); obtain ⟨t0, t1, t2, t3, t4, t5, t6, t7, t8, i0, i1, i2, i3, i4, i5, i6, i7, i8⟩ := bw9_ (VB.out)
 all_goals
  go_wp2
  go_ret
  exact ⟨rfl, below_step BB.out XV.out⟩
theorem r29_Share.th2 {x : S27} {st : List S103} {A0 A1 : Option Addr} {c0 c1 : Nat} {w : World} (hx : Kd.C k27 w A0 x.f6.length x.f6) (hc0 : x.f6.length ≤ c0) (hs : Kd.C k103 w A1 st.length st) (hc1 : st.length ≤ c1) {k : Nat} (ih : r29_Share.Ok k st) (hl : x.f6.length = 2) (h1 : 1 ≤ x.f0) (h6 : x.f0 ≤ 6) (fa : (rd_T27 x.f6 0).f0 ≠ 15) (fb : (rd_T27 x.f6 1).f0 = 15) (numa : r29_number.f (rd_T27 x.f6 0).f0 (rd_T27 x.f6 0).f1 (rd_T27 x.f6 0).f2 (rd_T27 x.f6 0).f3 (rd_T27 x.f6 0).f4 (rd_T27 x.f6 0).f5.f0 (rd_T27 x.f6 0).f5.f1 (rd_T27 x.f6 0).f5.f2 (rd_T27 x.f6 0).f6 = some false) :
  Calls Try.prog 27 #[.agg #[.int .i64 x.f0, .string x.f1, .string x.f2, .int .i64 x.f3, .int .i64 x.f4, .int .i64 x.f5.f0, .int .i64 x.f5.f1, .string x.f5.f2, .slice A0 x.f6.length c0], .slice A1 st.length c1] w fun e w' => e = .returned (.float .f64 4602678819172646912) ∧ Below w.heap.size w w' := by
 have HX := Lib.hid hx; have HS := Lib.hid hs; have HC := Lib.hid (And.intro hc0 hc1); have IH := Lib.hid ih
 have n2 : ((x.f6.length : Int) == 2) = true := beq_iff_eq.2 (by omega); have n2' : ((x.f6.length : Int) != 2) = false := bne_eq_false_iff_eq.2 (by omega); have n1 : ((x.f6.length : Int) == 1) = false := beq_eq_false_iff_ne.2 (by omega); have o10 : (x.f0 == 10) = false := beq_eq_false_iff_ne.2 (by omega); have o11 : (x.f0 == 11) = false := beq_eq_false_iff_ne.2 (by omega); have lo : (decide (x.f0 < 1)) = false := decide_eq_false (by omega); have hi : (decide (6 < x.f0)) = false := decide_eq_false (by omega)
 have hl2 : (x.f6.length : Int) = 2 := by omega
 have ca : ((rd_T27 x.f6 0).f0 == 15) = false := beq_eq_false_iff_ne.2 (by omega); have cb : ((rd_T27 x.f6 1).f0 == 15) = true := beq_iff_eq.2 (by omega); have Na : Hid (r29_number.f (rd_T27 x.f6 0).f0 (rd_T27 x.f6 0).f1 (rd_T27 x.f6 0).f2 (rd_T27 x.f6 0).f3 (rd_T27 x.f6 0).f4 (rd_T27 x.f6 0).f5.f0 (rd_T27 x.f6 0).f5.f1 (rd_T27 x.f6 0).f5.f2 (rd_T27 x.f6 0).f6 = some false) := Lib.hid numa; clear hx hs hc0 hc1 ih fa fb numa
 go_enter Try.func27, Try.ntmps27
 go_wp2_with (((with_reducible refine gate_dst (N := 2) rfl ?_); refine box_event ?hg (N := 2) ?hd (cs := #[.int .i64 x.f0, .string x.f1, .string x.f2, .int .i64 x.f3, .int .i64 x.f4, .int .i64 x.f5.f0, .int .i64 x.f5.f1, .string x.f5.f2, .slice A0 x.f6.length c0]) (t := 27) ?hr ?_; (case hd => rfl); (case hg => rfl); (case hr => first | (go_simp; done) | (go_simp; rfl)); intro g hg_ wb hb_ hl_; have BK := Lib.hid hb_; have BB := Lib.hid hl_; have HG := Lib.hid (Nat.le_of_eq hg_.symm); obtain ⟨p0, p1, p2, p3, p4, p5, p6, p7, p8, q0, q1, q2, q3, q4, q5, q6, q7, q8⟩ := bw9_  hb_; clear hb_ hl_ hg_; simp only [Act.put, sa_, sz_, ss_]))
 have m0 : (Int.toNat 0 * 9) = 0 := rfl; have m1 : (Int.toNat 1 * 9) = 9 := rfl; obtain ⟨ada, Ga, da, ea, xa0, xa1, xa2, xa3, xa4, xa5, xa6, xa7, xa8, la, ia⟩ := at_T27 (Kd.C_below HX.out BB.out) 0 (by decide) (by omega); subst ea; obtain ⟨adb, Gb, db, eb, xb0, xb1, xb2, xb3, xb4, xb5, xb6, xb7, xb8, lb, ib⟩ := at_T27 (Kd.C_below HX.out BB.out) 1 (by decide) (by omega)
 obtain rfl : ada = adb := by injection eb
 clear eb
 have LA := Lib.hid (And.intro la ia); have LB := Lib.hid (And.intro lb ib); clear la ia lb ib
 have z0 : ada.add 0 = ada := by cases ada; simp [Addr.add]
 have z9 : ada.add 9 = ⟨ada.block, ada.off + 9, none⟩ := by have h := add_field ada 0 9 (by decide); rw [z0] at h; exact h
 simp only [m0, m1, z0, z9] at xa0 xa1 xa2 xa3 xa4 xa5 xa6 xa7 xa8 xb0 xb1 xb2 xb3 xb4 xb5 xb6 xb7 xb8; clear z0 z9; refine start_ (n := 12) (S := fun w' => Below wb.heap.size wb w') (ds := []) #[false, false, false, false, false, false, false, false, false, false, false, false] (by kernel_rfl) rfl rfl (Below.drew (Below.refl _ _)) (fun hHeld => ?_)
 generalize wb.drew = wc at hHeld ⊢
 refine pure_ (i := 0) (N := some 128) (v := ?_) (a' := ?_) #[true, false, false, false, false, false, false, false, false, false, false, false] rfl rfl (by kernel_rfl) (fun _ _ _ h => h) (Or.inl ⟨by rfl, ?_⟩) ?_ ?_; rotate_left
 ·intro w'
  go_simp; (with_reducible rfl)
 rotate_left
 ·simp only [Act.put, sa_, sz_, ss_, i64_w, i32_w]
  rfl
 refine take_ (i := 1) (N := some 129) (v := ?_) (a' := ?_) #[true, true, false, false, false, false, false, false, false, false, false, false] rfl rfl (by kernel_rfl) (fun _ _ _ h => h) (Or.inl ⟨by rfl, ?_⟩) hHeld ?_ ?_; rotate_left
 ·intro w' hS; obtain ⟨p0, p1, p2, p3, p4, p5, p6, p7, p8, q0, q1, q2, q3, q4, q5, q6, q7, q8⟩ := bw9_ (blk_below BK.out hS); go_simp; (with_reducible rfl)
 rotate_left
 ·simp only [Act.put, sa_, sz_, ss_, i64_w, i32_w]
  rfl
 refine pure_ (i := 2) (N := some 130) (v := ?_) (a' := ?_) #[true, true, true, false, false, false, false, false, false, false, false, false] rfl rfl (by kernel_rfl) (fun _ _ _ h => h) (Or.inl ⟨by rfl, ?_⟩) ?_ ?_; rotate_left
 ·intro w'
  go_simp; (with_reducible rfl)
 rotate_left
 ·simp only [Act.put, sa_, sz_, ss_, i64_w, i32_w]
  rfl
 refine take_ (i := 3) (N := some 131) (v := ?_) (a' := ?_) #[true, true, true, true, false, false, false, false, false, false, false, false] rfl rfl (by kernel_rfl) (fun _ _ _ h => h) (Or.inl ⟨by rfl, ?_⟩) hHeld ?_ ?_; rotate_left
 ·intro w' hS; have ua0 := pw_cell_below hS xa0; have ua1 := pw_cell_below hS xa1; have ua2 := pw_cell_below hS xa2; have ua3 := pw_cell_below hS xa3; have ua4 := pw_cell_below hS xa4; have ua5 := pw_cell_below hS xa5; have ua6 := pw_cell_below hS xa6; have ua7 := pw_cell_below hS xa7; have ua8 := pw_cell_below hS xa8; go_simp; (with_reducible rfl)
 rotate_left
 ·simp only [Act.put, sa_, sz_, ss_, i64_w, i32_w]
  rfl
 refine pure_ (i := 4) (N := some 132) (v := ?_) (a' := ?_) #[true, true, true, true, true, false, false, false, false, false, false, false] rfl rfl (by kernel_rfl) (fun _ _ _ h => h) (Or.inl ⟨by rfl, ?_⟩) ?_ ?_; rotate_left
 ·intro w'
  go_simp; (with_reducible rfl)
 rotate_left
 ·simp only [Act.put, sa_, sz_, ss_, i64_w, i32_w]
  rfl
 refine take_ (i := 5) (N := some 133) (v := ?_) (a' := ?_) #[true, true, true, true, true, true, false, false, false, false, false, false] rfl rfl (by kernel_rfl) (fun _ _ _ h => h) (Or.inl ⟨by rfl, ?_⟩) hHeld ?_ ?_; rotate_left
 ·intro w' hS; obtain ⟨p0, p1, p2, p3, p4, p5, p6, p7, p8, q0, q1, q2, q3, q4, q5, q6, q7, q8⟩ := bw9_ (blk_below BK.out hS); go_simp; (with_reducible rfl)
 rotate_left
 ·simp only [Act.put, sa_, sz_, ss_, i64_w, i32_w]
  rfl
 refine pure_ (i := 6) (N := some 134) (v := ?_) (a' := ?_) #[true, true, true, true, true, true, true, false, false, false, false, false] rfl rfl (by kernel_rfl) (fun _ _ _ h => h) (Or.inl ⟨by rfl, ?_⟩) ?_ ?_; rotate_left
 ·intro w'
  go_simp; (with_reducible rfl)
 rotate_left
 ·simp only [Act.put, sa_, sz_, ss_, i64_w, i32_w]
  rfl
 refine take_ (i := 7) (N := some 135) (v := ?_) (a' := ?_) #[true, true, true, true, true, true, true, true, false, false, false, false] rfl rfl (by kernel_rfl) (fun _ _ _ h => h) (Or.inl ⟨by rfl, ?_⟩) hHeld ?_ ?_; rotate_left
 ·intro w' hS; have ub0 := pw_cell_below hS xb0; have ub1 := pw_cell_below hS xb1; have ub2 := pw_cell_below hS xb2; have ub3 := pw_cell_below hS xb3; have ub4 := pw_cell_below hS xb4; have ub5 := pw_cell_below hS xb5; have ub6 := pw_cell_below hS xb6; have ub7 := pw_cell_below hS xb7; have ub8 := pw_cell_below hS xb8; go_simp; (with_reducible rfl)
 rotate_left
 ·simp only [Act.put, sa_, sz_, ss_, i64_w, i32_w]
  rfl
 refine two_ (i := 8) (j := 9) (Ni := some 7) (Nj := some 8) #[true, true, true, true, true, true, true, true, true, false, false, false] #[true, true, true, true, true, true, true, true, false, true, false, false] rfl rfl rfl rfl (by kernel_rfl) (by decide) (by decide) (fun K hK => ?arm1) (fun K hK => ?arm2)
 case' arm1 =>
  refine r29_Share.boxV (by rfl) rfl (cs := #[.int .i64 0, .string (⟨#[]⟩ : ByteArray), .string (⟨#[]⟩ : ByteArray), .int .i64 0, .int .i64 0, .int .i64 0, .int .i64 0, .string (⟨#[]⟩ : ByteArray), .slice none 0 0]) (t := 27) ?hr ?_; (case hr => first | (go_simp; done) | (go_simp; rfl)); intro ga hg_ w1 hb_ hl_; have G_ga := Lib.hid hb_; have X1 := Lib.hid (below_step hHeld hl_); have H_ga := Lib.hid (show wb.heap.size ≤ ga from by rw [hg_]; exact (hHeld).size); clear hb_ hl_ hg_; refine hK.out _ _ (X1.out) (fun hHeld => ?_); clear hK K; refine norm_ (a' := ?_) ?_ ?_; rotate_left
  ·show Act.put _ (some 7) _ = _
   simp only [Act.put, sa_, sz_, ss_, i64_w, i32_w]; rfl
  refine one_ (i := 9) (N := some 8) #[true, true, true, true, true, true, true, true, true, true, false, false] rfl rfl (by kernel_rfl) (by decide) (fun K hK => ?_)
  refine r29_Share.boxV (by rfl) rfl (cs := #[.int .i64 0, .string (⟨#[]⟩ : ByteArray), .string (⟨#[]⟩ : ByteArray), .int .i64 0, .int .i64 0, .int .i64 0, .int .i64 0, .string (⟨#[]⟩ : ByteArray), .slice none 0 0]) (t := 27) ?hr ?_; (case hr => first | (go_simp; done) | (go_simp; rfl)); intro gb hg_ w2 hb_ hl_; have G_gb := Lib.hid hb_; have X2 := Lib.hid (below_step X1.out hl_); have H_gb := Lib.hid (show wb.heap.size ≤ gb from by rw [hg_]; exact (X1.out).size); have NE := Lib.hid (show ga ≠ gb from by have h := blk_lt G_ga.out; rw [hg_]; exact Nat.ne_of_lt h); have GA := Lib.hid (blk_below G_ga.out hl_); have GB := G_gb; clear hb_ hl_ hg_; refine hK.out _ _ (X2.out) (fun hHeld => ?_); clear hK K; refine norm_ (a' := ?_) ?_ ?_; rotate_left
  ·show Act.put _ (some 8) _ = _
   simp only [Act.put, sa_, sz_, ss_, i64_w, i32_w]; rfl
  obtain ⟨z0, z1, z2, z3, z4, z5, z6, z7, z8, y0, y1, y2, y3, y4, y5, y6, y7, y8⟩ := bw9_ (GA.out)
  refine one_ (i := 10) (N := none) #[true, true, true, true, true, true, true, true, true, true, true, false] rfl rfl (by kernel_rfl) (by decide) (fun K hK => ?_); refine skip_ (w1 := ?W10a) ?A10a ?B10a ?C10a ?D10a; (case A10a => rfl); (case B10a => rfl)
  case C10a =>
   go_simp; rfl
  (with_reducible refine hK.out _ _ ?S10a (fun hHeld2 => ?_))
  case S10a => exact X2.out.trans (r29_Share.st_below (v0 := .int .i64 (rd_T27 x.f6 0).f0) (v1 := .string (rd_T27 x.f6 0).f1) (v2 := .string (rd_T27 x.f6 0).f2) (v3 := .int .i64 (rd_T27 x.f6 0).f3) (v4 := .int .i64 (rd_T27 x.f6 0).f4) (v5 := .int .i64 (rd_T27 x.f6 0).f5.f0) (v6 := .int .i64 (rd_T27 x.f6 0).f5.f1) (v7 := .string (rd_T27 x.f6 0).f5.f2) (v8 := .slice Ga (rd_T27 x.f6 0).f6.length da) H_ga.out)
  clear hK K; obtain ⟨V, hV, h1_, h2_, hB_⟩ := r29_Share.one_in (n := wb.heap.size) (w := wb) (a := ga) (v0 := .int .i64 (rd_T27 x.f6 0).f0) (v1 := .string (rd_T27 x.f6 0).f1) (v2 := .string (rd_T27 x.f6 0).f2) (v3 := .int .i64 (rd_T27 x.f6 0).f3) (v4 := .int .i64 (rd_T27 x.f6 0).f4) (v5 := .int .i64 (rd_T27 x.f6 0).f5.f0) (v6 := .int .i64 (rd_T27 x.f6 0).f5.f1) (v7 := .string (rd_T27 x.f6 0).f5.f2) (v8 := .slice Ga (rd_T27 x.f6 0).f6.length da) X2.out H_ga.out GA.out
  unfold r29_Share.st9 at hV; rw [← hV]; clear hV; have X3 := Lib.hid hB_; clear hB_ hHeld2
  have GB' := Lib.hid ((h2_ gb (fun e => NE.out e.symm)).trans GB.out); have VG' := Lib.hid ((h2_ _ (by have h := H_ga.out; have h' := blk_lt BK.out; omega)).trans (blk_below BK.out X2.out)); have GA' := Lib.hid h1_; clear h1_ h2_ GA GB X2
  clear z0 z1 z2 z3 z4 z5 z6 z7 z8 y0 y1 y2 y3 y4 y5 y6 y7 y8; obtain ⟨z0, z1, z2, z3, z4, z5, z6, z7, z8, y0, y1, y2, y3, y4, y5, y6, y7, y8⟩ := bw9_ (GB'.out)
  refine one_ (i := 11) (N := none) #[true, true, true, true, true, true, true, true, true, true, true, true] rfl rfl (by kernel_rfl) (by decide) (fun K hK => ?_); refine skip_ (w1 := ?W11a) ?A11a ?B11a ?C11a ?D11a; (case A11a => rfl); (case B11a => rfl)
  case C11a =>
   go_simp; rfl
  (with_reducible refine hK.out _ _ ?S11a (fun hHeld2 => ?_))
  case S11a => exact X3.out.trans (r29_Share.st_below (v0 := .int .i64 (rd_T27 x.f6 1).f0) (v1 := .string (rd_T27 x.f6 1).f1) (v2 := .string (rd_T27 x.f6 1).f2) (v3 := .int .i64 (rd_T27 x.f6 1).f3) (v4 := .int .i64 (rd_T27 x.f6 1).f4) (v5 := .int .i64 (rd_T27 x.f6 1).f5.f0) (v6 := .int .i64 (rd_T27 x.f6 1).f5.f1) (v7 := .string (rd_T27 x.f6 1).f5.f2) (v8 := .slice Gb (rd_T27 x.f6 1).f6.length db) H_gb.out)
  clear hK K; obtain ⟨V, hV, h1_, h2_, hB_⟩ := r29_Share.one_in (n := wb.heap.size) (w := wb) (a := gb) (v0 := .int .i64 (rd_T27 x.f6 1).f0) (v1 := .string (rd_T27 x.f6 1).f1) (v2 := .string (rd_T27 x.f6 1).f2) (v3 := .int .i64 (rd_T27 x.f6 1).f3) (v4 := .int .i64 (rd_T27 x.f6 1).f4) (v5 := .int .i64 (rd_T27 x.f6 1).f5.f0) (v6 := .int .i64 (rd_T27 x.f6 1).f5.f1) (v7 := .string (rd_T27 x.f6 1).f5.f2) (v8 := .slice Gb (rd_T27 x.f6 1).f6.length db) X3.out H_gb.out GB'.out
  unfold r29_Share.st9 at hV; rw [← hV]; clear hV; have XV := Lib.hid hB_; clear hB_ hHeld2
  have VA := Lib.hid ((h2_ ga NE.out).trans GA'.out); have VG := Lib.hid ((h2_ _ (by have h := H_gb.out; have h' := blk_lt BK.out; omega)).trans VG'.out); have VB := Lib.hid h1_; clear h1_ h2_ GA' GB' VG' X3 X1 G_ga G_gb NE H_ga H_gb
  refine done_ (by kernel_rfl) ?_; clear z0 z1 z2 z3 z4 z5 z6 z7 z8 y0 y1 y2 y3 y4 y5 y6 y7 y8 p0 p1 p2 p3 p4 p5 p6 p7 p8 q0 q1 q2 q3 q4 q5 q6 q7 q8
  obtain ⟨p0, p1, p2, p3, p4, p5, p6, p7, p8, q0, q1, q2, q3, q4, q5, q6, q7, q8⟩ := bw9_ VG.out; obtain ⟨s0, s1, s2, s3, s4, s5, s6, s7, s8, r0, r1, r2, r3, r4, r5, r6, r7, r8⟩ := bw9_ (VA.out); obtain ⟨t0, t1, t2, t3, t4, t5, t6, t7, t8, i0, i1, i2, i3, i4, i5, i6, i7, i8⟩ := bw9_ (VB.out)
 case' arm2 =>
  refine r29_Share.boxV (by rfl) rfl (cs := #[.int .i64 0, .string (⟨#[]⟩ : ByteArray), .string (⟨#[]⟩ : ByteArray), .int .i64 0, .int .i64 0, .int .i64 0, .int .i64 0, .string (⟨#[]⟩ : ByteArray), .slice none 0 0]) (t := 27) ?hr ?_; (case hr => first | (go_simp; done) | (go_simp; rfl)); intro gb hg_ w1 hb_ hl_; have G_gb := Lib.hid hb_; have X1 := Lib.hid (below_step hHeld hl_); have H_gb := Lib.hid (show wb.heap.size ≤ gb from by rw [hg_]; exact (hHeld).size); clear hb_ hl_ hg_; refine hK.out _ _ (X1.out) (fun hHeld => ?_); clear hK K; refine norm_ (a' := ?_) ?_ ?_; rotate_left
  ·show Act.put _ (some 8) _ = _
   simp only [Act.put, sa_, sz_, ss_, i64_w, i32_w]; rfl
  refine one_ (i := 8) (N := some 7) #[true, true, true, true, true, true, true, true, true, true, false, false] rfl rfl (by kernel_rfl) (by decide) (fun K hK => ?_)
  refine r29_Share.boxV (by rfl) rfl (cs := #[.int .i64 0, .string (⟨#[]⟩ : ByteArray), .string (⟨#[]⟩ : ByteArray), .int .i64 0, .int .i64 0, .int .i64 0, .int .i64 0, .string (⟨#[]⟩ : ByteArray), .slice none 0 0]) (t := 27) ?hr ?_; (case hr => first | (go_simp; done) | (go_simp; rfl)); intro ga hg_ w2 hb_ hl_; have G_ga := Lib.hid hb_; have X2 := Lib.hid (below_step X1.out hl_); have H_ga := Lib.hid (show wb.heap.size ≤ ga from by rw [hg_]; exact (X1.out).size); have NE := Lib.hid (show ga ≠ gb from by have h := blk_lt G_gb.out; rw [hg_]; exact (Nat.ne_of_lt h).symm); have GB := Lib.hid (blk_below G_gb.out hl_); have GA := G_ga; clear hb_ hl_ hg_; refine hK.out _ _ (X2.out) (fun hHeld => ?_); clear hK K; refine norm_ (a' := ?_) ?_ ?_; rotate_left
  ·show Act.put _ (some 7) _ = _
   simp only [Act.put, sa_, sz_, ss_, i64_w, i32_w]; rfl
  obtain ⟨z0, z1, z2, z3, z4, z5, z6, z7, z8, y0, y1, y2, y3, y4, y5, y6, y7, y8⟩ := bw9_ (GA.out)
  refine one_ (i := 10) (N := none) #[true, true, true, true, true, true, true, true, true, true, true, false] rfl rfl (by kernel_rfl) (by decide) (fun K hK => ?_); refine skip_ (w1 := ?W10b) ?A10b ?B10b ?C10b ?D10b; (case A10b => rfl); (case B10b => rfl)
  case C10b =>
   go_simp; rfl
  (with_reducible refine hK.out _ _ ?S10b (fun hHeld2 => ?_))
  case S10b => exact X2.out.trans (r29_Share.st_below (v0 := .int .i64 (rd_T27 x.f6 0).f0) (v1 := .string (rd_T27 x.f6 0).f1) (v2 := .string (rd_T27 x.f6 0).f2) (v3 := .int .i64 (rd_T27 x.f6 0).f3) (v4 := .int .i64 (rd_T27 x.f6 0).f4) (v5 := .int .i64 (rd_T27 x.f6 0).f5.f0) (v6 := .int .i64 (rd_T27 x.f6 0).f5.f1) (v7 := .string (rd_T27 x.f6 0).f5.f2) (v8 := .slice Ga (rd_T27 x.f6 0).f6.length da) H_ga.out)
  clear hK K; obtain ⟨V, hV, h1_, h2_, hB_⟩ := r29_Share.one_in (n := wb.heap.size) (w := wb) (a := ga) (v0 := .int .i64 (rd_T27 x.f6 0).f0) (v1 := .string (rd_T27 x.f6 0).f1) (v2 := .string (rd_T27 x.f6 0).f2) (v3 := .int .i64 (rd_T27 x.f6 0).f3) (v4 := .int .i64 (rd_T27 x.f6 0).f4) (v5 := .int .i64 (rd_T27 x.f6 0).f5.f0) (v6 := .int .i64 (rd_T27 x.f6 0).f5.f1) (v7 := .string (rd_T27 x.f6 0).f5.f2) (v8 := .slice Ga (rd_T27 x.f6 0).f6.length da) X2.out H_ga.out GA.out
  unfold r29_Share.st9 at hV; rw [← hV]; clear hV; have X3 := Lib.hid hB_; clear hB_ hHeld2
  have GB' := Lib.hid ((h2_ gb (fun e => NE.out e.symm)).trans GB.out); have VG' := Lib.hid ((h2_ _ (by have h := H_ga.out; have h' := blk_lt BK.out; omega)).trans (blk_below BK.out X2.out)); have GA' := Lib.hid h1_; clear h1_ h2_ GA GB X2
  clear z0 z1 z2 z3 z4 z5 z6 z7 z8 y0 y1 y2 y3 y4 y5 y6 y7 y8; obtain ⟨z0, z1, z2, z3, z4, z5, z6, z7, z8, y0, y1, y2, y3, y4, y5, y6, y7, y8⟩ := bw9_ (GB'.out)
  refine one_ (i := 11) (N := none) #[true, true, true, true, true, true, true, true, true, true, true, true] rfl rfl (by kernel_rfl) (by decide) (fun K hK => ?_); refine skip_ (w1 := ?W11b) ?A11b ?B11b ?C11b ?D11b; (case A11b => rfl); (case B11b => rfl)
  case C11b =>
   go_simp; rfl
  (with_reducible refine hK.out _ _ ?S11b (fun hHeld2 => ?_))
  case S11b => exact X3.out.trans (r29_Share.st_below (v0 := .int .i64 (rd_T27 x.f6 1).f0) (v1 := .string (rd_T27 x.f6 1).f1) (v2 := .string (rd_T27 x.f6 1).f2) (v3 := .int .i64 (rd_T27 x.f6 1).f3) (v4 := .int .i64 (rd_T27 x.f6 1).f4) (v5 := .int .i64 (rd_T27 x.f6 1).f5.f0) (v6 := .int .i64 (rd_T27 x.f6 1).f5.f1) (v7 := .string (rd_T27 x.f6 1).f5.f2) (v8 := .slice Gb (rd_T27 x.f6 1).f6.length db) H_gb.out)
  clear hK K; obtain ⟨V, hV, h1_, h2_, hB_⟩ := r29_Share.one_in (n := wb.heap.size) (w := wb) (a := gb) (v0 := .int .i64 (rd_T27 x.f6 1).f0) (v1 := .string (rd_T27 x.f6 1).f1) (v2 := .string (rd_T27 x.f6 1).f2) (v3 := .int .i64 (rd_T27 x.f6 1).f3) (v4 := .int .i64 (rd_T27 x.f6 1).f4) (v5 := .int .i64 (rd_T27 x.f6 1).f5.f0) (v6 := .int .i64 (rd_T27 x.f6 1).f5.f1) (v7 := .string (rd_T27 x.f6 1).f5.f2) (v8 := .slice Gb (rd_T27 x.f6 1).f6.length db) X3.out H_gb.out GB'.out
  unfold r29_Share.st9 at hV; rw [← hV]; clear hV; have XV := Lib.hid hB_; clear hB_ hHeld2
  have VA := Lib.hid ((h2_ ga NE.out).trans GA'.out); have VG := Lib.hid ((h2_ _ (by have h := H_gb.out; have h' := blk_lt BK.out; omega)).trans VG'.out); have VB := Lib.hid h1_; clear h1_ h2_ GA' GB' VG' X3 X1 G_ga G_gb NE H_ga H_gb
  refine done_ (by kernel_rfl) ?_; clear z0 z1 z2 z3 z4 z5 z6 z7 z8 y0 y1 y2 y3 y4 y5 y6 y7 y8 p0 p1 p2 p3 p4 p5 p6 p7 p8 q0 q1 q2 q3 q4 q5 q6 q7 q8
  obtain ⟨p0, p1, p2, p3, p4, p5, p6, p7, p8, q0, q1, q2, q3, q4, q5, q6, q7, q8⟩ := bw9_ VG.out; obtain ⟨s0, s1, s2, s3, s4, s5, s6, s7, s8, r0, r1, r2, r3, r4, r5, r6, r7, r8⟩ := bw9_ (VA.out); obtain ⟨t0, t1, t2, t3, t4, t5, t6, t7, t8, i0, i1, i2, i3, i4, i5, i6, i7, i8⟩ := bw9_ (VB.out)
 all_goals
  go_wp2_with (first
    | ((with_reducible refine gate_callee (f := 64) rfl ?_); (try (refine gate_guard (by rfl) ?_; dsimp only)); refine goesL_ (some 159) rfl rfl Try.func64 (by kernel_rfl) rfl #[.agg #[.int .i64 (rd_T27 x.f6 0).f0, .string (rd_T27 x.f6 0).f1, .string (rd_T27 x.f6 0).f2, .int .i64 (rd_T27 x.f6 0).f3, .int .i64 (rd_T27 x.f6 0).f4, .int .i64 (rd_T27 x.f6 0).f5.f0, .int .i64 (rd_T27 x.f6 0).f5.f1, .string (rd_T27 x.f6 0).f5.f2, .slice Ga (rd_T27 x.f6 0).f6.length da]] rfl (by (try simp only [List.map_toArray, List.map_cons, List.map_nil]); first | done | rfl) ?_; refine (r29_number.calls _ _ _ _ _ _ _ _ Ga da _ false _ (Kd.C_below LA.out.2 XV.out) LA.out.1 Na.out).mono ?_; rintro r' w4 ⟨rfl, hb_⟩; refine ⟨_, rfl, ?_⟩; simp only [Act.put, sa_, sz_, ss_]; have XV1 := Lib.hid (below_step XV.out hb_); have VG1 := Lib.hid (blk_below VG.out hb_); have VA1 := Lib.hid (blk_below VA.out hb_); have VB1 := Lib.hid (blk_below VB.out hb_); clear p0 p1 p2 p3 p4 p5 p6 p7 p8 q0 q1 q2 q3 q4 q5 q6 q7 q8 s0 s1 s2 s3 s4 s5 s6 s7 s8 r0 r1 r2 r3 r4 r5 r6 r7 r8 t0 t1 t2 t3 t4 t5 t6 t7 t8 i0 i1 i2 i3 i4 i5 i6 i7 i8; obtain ⟨p0, p1, p2, p3, p4, p5, p6, p7, p8, q0, q1, q2, q3, q4, q5, q6, q7, q8⟩ := bw9_ VG1.out; obtain ⟨s0, s1, s2, s3, s4, s5, s6, s7, s8, r0, r1, r2, r3, r4, r5, r6, r7, r8⟩ := bw9_ (VA1.out); obtain ⟨t0, t1, t2, t3, t4, t5, t6, t7, t8, i0, i1, i2, i3, i4, i5, i6, i7, i8⟩ := bw9_ (VB1.out); clear hb_))
  go_ret
  exact ⟨rfl, below_step BB.out XV1.out⟩
theorem r29_Share.th3 {x : S27} {st : List S103} {A0 A1 : Option Addr} {c0 c1 : Nat} {w : World} (hx : Kd.C k27 w A0 x.f6.length x.f6) (hc0 : x.f6.length ≤ c0) (hs : Kd.C k103 w A1 st.length st) (hc1 : st.length ≤ c1) {k : Nat} (ih : r29_Share.Ok k st) (hl : x.f6.length = 2) (h1 : 1 ≤ x.f0) (h6 : x.f0 ≤ 6) (fa : (rd_T27 x.f6 0).f0 = 15) (fb : (rd_T27 x.f6 1).f0 ≠ 15) (numb : r29_number.f (rd_T27 x.f6 1).f0 (rd_T27 x.f6 1).f1 (rd_T27 x.f6 1).f2 (rd_T27 x.f6 1).f3 (rd_T27 x.f6 1).f4 (rd_T27 x.f6 1).f5.f0 (rd_T27 x.f6 1).f5.f1 (rd_T27 x.f6 1).f5.f2 (rd_T27 x.f6 1).f6 = some false) :
  Calls Try.prog 27 #[.agg #[.int .i64 x.f0, .string x.f1, .string x.f2, .int .i64 x.f3, .int .i64 x.f4, .int .i64 x.f5.f0, .int .i64 x.f5.f1, .string x.f5.f2, .slice A0 x.f6.length c0], .slice A1 st.length c1] w fun e w' => e = .returned (.float .f64 4602678819172646912) ∧ Below w.heap.size w w' := by
 have HX := Lib.hid hx; have HS := Lib.hid hs; have HC := Lib.hid (And.intro hc0 hc1); have IH := Lib.hid ih
 have n2 : ((x.f6.length : Int) == 2) = true := beq_iff_eq.2 (by omega); have n2' : ((x.f6.length : Int) != 2) = false := bne_eq_false_iff_eq.2 (by omega); have n1 : ((x.f6.length : Int) == 1) = false := beq_eq_false_iff_ne.2 (by omega); have o10 : (x.f0 == 10) = false := beq_eq_false_iff_ne.2 (by omega); have o11 : (x.f0 == 11) = false := beq_eq_false_iff_ne.2 (by omega); have lo : (decide (x.f0 < 1)) = false := decide_eq_false (by omega); have hi : (decide (6 < x.f0)) = false := decide_eq_false (by omega)
 have hl2 : (x.f6.length : Int) = 2 := by omega
 have ca : ((rd_T27 x.f6 0).f0 == 15) = true := beq_iff_eq.2 (by omega); have cb : ((rd_T27 x.f6 1).f0 == 15) = false := beq_eq_false_iff_ne.2 (by omega); have Nb : Hid (r29_number.f (rd_T27 x.f6 1).f0 (rd_T27 x.f6 1).f1 (rd_T27 x.f6 1).f2 (rd_T27 x.f6 1).f3 (rd_T27 x.f6 1).f4 (rd_T27 x.f6 1).f5.f0 (rd_T27 x.f6 1).f5.f1 (rd_T27 x.f6 1).f5.f2 (rd_T27 x.f6 1).f6 = some false) := Lib.hid numb; clear hx hs hc0 hc1 ih fa fb numb
 go_enter Try.func27, Try.ntmps27
 go_wp2_with (((with_reducible refine gate_dst (N := 2) rfl ?_); refine box_event ?hg (N := 2) ?hd (cs := #[.int .i64 x.f0, .string x.f1, .string x.f2, .int .i64 x.f3, .int .i64 x.f4, .int .i64 x.f5.f0, .int .i64 x.f5.f1, .string x.f5.f2, .slice A0 x.f6.length c0]) (t := 27) ?hr ?_; (case hd => rfl); (case hg => rfl); (case hr => first | (go_simp; done) | (go_simp; rfl)); intro g hg_ wb hb_ hl_; have BK := Lib.hid hb_; have BB := Lib.hid hl_; have HG := Lib.hid (Nat.le_of_eq hg_.symm); obtain ⟨p0, p1, p2, p3, p4, p5, p6, p7, p8, q0, q1, q2, q3, q4, q5, q6, q7, q8⟩ := bw9_  hb_; clear hb_ hl_ hg_; simp only [Act.put, sa_, sz_, ss_]))
 have m0 : (Int.toNat 0 * 9) = 0 := rfl; have m1 : (Int.toNat 1 * 9) = 9 := rfl; obtain ⟨ada, Ga, da, ea, xa0, xa1, xa2, xa3, xa4, xa5, xa6, xa7, xa8, la, ia⟩ := at_T27 (Kd.C_below HX.out BB.out) 0 (by decide) (by omega); subst ea; obtain ⟨adb, Gb, db, eb, xb0, xb1, xb2, xb3, xb4, xb5, xb6, xb7, xb8, lb, ib⟩ := at_T27 (Kd.C_below HX.out BB.out) 1 (by decide) (by omega)
 obtain rfl : ada = adb := by injection eb
 clear eb
 have LA := Lib.hid (And.intro la ia); have LB := Lib.hid (And.intro lb ib); clear la ia lb ib
 have z0 : ada.add 0 = ada := by cases ada; simp [Addr.add]
 have z9 : ada.add 9 = ⟨ada.block, ada.off + 9, none⟩ := by have h := add_field ada 0 9 (by decide); rw [z0] at h; exact h
 simp only [m0, m1, z0, z9] at xa0 xa1 xa2 xa3 xa4 xa5 xa6 xa7 xa8 xb0 xb1 xb2 xb3 xb4 xb5 xb6 xb7 xb8; clear z0 z9; refine start_ (n := 12) (S := fun w' => Below wb.heap.size wb w') (ds := []) #[false, false, false, false, false, false, false, false, false, false, false, false] (by kernel_rfl) rfl rfl (Below.drew (Below.refl _ _)) (fun hHeld => ?_)
 generalize wb.drew = wc at hHeld ⊢
 refine pure_ (i := 0) (N := some 128) (v := ?_) (a' := ?_) #[true, false, false, false, false, false, false, false, false, false, false, false] rfl rfl (by kernel_rfl) (fun _ _ _ h => h) (Or.inl ⟨by rfl, ?_⟩) ?_ ?_; rotate_left
 ·intro w'
  go_simp; (with_reducible rfl)
 rotate_left
 ·simp only [Act.put, sa_, sz_, ss_, i64_w, i32_w]
  rfl
 refine take_ (i := 1) (N := some 129) (v := ?_) (a' := ?_) #[true, true, false, false, false, false, false, false, false, false, false, false] rfl rfl (by kernel_rfl) (fun _ _ _ h => h) (Or.inl ⟨by rfl, ?_⟩) hHeld ?_ ?_; rotate_left
 ·intro w' hS; obtain ⟨p0, p1, p2, p3, p4, p5, p6, p7, p8, q0, q1, q2, q3, q4, q5, q6, q7, q8⟩ := bw9_ (blk_below BK.out hS); go_simp; (with_reducible rfl)
 rotate_left
 ·simp only [Act.put, sa_, sz_, ss_, i64_w, i32_w]
  rfl
 refine pure_ (i := 2) (N := some 130) (v := ?_) (a' := ?_) #[true, true, true, false, false, false, false, false, false, false, false, false] rfl rfl (by kernel_rfl) (fun _ _ _ h => h) (Or.inl ⟨by rfl, ?_⟩) ?_ ?_; rotate_left
 ·intro w'
  go_simp; (with_reducible rfl)
 rotate_left
 ·simp only [Act.put, sa_, sz_, ss_, i64_w, i32_w]
  rfl
 refine take_ (i := 3) (N := some 131) (v := ?_) (a' := ?_) #[true, true, true, true, false, false, false, false, false, false, false, false] rfl rfl (by kernel_rfl) (fun _ _ _ h => h) (Or.inl ⟨by rfl, ?_⟩) hHeld ?_ ?_; rotate_left
 ·intro w' hS; have ua0 := pw_cell_below hS xa0; have ua1 := pw_cell_below hS xa1; have ua2 := pw_cell_below hS xa2; have ua3 := pw_cell_below hS xa3; have ua4 := pw_cell_below hS xa4; have ua5 := pw_cell_below hS xa5; have ua6 := pw_cell_below hS xa6; have ua7 := pw_cell_below hS xa7; have ua8 := pw_cell_below hS xa8; go_simp; (with_reducible rfl)
 rotate_left
 ·simp only [Act.put, sa_, sz_, ss_, i64_w, i32_w]
  rfl
 refine pure_ (i := 4) (N := some 132) (v := ?_) (a' := ?_) #[true, true, true, true, true, false, false, false, false, false, false, false] rfl rfl (by kernel_rfl) (fun _ _ _ h => h) (Or.inl ⟨by rfl, ?_⟩) ?_ ?_; rotate_left
 ·intro w'
  go_simp; (with_reducible rfl)
 rotate_left
 ·simp only [Act.put, sa_, sz_, ss_, i64_w, i32_w]
  rfl
 refine take_ (i := 5) (N := some 133) (v := ?_) (a' := ?_) #[true, true, true, true, true, true, false, false, false, false, false, false] rfl rfl (by kernel_rfl) (fun _ _ _ h => h) (Or.inl ⟨by rfl, ?_⟩) hHeld ?_ ?_; rotate_left
 ·intro w' hS; obtain ⟨p0, p1, p2, p3, p4, p5, p6, p7, p8, q0, q1, q2, q3, q4, q5, q6, q7, q8⟩ := bw9_ (blk_below BK.out hS); go_simp; (with_reducible rfl)
 rotate_left
 ·simp only [Act.put, sa_, sz_, ss_, i64_w, i32_w]
  rfl
 refine pure_ (i := 6) (N := some 134) (v := ?_) (a' := ?_) #[true, true, true, true, true, true, true, false, false, false, false, false] rfl rfl (by kernel_rfl) (fun _ _ _ h => h) (Or.inl ⟨by rfl, ?_⟩) ?_ ?_; rotate_left
 ·intro w'
  go_simp; (with_reducible rfl)
 rotate_left
 ·simp only [Act.put, sa_, sz_, ss_, i64_w, i32_w]
  rfl
 refine take_ (i := 7) (N := some 135) (v := ?_) (a' := ?_) #[true, true, true, true, true, true, true, true, false, false, false, false] rfl rfl (by kernel_rfl) (fun _ _ _ h => h) (Or.inl ⟨by rfl, ?_⟩) hHeld ?_ ?_; rotate_left
 ·intro w' hS; have ub0 := pw_cell_below hS xb0; have ub1 := pw_cell_below hS xb1; have ub2 := pw_cell_below hS xb2; have ub3 := pw_cell_below hS xb3; have ub4 := pw_cell_below hS xb4; have ub5 := pw_cell_below hS xb5; have ub6 := pw_cell_below hS xb6; have ub7 := pw_cell_below hS xb7; have ub8 := pw_cell_below hS xb8; go_simp; (with_reducible rfl)
 rotate_left
 ·simp only [Act.put, sa_, sz_, ss_, i64_w, i32_w]
  rfl
 refine two_ (i := 8) (j := 9) (Ni := some 7) (Nj := some 8) #[true, true, true, true, true, true, true, true, true, false, false, false] #[true, true, true, true, true, true, true, true, false, true, false, false] rfl rfl rfl rfl (by kernel_rfl) (by decide) (by decide) (fun K hK => ?arm1) (fun K hK => ?arm2)
 case' arm1 =>
  refine r29_Share.boxV (by rfl) rfl (cs := #[.int .i64 0, .string (⟨#[]⟩ : ByteArray), .string (⟨#[]⟩ : ByteArray), .int .i64 0, .int .i64 0, .int .i64 0, .int .i64 0, .string (⟨#[]⟩ : ByteArray), .slice none 0 0]) (t := 27) ?hr ?_; (case hr => first | (go_simp; done) | (go_simp; rfl)); intro ga hg_ w1 hb_ hl_; have G_ga := Lib.hid hb_; have X1 := Lib.hid (below_step hHeld hl_); have H_ga := Lib.hid (show wb.heap.size ≤ ga from by rw [hg_]; exact (hHeld).size); clear hb_ hl_ hg_; refine hK.out _ _ (X1.out) (fun hHeld => ?_); clear hK K; refine norm_ (a' := ?_) ?_ ?_; rotate_left
  ·show Act.put _ (some 7) _ = _
   simp only [Act.put, sa_, sz_, ss_, i64_w, i32_w]; rfl
  refine one_ (i := 9) (N := some 8) #[true, true, true, true, true, true, true, true, true, true, false, false] rfl rfl (by kernel_rfl) (by decide) (fun K hK => ?_)
  refine r29_Share.boxV (by rfl) rfl (cs := #[.int .i64 0, .string (⟨#[]⟩ : ByteArray), .string (⟨#[]⟩ : ByteArray), .int .i64 0, .int .i64 0, .int .i64 0, .int .i64 0, .string (⟨#[]⟩ : ByteArray), .slice none 0 0]) (t := 27) ?hr ?_; (case hr => first | (go_simp; done) | (go_simp; rfl)); intro gb hg_ w2 hb_ hl_; have G_gb := Lib.hid hb_; have X2 := Lib.hid (below_step X1.out hl_); have H_gb := Lib.hid (show wb.heap.size ≤ gb from by rw [hg_]; exact (X1.out).size); have NE := Lib.hid (show ga ≠ gb from by have h := blk_lt G_ga.out; rw [hg_]; exact Nat.ne_of_lt h); have GA := Lib.hid (blk_below G_ga.out hl_); have GB := G_gb; clear hb_ hl_ hg_; refine hK.out _ _ (X2.out) (fun hHeld => ?_); clear hK K; refine norm_ (a' := ?_) ?_ ?_; rotate_left
  ·show Act.put _ (some 8) _ = _
   simp only [Act.put, sa_, sz_, ss_, i64_w, i32_w]; rfl
  obtain ⟨z0, z1, z2, z3, z4, z5, z6, z7, z8, y0, y1, y2, y3, y4, y5, y6, y7, y8⟩ := bw9_ (GA.out)
  refine one_ (i := 10) (N := none) #[true, true, true, true, true, true, true, true, true, true, true, false] rfl rfl (by kernel_rfl) (by decide) (fun K hK => ?_); refine skip_ (w1 := ?W10a) ?A10a ?B10a ?C10a ?D10a; (case A10a => rfl); (case B10a => rfl)
  case C10a =>
   go_simp; rfl
  (with_reducible refine hK.out _ _ ?S10a (fun hHeld2 => ?_))
  case S10a => exact X2.out.trans (r29_Share.st_below (v0 := .int .i64 (rd_T27 x.f6 0).f0) (v1 := .string (rd_T27 x.f6 0).f1) (v2 := .string (rd_T27 x.f6 0).f2) (v3 := .int .i64 (rd_T27 x.f6 0).f3) (v4 := .int .i64 (rd_T27 x.f6 0).f4) (v5 := .int .i64 (rd_T27 x.f6 0).f5.f0) (v6 := .int .i64 (rd_T27 x.f6 0).f5.f1) (v7 := .string (rd_T27 x.f6 0).f5.f2) (v8 := .slice Ga (rd_T27 x.f6 0).f6.length da) H_ga.out)
  clear hK K; obtain ⟨V, hV, h1_, h2_, hB_⟩ := r29_Share.one_in (n := wb.heap.size) (w := wb) (a := ga) (v0 := .int .i64 (rd_T27 x.f6 0).f0) (v1 := .string (rd_T27 x.f6 0).f1) (v2 := .string (rd_T27 x.f6 0).f2) (v3 := .int .i64 (rd_T27 x.f6 0).f3) (v4 := .int .i64 (rd_T27 x.f6 0).f4) (v5 := .int .i64 (rd_T27 x.f6 0).f5.f0) (v6 := .int .i64 (rd_T27 x.f6 0).f5.f1) (v7 := .string (rd_T27 x.f6 0).f5.f2) (v8 := .slice Ga (rd_T27 x.f6 0).f6.length da) X2.out H_ga.out GA.out
  unfold r29_Share.st9 at hV; rw [← hV]; clear hV; have X3 := Lib.hid hB_; clear hB_ hHeld2
  have GB' := Lib.hid ((h2_ gb (fun e => NE.out e.symm)).trans GB.out); have VG' := Lib.hid ((h2_ _ (by have h := H_ga.out; have h' := blk_lt BK.out; omega)).trans (blk_below BK.out X2.out)); have GA' := Lib.hid h1_; clear h1_ h2_ GA GB X2
  clear z0 z1 z2 z3 z4 z5 z6 z7 z8 y0 y1 y2 y3 y4 y5 y6 y7 y8; obtain ⟨z0, z1, z2, z3, z4, z5, z6, z7, z8, y0, y1, y2, y3, y4, y5, y6, y7, y8⟩ := bw9_ (GB'.out)
  refine one_ (i := 11) (N := none) #[true, true, true, true, true, true, true, true, true, true, true, true] rfl rfl (by kernel_rfl) (by decide) (fun K hK => ?_); refine skip_ (w1 := ?W11a) ?A11a ?B11a ?C11a ?D11a; (case A11a => rfl); (case B11a => rfl)
  case C11a =>
   go_simp; rfl
  (with_reducible refine hK.out _ _ ?S11a (fun hHeld2 => ?_))
  case S11a => exact X3.out.trans (r29_Share.st_below (v0 := .int .i64 (rd_T27 x.f6 1).f0) (v1 := .string (rd_T27 x.f6 1).f1) (v2 := .string (rd_T27 x.f6 1).f2) (v3 := .int .i64 (rd_T27 x.f6 1).f3) (v4 := .int .i64 (rd_T27 x.f6 1).f4) (v5 := .int .i64 (rd_T27 x.f6 1).f5.f0) (v6 := .int .i64 (rd_T27 x.f6 1).f5.f1) (v7 := .string (rd_T27 x.f6 1).f5.f2) (v8 := .slice Gb (rd_T27 x.f6 1).f6.length db) H_gb.out)
  clear hK K; obtain ⟨V, hV, h1_, h2_, hB_⟩ := r29_Share.one_in (n := wb.heap.size) (w := wb) (a := gb) (v0 := .int .i64 (rd_T27 x.f6 1).f0) (v1 := .string (rd_T27 x.f6 1).f1) (v2 := .string (rd_T27 x.f6 1).f2) (v3 := .int .i64 (rd_T27 x.f6 1).f3) (v4 := .int .i64 (rd_T27 x.f6 1).f4) (v5 := .int .i64 (rd_T27 x.f6 1).f5.f0) (v6 := .int .i64 (rd_T27 x.f6 1).f5.f1) (v7 := .string (rd_T27 x.f6 1).f5.f2) (v8 := .slice Gb (rd_T27 x.f6 1).f6.length db) X3.out H_gb.out GB'.out
  unfold r29_Share.st9 at hV; rw [← hV]; clear hV; have XV := Lib.hid hB_; clear hB_ hHeld2
  have VA := Lib.hid ((h2_ ga NE.out).trans GA'.out); have VG := Lib.hid ((h2_ _ (by have h := H_gb.out; have h' := blk_lt BK.out; omega)).trans VG'.out); have VB := Lib.hid h1_; clear h1_ h2_ GA' GB' VG' X3 X1 G_ga G_gb NE H_ga H_gb
  refine done_ (by kernel_rfl) ?_; clear z0 z1 z2 z3 z4 z5 z6 z7 z8 y0 y1 y2 y3 y4 y5 y6 y7 y8 p0 p1 p2 p3 p4 p5 p6 p7 p8 q0 q1 q2 q3 q4 q5 q6 q7 q8
  obtain ⟨p0, p1, p2, p3, p4, p5, p6, p7, p8, q0, q1, q2, q3, q4, q5, q6, q7, q8⟩ := bw9_ VG.out; obtain ⟨s0, s1, s2, s3, s4, s5, s6, s7, s8, r0, r1, r2, r3, r4, r5, r6, r7, r8⟩ := bw9_ (VA.out); obtain ⟨t0, t1, t2, t3, t4, t5, t6, t7, t8, i0, i1, i2, i3, i4, i5, i6, i7, i8⟩ := bw9_ (VB.out)
 case' arm2 =>
  refine r29_Share.boxV (by rfl) rfl (cs := #[.int .i64 0, .string (⟨#[]⟩ : ByteArray), .string (⟨#[]⟩ : ByteArray), .int .i64 0, .int .i64 0, .int .i64 0, .int .i64 0, .string (⟨#[]⟩ : ByteArray), .slice none 0 0]) (t := 27) ?hr ?_; (case hr => first | (go_simp; done) | (go_simp; rfl)); intro gb hg_ w1 hb_ hl_; have G_gb := Lib.hid hb_; have X1 := Lib.hid (below_step hHeld hl_); have H_gb := Lib.hid (show wb.heap.size ≤ gb from by rw [hg_]; exact (hHeld).size); clear hb_ hl_ hg_; refine hK.out _ _ (X1.out) (fun hHeld => ?_); clear hK K; refine norm_ (a' := ?_) ?_ ?_; rotate_left
  ·show Act.put _ (some 8) _ = _
   simp only [Act.put, sa_, sz_, ss_, i64_w, i32_w]; rfl
  refine one_ (i := 8) (N := some 7) #[true, true, true, true, true, true, true, true, true, true, false, false] rfl rfl (by kernel_rfl) (by decide) (fun K hK => ?_)
  refine r29_Share.boxV (by rfl) rfl (cs := #[.int .i64 0, .string (⟨#[]⟩ : ByteArray), .string (⟨#[]⟩ : ByteArray), .int .i64 0, .int .i64 0, .int .i64 0, .int .i64 0, .string (⟨#[]⟩ : ByteArray), .slice none 0 0]) (t := 27) ?hr ?_; (case hr => first | (go_simp; done) | (go_simp; rfl)); intro ga hg_ w2 hb_ hl_; have G_ga := Lib.hid hb_; have X2 := Lib.hid (below_step X1.out hl_); have H_ga := Lib.hid (show wb.heap.size ≤ ga from by rw [hg_]; exact (X1.out).size); have NE := Lib.hid (show ga ≠ gb from by have h := blk_lt G_gb.out; rw [hg_]; exact (Nat.ne_of_lt h).symm); have GB := Lib.hid (blk_below G_gb.out hl_); have GA := G_ga; clear hb_ hl_ hg_; refine hK.out _ _ (X2.out) (fun hHeld => ?_); clear hK K; refine norm_ (a' := ?_) ?_ ?_; rotate_left
  ·show Act.put _ (some 7) _ = _
   simp only [Act.put, sa_, sz_, ss_, i64_w, i32_w]; rfl
  obtain ⟨z0, z1, z2, z3, z4, z5, z6, z7, z8, y0, y1, y2, y3, y4, y5, y6, y7, y8⟩ := bw9_ (GA.out)
  refine one_ (i := 10) (N := none) #[true, true, true, true, true, true, true, true, true, true, true, false] rfl rfl (by kernel_rfl) (by decide) (fun K hK => ?_); refine skip_ (w1 := ?W10b) ?A10b ?B10b ?C10b ?D10b; (case A10b => rfl); (case B10b => rfl)
  case C10b =>
   go_simp; rfl
  (with_reducible refine hK.out _ _ ?S10b (fun hHeld2 => ?_))
  case S10b => exact X2.out.trans (r29_Share.st_below (v0 := .int .i64 (rd_T27 x.f6 0).f0) (v1 := .string (rd_T27 x.f6 0).f1) (v2 := .string (rd_T27 x.f6 0).f2) (v3 := .int .i64 (rd_T27 x.f6 0).f3) (v4 := .int .i64 (rd_T27 x.f6 0).f4) (v5 := .int .i64 (rd_T27 x.f6 0).f5.f0) (v6 := .int .i64 (rd_T27 x.f6 0).f5.f1) (v7 := .string (rd_T27 x.f6 0).f5.f2) (v8 := .slice Ga (rd_T27 x.f6 0).f6.length da) H_ga.out)
  clear hK K; obtain ⟨V, hV, h1_, h2_, hB_⟩ := r29_Share.one_in (n := wb.heap.size) (w := wb) (a := ga) (v0 := .int .i64 (rd_T27 x.f6 0).f0) (v1 := .string (rd_T27 x.f6 0).f1) (v2 := .string (rd_T27 x.f6 0).f2) (v3 := .int .i64 (rd_T27 x.f6 0).f3) (v4 := .int .i64 (rd_T27 x.f6 0).f4) (v5 := .int .i64 (rd_T27 x.f6 0).f5.f0) (v6 := .int .i64 (rd_T27 x.f6 0).f5.f1) (v7 := .string (rd_T27 x.f6 0).f5.f2) (v8 := .slice Ga (rd_T27 x.f6 0).f6.length da) X2.out H_ga.out GA.out
  unfold r29_Share.st9 at hV; rw [← hV]; clear hV; have X3 := Lib.hid hB_; clear hB_ hHeld2
  have GB' := Lib.hid ((h2_ gb (fun e => NE.out e.symm)).trans GB.out); have VG' := Lib.hid ((h2_ _ (by have h := H_ga.out; have h' := blk_lt BK.out; omega)).trans (blk_below BK.out X2.out)); have GA' := Lib.hid h1_; clear h1_ h2_ GA GB X2
  clear z0 z1 z2 z3 z4 z5 z6 z7 z8 y0 y1 y2 y3 y4 y5 y6 y7 y8; obtain ⟨z0, z1, z2, z3, z4, z5, z6, z7, z8, y0, y1, y2, y3, y4, y5, y6, y7, y8⟩ := bw9_ (GB'.out)
  refine one_ (i := 11) (N := none) #[true, true, true, true, true, true, true, true, true, true, true, true] rfl rfl (by kernel_rfl) (by decide) (fun K hK => ?_); refine skip_ (w1 := ?W11b) ?A11b ?B11b ?C11b ?D11b; (case A11b => rfl); (case B11b => rfl)
  case C11b =>
   go_simp; rfl
  (with_reducible refine hK.out _ _ ?S11b (fun hHeld2 => ?_))
  case S11b => exact X3.out.trans (r29_Share.st_below (v0 := .int .i64 (rd_T27 x.f6 1).f0) (v1 := .string (rd_T27 x.f6 1).f1) (v2 := .string (rd_T27 x.f6 1).f2) (v3 := .int .i64 (rd_T27 x.f6 1).f3) (v4 := .int .i64 (rd_T27 x.f6 1).f4) (v5 := .int .i64 (rd_T27 x.f6 1).f5.f0) (v6 := .int .i64 (rd_T27 x.f6 1).f5.f1) (v7 := .string (rd_T27 x.f6 1).f5.f2) (v8 := .slice Gb (rd_T27 x.f6 1).f6.length db) H_gb.out)
  clear hK K; obtain ⟨V, hV, h1_, h2_, hB_⟩ := r29_Share.one_in (n := wb.heap.size) (w := wb) (a := gb) (v0 := .int .i64 (rd_T27 x.f6 1).f0) (v1 := .string (rd_T27 x.f6 1).f1) (v2 := .string (rd_T27 x.f6 1).f2) (v3 := .int .i64 (rd_T27 x.f6 1).f3) (v4 := .int .i64 (rd_T27 x.f6 1).f4) (v5 := .int .i64 (rd_T27 x.f6 1).f5.f0) (v6 := .int .i64 (rd_T27 x.f6 1).f5.f1) (v7 := .string (rd_T27 x.f6 1).f5.f2) (v8 := .slice Gb (rd_T27 x.f6 1).f6.length db) X3.out H_gb.out GB'.out
  unfold r29_Share.st9 at hV; rw [← hV]; clear hV; have XV := Lib.hid hB_; clear hB_ hHeld2
  have VA := Lib.hid ((h2_ ga NE.out).trans GA'.out); have VG := Lib.hid ((h2_ _ (by have h := H_gb.out; have h' := blk_lt BK.out; omega)).trans VG'.out); have VB := Lib.hid h1_; clear h1_ h2_ GA' GB' VG' X3 X1 G_ga G_gb NE H_ga H_gb
  refine done_ (by kernel_rfl) ?_; clear z0 z1 z2 z3 z4 z5 z6 z7 z8 y0 y1 y2 y3 y4 y5 y6 y7 y8 p0 p1 p2 p3 p4 p5 p6 p7 p8 q0 q1 q2 q3 q4 q5 q6 q7 q8
  obtain ⟨p0, p1, p2, p3, p4, p5, p6, p7, p8, q0, q1, q2, q3, q4, q5, q6, q7, q8⟩ := bw9_ VG.out; obtain ⟨s0, s1, s2, s3, s4, s5, s6, s7, s8, r0, r1, r2, r3, r4, r5, r6, r7, r8⟩ := bw9_ (VA.out); obtain ⟨t0, t1, t2, t3, t4, t5, t6, t7, t8, i0, i1, i2, i3, i4, i5, i6, i7, i8⟩ := bw9_ (VB.out)
 all_goals
  go_wp2_with (first
    | ((with_reducible refine gate_callee (f := 64) rfl ?_); (try (refine gate_guard (by rfl) ?_; dsimp only)); refine goesL_ (some 141) rfl rfl Try.func64 (by kernel_rfl) rfl #[.agg #[.int .i64 (rd_T27 x.f6 1).f0, .string (rd_T27 x.f6 1).f1, .string (rd_T27 x.f6 1).f2, .int .i64 (rd_T27 x.f6 1).f3, .int .i64 (rd_T27 x.f6 1).f4, .int .i64 (rd_T27 x.f6 1).f5.f0, .int .i64 (rd_T27 x.f6 1).f5.f1, .string (rd_T27 x.f6 1).f5.f2, .slice Gb (rd_T27 x.f6 1).f6.length db]] rfl (by (try simp only [List.map_toArray, List.map_cons, List.map_nil]); first | done | rfl) ?_; refine (r29_number.calls _ _ _ _ _ _ _ _ Gb db _ false _ (Kd.C_below LB.out.2 XV.out) LB.out.1 Nb.out).mono ?_; rintro r' w3 ⟨rfl, hb_⟩; refine ⟨_, rfl, ?_⟩; simp only [Act.put, sa_, sz_, ss_]; have XV1 := Lib.hid (below_step XV.out hb_); have VG1 := Lib.hid (blk_below VG.out hb_); have VA1 := Lib.hid (blk_below VA.out hb_); have VB1 := Lib.hid (blk_below VB.out hb_); clear p0 p1 p2 p3 p4 p5 p6 p7 p8 q0 q1 q2 q3 q4 q5 q6 q7 q8 s0 s1 s2 s3 s4 s5 s6 s7 s8 r0 r1 r2 r3 r4 r5 r6 r7 r8 t0 t1 t2 t3 t4 t5 t6 t7 t8 i0 i1 i2 i3 i4 i5 i6 i7 i8; obtain ⟨p0, p1, p2, p3, p4, p5, p6, p7, p8, q0, q1, q2, q3, q4, q5, q6, q7, q8⟩ := bw9_ VG1.out; obtain ⟨s0, s1, s2, s3, s4, s5, s6, s7, s8, r0, r1, r2, r3, r4, r5, r6, r7, r8⟩ := bw9_ (VA1.out); obtain ⟨t0, t1, t2, t3, t4, t5, t6, t7, t8, i0, i1, i2, i3, i4, i5, i6, i7, i8⟩ := bw9_ (VB1.out); clear hb_))
  go_ret
  exact ⟨rfl, below_step BB.out XV1.out⟩
theorem r29_Share.th4 {x : S27} {st : List S103} {A0 A1 : Option Addr} {c0 c1 : Nat} {w : World} (hx : Kd.C k27 w A0 x.f6.length x.f6) (hc0 : x.f6.length ≤ c0) (hs : Kd.C k103 w A1 st.length st) (hc1 : st.length ≤ c1) {k : Nat} (ih : r29_Share.Ok k st) (hl : x.f6.length = 2) (h1 : 1 ≤ x.f0) (h6 : x.f0 ≤ 6) (fa : (rd_T27 x.f6 0).f0 = 15) (fb : (rd_T27 x.f6 1).f0 = 15) (f1 : x.f0 ≠ 1) (numb : r29_number.f (rd_T27 x.f6 1).f0 (rd_T27 x.f6 1).f1 (rd_T27 x.f6 1).f2 (rd_T27 x.f6 1).f3 (rd_T27 x.f6 1).f4 (rd_T27 x.f6 1).f5.f0 (rd_T27 x.f6 1).f5.f1 (rd_T27 x.f6 1).f5.f2 (rd_T27 x.f6 1).f6 = some false)(numa : r29_number.f (rd_T27 x.f6 0).f0 (rd_T27 x.f6 0).f1 (rd_T27 x.f6 0).f2 (rd_T27 x.f6 0).f3 (rd_T27 x.f6 0).f4 (rd_T27 x.f6 0).f5.f0 (rd_T27 x.f6 0).f5.f1 (rd_T27 x.f6 0).f5.f2 (rd_T27 x.f6 0).f6 = some false) :
  Calls Try.prog 27 #[.agg #[.int .i64 x.f0, .string x.f1, .string x.f2, .int .i64 x.f3, .int .i64 x.f4, .int .i64 x.f5.f0, .int .i64 x.f5.f1, .string x.f5.f2, .slice A0 x.f6.length c0], .slice A1 st.length c1] w fun e w' => e = .returned (.float .f64 4602678819172646912) ∧ Below w.heap.size w w' := by
 have HX := Lib.hid hx; have HS := Lib.hid hs; have HC := Lib.hid (And.intro hc0 hc1); have IH := Lib.hid ih
 have n2 : ((x.f6.length : Int) == 2) = true := beq_iff_eq.2 (by omega); have n2' : ((x.f6.length : Int) != 2) = false := bne_eq_false_iff_eq.2 (by omega); have n1 : ((x.f6.length : Int) == 1) = false := beq_eq_false_iff_ne.2 (by omega); have o10 : (x.f0 == 10) = false := beq_eq_false_iff_ne.2 (by omega); have o11 : (x.f0 == 11) = false := beq_eq_false_iff_ne.2 (by omega); have lo : (decide (x.f0 < 1)) = false := decide_eq_false (by omega); have hi : (decide (6 < x.f0)) = false := decide_eq_false (by omega)
 have hl2 : (x.f6.length : Int) = 2 := by omega
 have ca : ((rd_T27 x.f6 0).f0 == 15) = true := beq_iff_eq.2 (by omega); have cb : ((rd_T27 x.f6 1).f0 == 15) = true := beq_iff_eq.2 (by omega); have o1 : (x.f0 == 1) = false := beq_eq_false_iff_ne.2 (by omega); have Nb : Hid (r29_number.f (rd_T27 x.f6 1).f0 (rd_T27 x.f6 1).f1 (rd_T27 x.f6 1).f2 (rd_T27 x.f6 1).f3 (rd_T27 x.f6 1).f4 (rd_T27 x.f6 1).f5.f0 (rd_T27 x.f6 1).f5.f1 (rd_T27 x.f6 1).f5.f2 (rd_T27 x.f6 1).f6 = some false) := Lib.hid numb; have Na : Hid (r29_number.f (rd_T27 x.f6 0).f0 (rd_T27 x.f6 0).f1 (rd_T27 x.f6 0).f2 (rd_T27 x.f6 0).f3 (rd_T27 x.f6 0).f4 (rd_T27 x.f6 0).f5.f0 (rd_T27 x.f6 0).f5.f1 (rd_T27 x.f6 0).f5.f2 (rd_T27 x.f6 0).f6 = some false) := Lib.hid numa; clear hx hs hc0 hc1 ih fa fb f1 numa numb
 go_enter Try.func27, Try.ntmps27
 go_wp2_with (((with_reducible refine gate_dst (N := 2) rfl ?_); refine box_event ?hg (N := 2) ?hd (cs := #[.int .i64 x.f0, .string x.f1, .string x.f2, .int .i64 x.f3, .int .i64 x.f4, .int .i64 x.f5.f0, .int .i64 x.f5.f1, .string x.f5.f2, .slice A0 x.f6.length c0]) (t := 27) ?hr ?_; (case hd => rfl); (case hg => rfl); (case hr => first | (go_simp; done) | (go_simp; rfl)); intro g hg_ wb hb_ hl_; have BK := Lib.hid hb_; have BB := Lib.hid hl_; have HG := Lib.hid (Nat.le_of_eq hg_.symm); obtain ⟨p0, p1, p2, p3, p4, p5, p6, p7, p8, q0, q1, q2, q3, q4, q5, q6, q7, q8⟩ := bw9_  hb_; clear hb_ hl_ hg_; simp only [Act.put, sa_, sz_, ss_]))
 have m0 : (Int.toNat 0 * 9) = 0 := rfl; have m1 : (Int.toNat 1 * 9) = 9 := rfl; obtain ⟨ada, Ga, da, ea, xa0, xa1, xa2, xa3, xa4, xa5, xa6, xa7, xa8, la, ia⟩ := at_T27 (Kd.C_below HX.out BB.out) 0 (by decide) (by omega); subst ea; obtain ⟨adb, Gb, db, eb, xb0, xb1, xb2, xb3, xb4, xb5, xb6, xb7, xb8, lb, ib⟩ := at_T27 (Kd.C_below HX.out BB.out) 1 (by decide) (by omega)
 obtain rfl : ada = adb := by injection eb
 clear eb
 have LA := Lib.hid (And.intro la ia); have LB := Lib.hid (And.intro lb ib); clear la ia lb ib
 have z0 : ada.add 0 = ada := by cases ada; simp [Addr.add]
 have z9 : ada.add 9 = ⟨ada.block, ada.off + 9, none⟩ := by have h := add_field ada 0 9 (by decide); rw [z0] at h; exact h
 simp only [m0, m1, z0, z9] at xa0 xa1 xa2 xa3 xa4 xa5 xa6 xa7 xa8 xb0 xb1 xb2 xb3 xb4 xb5 xb6 xb7 xb8; clear z0 z9; refine start_ (n := 12) (S := fun w' => Below wb.heap.size wb w') (ds := []) #[false, false, false, false, false, false, false, false, false, false, false, false] (by kernel_rfl) rfl rfl (Below.drew (Below.refl _ _)) (fun hHeld => ?_)
 generalize wb.drew = wc at hHeld ⊢
 refine pure_ (i := 0) (N := some 128) (v := ?_) (a' := ?_) #[true, false, false, false, false, false, false, false, false, false, false, false] rfl rfl (by kernel_rfl) (fun _ _ _ h => h) (Or.inl ⟨by rfl, ?_⟩) ?_ ?_; rotate_left
 ·intro w'
  go_simp; (with_reducible rfl)
 rotate_left
 ·simp only [Act.put, sa_, sz_, ss_, i64_w, i32_w]
  rfl
 refine take_ (i := 1) (N := some 129) (v := ?_) (a' := ?_) #[true, true, false, false, false, false, false, false, false, false, false, false] rfl rfl (by kernel_rfl) (fun _ _ _ h => h) (Or.inl ⟨by rfl, ?_⟩) hHeld ?_ ?_; rotate_left
 ·intro w' hS; obtain ⟨p0, p1, p2, p3, p4, p5, p6, p7, p8, q0, q1, q2, q3, q4, q5, q6, q7, q8⟩ := bw9_ (blk_below BK.out hS); go_simp; (with_reducible rfl)
 rotate_left
 ·simp only [Act.put, sa_, sz_, ss_, i64_w, i32_w]
  rfl
 refine pure_ (i := 2) (N := some 130) (v := ?_) (a' := ?_) #[true, true, true, false, false, false, false, false, false, false, false, false] rfl rfl (by kernel_rfl) (fun _ _ _ h => h) (Or.inl ⟨by rfl, ?_⟩) ?_ ?_; rotate_left
 ·intro w'
  go_simp; (with_reducible rfl)
 rotate_left
 ·simp only [Act.put, sa_, sz_, ss_, i64_w, i32_w]
  rfl
 refine take_ (i := 3) (N := some 131) (v := ?_) (a' := ?_) #[true, true, true, true, false, false, false, false, false, false, false, false] rfl rfl (by kernel_rfl) (fun _ _ _ h => h) (Or.inl ⟨by rfl, ?_⟩) hHeld ?_ ?_; rotate_left
 ·intro w' hS; have ua0 := pw_cell_below hS xa0; have ua1 := pw_cell_below hS xa1; have ua2 := pw_cell_below hS xa2; have ua3 := pw_cell_below hS xa3; have ua4 := pw_cell_below hS xa4; have ua5 := pw_cell_below hS xa5; have ua6 := pw_cell_below hS xa6; have ua7 := pw_cell_below hS xa7; have ua8 := pw_cell_below hS xa8; go_simp; (with_reducible rfl)
 rotate_left
 ·simp only [Act.put, sa_, sz_, ss_, i64_w, i32_w]
  rfl
 refine pure_ (i := 4) (N := some 132) (v := ?_) (a' := ?_) #[true, true, true, true, true, false, false, false, false, false, false, false] rfl rfl (by kernel_rfl) (fun _ _ _ h => h) (Or.inl ⟨by rfl, ?_⟩) ?_ ?_; rotate_left
 ·intro w'
  go_simp; (with_reducible rfl)
 rotate_left
 ·simp only [Act.put, sa_, sz_, ss_, i64_w, i32_w]
  rfl
 refine take_ (i := 5) (N := some 133) (v := ?_) (a' := ?_) #[true, true, true, true, true, true, false, false, false, false, false, false] rfl rfl (by kernel_rfl) (fun _ _ _ h => h) (Or.inl ⟨by rfl, ?_⟩) hHeld ?_ ?_; rotate_left
 ·intro w' hS; obtain ⟨p0, p1, p2, p3, p4, p5, p6, p7, p8, q0, q1, q2, q3, q4, q5, q6, q7, q8⟩ := bw9_ (blk_below BK.out hS); go_simp; (with_reducible rfl)
 rotate_left
 ·simp only [Act.put, sa_, sz_, ss_, i64_w, i32_w]
  rfl
 refine pure_ (i := 6) (N := some 134) (v := ?_) (a' := ?_) #[true, true, true, true, true, true, true, false, false, false, false, false] rfl rfl (by kernel_rfl) (fun _ _ _ h => h) (Or.inl ⟨by rfl, ?_⟩) ?_ ?_; rotate_left
 ·intro w'
  go_simp; (with_reducible rfl)
 rotate_left
 ·simp only [Act.put, sa_, sz_, ss_, i64_w, i32_w]
  rfl
 refine take_ (i := 7) (N := some 135) (v := ?_) (a' := ?_) #[true, true, true, true, true, true, true, true, false, false, false, false] rfl rfl (by kernel_rfl) (fun _ _ _ h => h) (Or.inl ⟨by rfl, ?_⟩) hHeld ?_ ?_; rotate_left
 ·intro w' hS; have ub0 := pw_cell_below hS xb0; have ub1 := pw_cell_below hS xb1; have ub2 := pw_cell_below hS xb2; have ub3 := pw_cell_below hS xb3; have ub4 := pw_cell_below hS xb4; have ub5 := pw_cell_below hS xb5; have ub6 := pw_cell_below hS xb6; have ub7 := pw_cell_below hS xb7; have ub8 := pw_cell_below hS xb8; go_simp; (with_reducible rfl)
 rotate_left
 ·simp only [Act.put, sa_, sz_, ss_, i64_w, i32_w]
  rfl
 refine two_ (i := 8) (j := 9) (Ni := some 7) (Nj := some 8) #[true, true, true, true, true, true, true, true, true, false, false, false] #[true, true, true, true, true, true, true, true, false, true, false, false] rfl rfl rfl rfl (by kernel_rfl) (by decide) (by decide) (fun K hK => ?arm1) (fun K hK => ?arm2)
 case' arm1 =>
  refine r29_Share.boxV (by rfl) rfl (cs := #[.int .i64 0, .string (⟨#[]⟩ : ByteArray), .string (⟨#[]⟩ : ByteArray), .int .i64 0, .int .i64 0, .int .i64 0, .int .i64 0, .string (⟨#[]⟩ : ByteArray), .slice none 0 0]) (t := 27) ?hr ?_; (case hr => first | (go_simp; done) | (go_simp; rfl)); intro ga hg_ w1 hb_ hl_; have G_ga := Lib.hid hb_; have X1 := Lib.hid (below_step hHeld hl_); have H_ga := Lib.hid (show wb.heap.size ≤ ga from by rw [hg_]; exact (hHeld).size); clear hb_ hl_ hg_; refine hK.out _ _ (X1.out) (fun hHeld => ?_); clear hK K; refine norm_ (a' := ?_) ?_ ?_; rotate_left
  ·show Act.put _ (some 7) _ = _
   simp only [Act.put, sa_, sz_, ss_, i64_w, i32_w]; rfl
  refine one_ (i := 9) (N := some 8) #[true, true, true, true, true, true, true, true, true, true, false, false] rfl rfl (by kernel_rfl) (by decide) (fun K hK => ?_)
  refine r29_Share.boxV (by rfl) rfl (cs := #[.int .i64 0, .string (⟨#[]⟩ : ByteArray), .string (⟨#[]⟩ : ByteArray), .int .i64 0, .int .i64 0, .int .i64 0, .int .i64 0, .string (⟨#[]⟩ : ByteArray), .slice none 0 0]) (t := 27) ?hr ?_; (case hr => first | (go_simp; done) | (go_simp; rfl)); intro gb hg_ w2 hb_ hl_; have G_gb := Lib.hid hb_; have X2 := Lib.hid (below_step X1.out hl_); have H_gb := Lib.hid (show wb.heap.size ≤ gb from by rw [hg_]; exact (X1.out).size); have NE := Lib.hid (show ga ≠ gb from by have h := blk_lt G_ga.out; rw [hg_]; exact Nat.ne_of_lt h); have GA := Lib.hid (blk_below G_ga.out hl_); have GB := G_gb; clear hb_ hl_ hg_; refine hK.out _ _ (X2.out) (fun hHeld => ?_); clear hK K; refine norm_ (a' := ?_) ?_ ?_; rotate_left
  ·show Act.put _ (some 8) _ = _
   simp only [Act.put, sa_, sz_, ss_, i64_w, i32_w]; rfl
  obtain ⟨z0, z1, z2, z3, z4, z5, z6, z7, z8, y0, y1, y2, y3, y4, y5, y6, y7, y8⟩ := bw9_ (GA.out)
  refine one_ (i := 10) (N := none) #[true, true, true, true, true, true, true, true, true, true, true, false] rfl rfl (by kernel_rfl) (by decide) (fun K hK => ?_); refine skip_ (w1 := ?W10a) ?A10a ?B10a ?C10a ?D10a; (case A10a => rfl); (case B10a => rfl)
  case C10a =>
   go_simp; rfl
  (with_reducible refine hK.out _ _ ?S10a (fun hHeld2 => ?_))
  case S10a => exact X2.out.trans (r29_Share.st_below (v0 := .int .i64 (rd_T27 x.f6 0).f0) (v1 := .string (rd_T27 x.f6 0).f1) (v2 := .string (rd_T27 x.f6 0).f2) (v3 := .int .i64 (rd_T27 x.f6 0).f3) (v4 := .int .i64 (rd_T27 x.f6 0).f4) (v5 := .int .i64 (rd_T27 x.f6 0).f5.f0) (v6 := .int .i64 (rd_T27 x.f6 0).f5.f1) (v7 := .string (rd_T27 x.f6 0).f5.f2) (v8 := .slice Ga (rd_T27 x.f6 0).f6.length da) H_ga.out)
  clear hK K; obtain ⟨V, hV, h1_, h2_, hB_⟩ := r29_Share.one_in (n := wb.heap.size) (w := wb) (a := ga) (v0 := .int .i64 (rd_T27 x.f6 0).f0) (v1 := .string (rd_T27 x.f6 0).f1) (v2 := .string (rd_T27 x.f6 0).f2) (v3 := .int .i64 (rd_T27 x.f6 0).f3) (v4 := .int .i64 (rd_T27 x.f6 0).f4) (v5 := .int .i64 (rd_T27 x.f6 0).f5.f0) (v6 := .int .i64 (rd_T27 x.f6 0).f5.f1) (v7 := .string (rd_T27 x.f6 0).f5.f2) (v8 := .slice Ga (rd_T27 x.f6 0).f6.length da) X2.out H_ga.out GA.out
  unfold r29_Share.st9 at hV; rw [← hV]; clear hV; have X3 := Lib.hid hB_; clear hB_ hHeld2
  have GB' := Lib.hid ((h2_ gb (fun e => NE.out e.symm)).trans GB.out); have VG' := Lib.hid ((h2_ _ (by have h := H_ga.out; have h' := blk_lt BK.out; omega)).trans (blk_below BK.out X2.out)); have GA' := Lib.hid h1_; clear h1_ h2_ GA GB X2
  clear z0 z1 z2 z3 z4 z5 z6 z7 z8 y0 y1 y2 y3 y4 y5 y6 y7 y8; obtain ⟨z0, z1, z2, z3, z4, z5, z6, z7, z8, y0, y1, y2, y3, y4, y5, y6, y7, y8⟩ := bw9_ (GB'.out)
  refine one_ (i := 11) (N := none) #[true, true, true, true, true, true, true, true, true, true, true, true] rfl rfl (by kernel_rfl) (by decide) (fun K hK => ?_); refine skip_ (w1 := ?W11a) ?A11a ?B11a ?C11a ?D11a; (case A11a => rfl); (case B11a => rfl)
  case C11a =>
   go_simp; rfl
  (with_reducible refine hK.out _ _ ?S11a (fun hHeld2 => ?_))
  case S11a => exact X3.out.trans (r29_Share.st_below (v0 := .int .i64 (rd_T27 x.f6 1).f0) (v1 := .string (rd_T27 x.f6 1).f1) (v2 := .string (rd_T27 x.f6 1).f2) (v3 := .int .i64 (rd_T27 x.f6 1).f3) (v4 := .int .i64 (rd_T27 x.f6 1).f4) (v5 := .int .i64 (rd_T27 x.f6 1).f5.f0) (v6 := .int .i64 (rd_T27 x.f6 1).f5.f1) (v7 := .string (rd_T27 x.f6 1).f5.f2) (v8 := .slice Gb (rd_T27 x.f6 1).f6.length db) H_gb.out)
  clear hK K; obtain ⟨V, hV, h1_, h2_, hB_⟩ := r29_Share.one_in (n := wb.heap.size) (w := wb) (a := gb) (v0 := .int .i64 (rd_T27 x.f6 1).f0) (v1 := .string (rd_T27 x.f6 1).f1) (v2 := .string (rd_T27 x.f6 1).f2) (v3 := .int .i64 (rd_T27 x.f6 1).f3) (v4 := .int .i64 (rd_T27 x.f6 1).f4) (v5 := .int .i64 (rd_T27 x.f6 1).f5.f0) (v6 := .int .i64 (rd_T27 x.f6 1).f5.f1) (v7 := .string (rd_T27 x.f6 1).f5.f2) (v8 := .slice Gb (rd_T27 x.f6 1).f6.length db) X3.out H_gb.out GB'.out
  unfold r29_Share.st9 at hV; rw [← hV]; clear hV; have XV := Lib.hid hB_; clear hB_ hHeld2
  have VA := Lib.hid ((h2_ ga NE.out).trans GA'.out); have VG := Lib.hid ((h2_ _ (by have h := H_gb.out; have h' := blk_lt BK.out; omega)).trans VG'.out); have VB := Lib.hid h1_; clear h1_ h2_ GA' GB' VG' X3 X1 G_ga G_gb NE H_ga H_gb
  refine done_ (by kernel_rfl) ?_; clear z0 z1 z2 z3 z4 z5 z6 z7 z8 y0 y1 y2 y3 y4 y5 y6 y7 y8 p0 p1 p2 p3 p4 p5 p6 p7 p8 q0 q1 q2 q3 q4 q5 q6 q7 q8
  obtain ⟨p0, p1, p2, p3, p4, p5, p6, p7, p8, q0, q1, q2, q3, q4, q5, q6, q7, q8⟩ := bw9_ VG.out; obtain ⟨s0, s1, s2, s3, s4, s5, s6, s7, s8, r0, r1, r2, r3, r4, r5, r6, r7, r8⟩ := bw9_ (VA.out); obtain ⟨t0, t1, t2, t3, t4, t5, t6, t7, t8, i0, i1, i2, i3, i4, i5, i6, i7, i8⟩ := bw9_ (VB.out)
 case' arm2 =>
  refine r29_Share.boxV (by rfl) rfl (cs := #[.int .i64 0, .string (⟨#[]⟩ : ByteArray), .string (⟨#[]⟩ : ByteArray), .int .i64 0, .int .i64 0, .int .i64 0, .int .i64 0, .string (⟨#[]⟩ : ByteArray), .slice none 0 0]) (t := 27) ?hr ?_; (case hr => first | (go_simp; done) | (go_simp; rfl)); intro gb hg_ w1 hb_ hl_; have G_gb := Lib.hid hb_; have X1 := Lib.hid (below_step hHeld hl_); have H_gb := Lib.hid (show wb.heap.size ≤ gb from by rw [hg_]; exact (hHeld).size); clear hb_ hl_ hg_; refine hK.out _ _ (X1.out) (fun hHeld => ?_); clear hK K; refine norm_ (a' := ?_) ?_ ?_; rotate_left
  ·show Act.put _ (some 8) _ = _
   simp only [Act.put, sa_, sz_, ss_, i64_w, i32_w]; rfl
  refine one_ (i := 8) (N := some 7) #[true, true, true, true, true, true, true, true, true, true, false, false] rfl rfl (by kernel_rfl) (by decide) (fun K hK => ?_)
  refine r29_Share.boxV (by rfl) rfl (cs := #[.int .i64 0, .string (⟨#[]⟩ : ByteArray), .string (⟨#[]⟩ : ByteArray), .int .i64 0, .int .i64 0, .int .i64 0, .int .i64 0, .string (⟨#[]⟩ : ByteArray), .slice none 0 0]) (t := 27) ?hr ?_; (case hr => first | (go_simp; done) | (go_simp; rfl)); intro ga hg_ w2 hb_ hl_; have G_ga := Lib.hid hb_; have X2 := Lib.hid (below_step X1.out hl_); have H_ga := Lib.hid (show wb.heap.size ≤ ga from by rw [hg_]; exact (X1.out).size); have NE := Lib.hid (show ga ≠ gb from by have h := blk_lt G_gb.out; rw [hg_]; exact (Nat.ne_of_lt h).symm); have GB := Lib.hid (blk_below G_gb.out hl_); have GA := G_ga; clear hb_ hl_ hg_; refine hK.out _ _ (X2.out) (fun hHeld => ?_); clear hK K; refine norm_ (a' := ?_) ?_ ?_; rotate_left
  ·show Act.put _ (some 7) _ = _
   simp only [Act.put, sa_, sz_, ss_, i64_w, i32_w]; rfl
  obtain ⟨z0, z1, z2, z3, z4, z5, z6, z7, z8, y0, y1, y2, y3, y4, y5, y6, y7, y8⟩ := bw9_ (GA.out)
  refine one_ (i := 10) (N := none) #[true, true, true, true, true, true, true, true, true, true, true, false] rfl rfl (by kernel_rfl) (by decide) (fun K hK => ?_); refine skip_ (w1 := ?W10b) ?A10b ?B10b ?C10b ?D10b; (case A10b => rfl); (case B10b => rfl)
  case C10b =>
   go_simp; rfl
  (with_reducible refine hK.out _ _ ?S10b (fun hHeld2 => ?_))
  case S10b => exact X2.out.trans (r29_Share.st_below (v0 := .int .i64 (rd_T27 x.f6 0).f0) (v1 := .string (rd_T27 x.f6 0).f1) (v2 := .string (rd_T27 x.f6 0).f2) (v3 := .int .i64 (rd_T27 x.f6 0).f3) (v4 := .int .i64 (rd_T27 x.f6 0).f4) (v5 := .int .i64 (rd_T27 x.f6 0).f5.f0) (v6 := .int .i64 (rd_T27 x.f6 0).f5.f1) (v7 := .string (rd_T27 x.f6 0).f5.f2) (v8 := .slice Ga (rd_T27 x.f6 0).f6.length da) H_ga.out)
  clear hK K; obtain ⟨V, hV, h1_, h2_, hB_⟩ := r29_Share.one_in (n := wb.heap.size) (w := wb) (a := ga) (v0 := .int .i64 (rd_T27 x.f6 0).f0) (v1 := .string (rd_T27 x.f6 0).f1) (v2 := .string (rd_T27 x.f6 0).f2) (v3 := .int .i64 (rd_T27 x.f6 0).f3) (v4 := .int .i64 (rd_T27 x.f6 0).f4) (v5 := .int .i64 (rd_T27 x.f6 0).f5.f0) (v6 := .int .i64 (rd_T27 x.f6 0).f5.f1) (v7 := .string (rd_T27 x.f6 0).f5.f2) (v8 := .slice Ga (rd_T27 x.f6 0).f6.length da) X2.out H_ga.out GA.out
  unfold r29_Share.st9 at hV; rw [← hV]; clear hV; have X3 := Lib.hid hB_; clear hB_ hHeld2
  have GB' := Lib.hid ((h2_ gb (fun e => NE.out e.symm)).trans GB.out); have VG' := Lib.hid ((h2_ _ (by have h := H_ga.out; have h' := blk_lt BK.out; omega)).trans (blk_below BK.out X2.out)); have GA' := Lib.hid h1_; clear h1_ h2_ GA GB X2
  clear z0 z1 z2 z3 z4 z5 z6 z7 z8 y0 y1 y2 y3 y4 y5 y6 y7 y8; obtain ⟨z0, z1, z2, z3, z4, z5, z6, z7, z8, y0, y1, y2, y3, y4, y5, y6, y7, y8⟩ := bw9_ (GB'.out)
  refine one_ (i := 11) (N := none) #[true, true, true, true, true, true, true, true, true, true, true, true] rfl rfl (by kernel_rfl) (by decide) (fun K hK => ?_); refine skip_ (w1 := ?W11b) ?A11b ?B11b ?C11b ?D11b; (case A11b => rfl); (case B11b => rfl)
  case C11b =>
   go_simp; rfl
  (with_reducible refine hK.out _ _ ?S11b (fun hHeld2 => ?_))
  case S11b => exact X3.out.trans (r29_Share.st_below (v0 := .int .i64 (rd_T27 x.f6 1).f0) (v1 := .string (rd_T27 x.f6 1).f1) (v2 := .string (rd_T27 x.f6 1).f2) (v3 := .int .i64 (rd_T27 x.f6 1).f3) (v4 := .int .i64 (rd_T27 x.f6 1).f4) (v5 := .int .i64 (rd_T27 x.f6 1).f5.f0) (v6 := .int .i64 (rd_T27 x.f6 1).f5.f1) (v7 := .string (rd_T27 x.f6 1).f5.f2) (v8 := .slice Gb (rd_T27 x.f6 1).f6.length db) H_gb.out)
  clear hK K; obtain ⟨V, hV, h1_, h2_, hB_⟩ := r29_Share.one_in (n := wb.heap.size) (w := wb) (a := gb) (v0 := .int .i64 (rd_T27 x.f6 1).f0) (v1 := .string (rd_T27 x.f6 1).f1) (v2 := .string (rd_T27 x.f6 1).f2) (v3 := .int .i64 (rd_T27 x.f6 1).f3) (v4 := .int .i64 (rd_T27 x.f6 1).f4) (v5 := .int .i64 (rd_T27 x.f6 1).f5.f0) (v6 := .int .i64 (rd_T27 x.f6 1).f5.f1) (v7 := .string (rd_T27 x.f6 1).f5.f2) (v8 := .slice Gb (rd_T27 x.f6 1).f6.length db) X3.out H_gb.out GB'.out
  unfold r29_Share.st9 at hV; rw [← hV]; clear hV; have XV := Lib.hid hB_; clear hB_ hHeld2
  have VA := Lib.hid ((h2_ ga NE.out).trans GA'.out); have VG := Lib.hid ((h2_ _ (by have h := H_gb.out; have h' := blk_lt BK.out; omega)).trans VG'.out); have VB := Lib.hid h1_; clear h1_ h2_ GA' GB' VG' X3 X1 G_ga G_gb NE H_ga H_gb
  refine done_ (by kernel_rfl) ?_; clear z0 z1 z2 z3 z4 z5 z6 z7 z8 y0 y1 y2 y3 y4 y5 y6 y7 y8 p0 p1 p2 p3 p4 p5 p6 p7 p8 q0 q1 q2 q3 q4 q5 q6 q7 q8
  obtain ⟨p0, p1, p2, p3, p4, p5, p6, p7, p8, q0, q1, q2, q3, q4, q5, q6, q7, q8⟩ := bw9_ VG.out; obtain ⟨s0, s1, s2, s3, s4, s5, s6, s7, s8, r0, r1, r2, r3, r4, r5, r6, r7, r8⟩ := bw9_ (VA.out); obtain ⟨t0, t1, t2, t3, t4, t5, t6, t7, t8, i0, i1, i2, i3, i4, i5, i6, i7, i8⟩ := bw9_ (VB.out)
 all_goals
  go_wp2_with (first
    | ((with_reducible refine gate_callee (f := 64) rfl ?_); (try (refine gate_guard (by rfl) ?_; dsimp only)); refine goesL_ (some 141) rfl rfl Try.func64 (by kernel_rfl) rfl #[.agg #[.int .i64 (rd_T27 x.f6 1).f0, .string (rd_T27 x.f6 1).f1, .string (rd_T27 x.f6 1).f2, .int .i64 (rd_T27 x.f6 1).f3, .int .i64 (rd_T27 x.f6 1).f4, .int .i64 (rd_T27 x.f6 1).f5.f0, .int .i64 (rd_T27 x.f6 1).f5.f1, .string (rd_T27 x.f6 1).f5.f2, .slice Gb (rd_T27 x.f6 1).f6.length db]] rfl (by (try simp only [List.map_toArray, List.map_cons, List.map_nil]); first | done | rfl) ?_; refine (r29_number.calls _ _ _ _ _ _ _ _ Gb db _ false _ (Kd.C_below LB.out.2 XV.out) LB.out.1 Nb.out).mono ?_; rintro r' w3 ⟨rfl, hb_⟩; refine ⟨_, rfl, ?_⟩; simp only [Act.put, sa_, sz_, ss_]; have XV1 := Lib.hid (below_step XV.out hb_); have VG1 := Lib.hid (blk_below VG.out hb_); have VA1 := Lib.hid (blk_below VA.out hb_); have VB1 := Lib.hid (blk_below VB.out hb_); clear p0 p1 p2 p3 p4 p5 p6 p7 p8 q0 q1 q2 q3 q4 q5 q6 q7 q8 s0 s1 s2 s3 s4 s5 s6 s7 s8 r0 r1 r2 r3 r4 r5 r6 r7 r8 t0 t1 t2 t3 t4 t5 t6 t7 t8 i0 i1 i2 i3 i4 i5 i6 i7 i8; obtain ⟨p0, p1, p2, p3, p4, p5, p6, p7, p8, q0, q1, q2, q3, q4, q5, q6, q7, q8⟩ := bw9_ VG1.out; obtain ⟨s0, s1, s2, s3, s4, s5, s6, s7, s8, r0, r1, r2, r3, r4, r5, r6, r7, r8⟩ := bw9_ (VA1.out); obtain ⟨t0, t1, t2, t3, t4, t5, t6, t7, t8, i0, i1, i2, i3, i4, i5, i6, i7, i8⟩ := bw9_ (VB1.out); clear hb_)
    | ((with_reducible refine gate_callee (f := 64) rfl ?_); (try (refine gate_guard (by rfl) ?_; dsimp only)); refine goesL_ (some 159) rfl rfl Try.func64 (by kernel_rfl) rfl #[.agg #[.int .i64 (rd_T27 x.f6 0).f0, .string (rd_T27 x.f6 0).f1, .string (rd_T27 x.f6 0).f2, .int .i64 (rd_T27 x.f6 0).f3, .int .i64 (rd_T27 x.f6 0).f4, .int .i64 (rd_T27 x.f6 0).f5.f0, .int .i64 (rd_T27 x.f6 0).f5.f1, .string (rd_T27 x.f6 0).f5.f2, .slice Ga (rd_T27 x.f6 0).f6.length da]] rfl (by (try simp only [List.map_toArray, List.map_cons, List.map_nil]); first | done | rfl) ?_; refine (r29_number.calls _ _ _ _ _ _ _ _ Ga da _ false _ (Kd.C_below LA.out.2 XV1.out) LA.out.1 Na.out).mono ?_; rintro r' w4 ⟨rfl, hb_⟩; refine ⟨_, rfl, ?_⟩; simp only [Act.put, sa_, sz_, ss_]; have XV11 := Lib.hid (below_step XV1.out hb_); have VG11 := Lib.hid (blk_below VG1.out hb_); have VA11 := Lib.hid (blk_below VA1.out hb_); have VB11 := Lib.hid (blk_below VB1.out hb_); clear p0 p1 p2 p3 p4 p5 p6 p7 p8 q0 q1 q2 q3 q4 q5 q6 q7 q8 s0 s1 s2 s3 s4 s5 s6 s7 s8 r0 r1 r2 r3 r4 r5 r6 r7 r8 t0 t1 t2 t3 t4 t5 t6 t7 t8 i0 i1 i2 i3 i4 i5 i6 i7 i8; obtain ⟨p0, p1, p2, p3, p4, p5, p6, p7, p8, q0, q1, q2, q3, q4, q5, q6, q7, q8⟩ := bw9_ VG11.out; obtain ⟨s0, s1, s2, s3, s4, s5, s6, s7, s8, r0, r1, r2, r3, r4, r5, r6, r7, r8⟩ := bw9_ (VA11.out); obtain ⟨t0, t1, t2, t3, t4, t5, t6, t7, t8, i0, i1, i2, i3, i4, i5, i6, i7, i8⟩ := bw9_ (VB11.out); clear hb_))
  go_ret
  exact ⟨rfl, below_step BB.out XV11.out⟩
theorem r29_Share.test2 {x : S27} {st : List S103} {A0 A1 : Option Addr} {c0 c1 : Nat} {w : World} (hx : Kd.C k27 w A0 x.f6.length x.f6) (hc0 : x.f6.length ≤ c0) (hs : Kd.C k103 w A1 st.length st) (hc1 : st.length ≤ c1) {k : Nat} (ih : r29_Share.Ok k st) (hl : x.f6.length = 2) (h1 : 1 ≤ x.f0) (h6 : x.f0 ≤ 6) {r : Nat} (fa : (rd_T27 x.f6 0).f0 ≠ 15) (fb : (rd_T27 x.f6 1).f0 = 15) (numa : r29_number.f (rd_T27 x.f6 0).f0 (rd_T27 x.f6 0).f1 (rd_T27 x.f6 0).f2 (rd_T27 x.f6 0).f3 (rd_T27 x.f6 0).f4 (rd_T27 x.f6 0).f5.f0 (rd_T27 x.f6 0).f5.f1 (rd_T27 x.f6 0).f5.f2 (rd_T27 x.f6 0).f6 = some true) (hk : r29_against.f k st (rd_T27 x.f6 1).f3 (rd_T27 x.f6 1).f4 (rd [0, 1, 2, 5, 6, 3, 4] x.f0) (rd_T27 x.f6 0).f5.f1 = some r) :
  Calls Try.prog 27 #[.agg #[.int .i64 x.f0, .string x.f1, .string x.f2, .int .i64 x.f3, .int .i64 x.f4, .int .i64 x.f5.f0, .int .i64 x.f5.f1, .string x.f5.f2, .slice A0 x.f6.length c0], .slice A1 st.length c1] w fun e w' => e = .returned (.float .f64 r) ∧ Below w.heap.size w w' := by
 have HX := Lib.hid hx; have HS := Lib.hid hs; have HC := Lib.hid (And.intro hc0 hc1); have IH := Lib.hid ih; have HK := Lib.hid hk
 have n2 : ((x.f6.length : Int) == 2) = true := beq_iff_eq.2 (by omega); have n2' : ((x.f6.length : Int) != 2) = false := bne_eq_false_iff_eq.2 (by omega); have n1 : ((x.f6.length : Int) == 1) = false := beq_eq_false_iff_ne.2 (by omega); have o10 : (x.f0 == 10) = false := beq_eq_false_iff_ne.2 (by omega); have o11 : (x.f0 == 11) = false := beq_eq_false_iff_ne.2 (by omega); have lo : (decide (x.f0 < 1)) = false := decide_eq_false (by omega); have hi : (decide (6 < x.f0)) = false := decide_eq_false (by omega)
 have hl2 : (x.f6.length : Int) = 2 := by omega
 have ca : ((rd_T27 x.f6 0).f0 == 15) = false := beq_eq_false_iff_ne.2 (by omega); have cb : ((rd_T27 x.f6 1).f0 == 15) = true := beq_iff_eq.2 (by omega); have Na : Hid (r29_number.f (rd_T27 x.f6 0).f0 (rd_T27 x.f6 0).f1 (rd_T27 x.f6 0).f2 (rd_T27 x.f6 0).f3 (rd_T27 x.f6 0).f4 (rd_T27 x.f6 0).f5.f0 (rd_T27 x.f6 0).f5.f1 (rd_T27 x.f6 0).f5.f2 (rd_T27 x.f6 0).f6 = some true) := Lib.hid numa; clear hx hs hc0 hc1 ih hk fa fb numa
 go_enter Try.func27, Try.ntmps27
 go_wp2_with (((with_reducible refine gate_dst (N := 2) rfl ?_); refine box_event ?hg (N := 2) ?hd (cs := #[.int .i64 x.f0, .string x.f1, .string x.f2, .int .i64 x.f3, .int .i64 x.f4, .int .i64 x.f5.f0, .int .i64 x.f5.f1, .string x.f5.f2, .slice A0 x.f6.length c0]) (t := 27) ?hr ?_; (case hd => rfl); (case hg => rfl); (case hr => first | (go_simp; done) | (go_simp; rfl)); intro g hg_ wb hb_ hl_; have BK := Lib.hid hb_; have BB := Lib.hid hl_; have HG := Lib.hid (Nat.le_of_eq hg_.symm); obtain ⟨p0, p1, p2, p3, p4, p5, p6, p7, p8, q0, q1, q2, q3, q4, q5, q6, q7, q8⟩ := bw9_  hb_; clear hb_ hl_ hg_; simp only [Act.put, sa_, sz_, ss_]))
 have m0 : (Int.toNat 0 * 9) = 0 := rfl; have m1 : (Int.toNat 1 * 9) = 9 := rfl; obtain ⟨ada, Ga, da, ea, xa0, xa1, xa2, xa3, xa4, xa5, xa6, xa7, xa8, la, ia⟩ := at_T27 (Kd.C_below HX.out BB.out) 0 (by decide) (by omega); subst ea; obtain ⟨adb, Gb, db, eb, xb0, xb1, xb2, xb3, xb4, xb5, xb6, xb7, xb8, lb, ib⟩ := at_T27 (Kd.C_below HX.out BB.out) 1 (by decide) (by omega)
 obtain rfl : ada = adb := by injection eb
 clear eb
 have LA := Lib.hid (And.intro la ia); have LB := Lib.hid (And.intro lb ib); clear la ia lb ib
 have z0 : ada.add 0 = ada := by cases ada; simp [Addr.add]
 have z9 : ada.add 9 = ⟨ada.block, ada.off + 9, none⟩ := by have h := add_field ada 0 9 (by decide); rw [z0] at h; exact h
 simp only [m0, m1, z0, z9] at xa0 xa1 xa2 xa3 xa4 xa5 xa6 xa7 xa8 xb0 xb1 xb2 xb3 xb4 xb5 xb6 xb7 xb8; clear z0 z9; refine start_ (n := 12) (S := fun w' => Below wb.heap.size wb w') (ds := []) #[false, false, false, false, false, false, false, false, false, false, false, false] (by kernel_rfl) rfl rfl (Below.drew (Below.refl _ _)) (fun hHeld => ?_)
 generalize wb.drew = wc at hHeld ⊢
 refine pure_ (i := 0) (N := some 128) (v := ?_) (a' := ?_) #[true, false, false, false, false, false, false, false, false, false, false, false] rfl rfl (by kernel_rfl) (fun _ _ _ h => h) (Or.inl ⟨by rfl, ?_⟩) ?_ ?_; rotate_left
 ·intro w'
  go_simp; (with_reducible rfl)
 rotate_left
 ·simp only [Act.put, sa_, sz_, ss_, i64_w, i32_w]
  rfl
 refine take_ (i := 1) (N := some 129) (v := ?_) (a' := ?_) #[true, true, false, false, false, false, false, false, false, false, false, false] rfl rfl (by kernel_rfl) (fun _ _ _ h => h) (Or.inl ⟨by rfl, ?_⟩) hHeld ?_ ?_; rotate_left
 ·intro w' hS; obtain ⟨p0, p1, p2, p3, p4, p5, p6, p7, p8, q0, q1, q2, q3, q4, q5, q6, q7, q8⟩ := bw9_ (blk_below BK.out hS); go_simp; (with_reducible rfl)
 rotate_left
 ·simp only [Act.put, sa_, sz_, ss_, i64_w, i32_w]
  rfl
 refine pure_ (i := 2) (N := some 130) (v := ?_) (a' := ?_) #[true, true, true, false, false, false, false, false, false, false, false, false] rfl rfl (by kernel_rfl) (fun _ _ _ h => h) (Or.inl ⟨by rfl, ?_⟩) ?_ ?_; rotate_left
 ·intro w'
  go_simp; (with_reducible rfl)
 rotate_left
 ·simp only [Act.put, sa_, sz_, ss_, i64_w, i32_w]
  rfl
 refine take_ (i := 3) (N := some 131) (v := ?_) (a' := ?_) #[true, true, true, true, false, false, false, false, false, false, false, false] rfl rfl (by kernel_rfl) (fun _ _ _ h => h) (Or.inl ⟨by rfl, ?_⟩) hHeld ?_ ?_; rotate_left
 ·intro w' hS; have ua0 := pw_cell_below hS xa0; have ua1 := pw_cell_below hS xa1; have ua2 := pw_cell_below hS xa2; have ua3 := pw_cell_below hS xa3; have ua4 := pw_cell_below hS xa4; have ua5 := pw_cell_below hS xa5; have ua6 := pw_cell_below hS xa6; have ua7 := pw_cell_below hS xa7; have ua8 := pw_cell_below hS xa8; go_simp; (with_reducible rfl)
 rotate_left
 ·simp only [Act.put, sa_, sz_, ss_, i64_w, i32_w]
  rfl
 refine pure_ (i := 4) (N := some 132) (v := ?_) (a' := ?_) #[true, true, true, true, true, false, false, false, false, false, false, false] rfl rfl (by kernel_rfl) (fun _ _ _ h => h) (Or.inl ⟨by rfl, ?_⟩) ?_ ?_; rotate_left
 ·intro w'
  go_simp; (with_reducible rfl)
 rotate_left
 ·simp only [Act.put, sa_, sz_, ss_, i64_w, i32_w]
  rfl
 refine take_ (i := 5) (N := some 133) (v := ?_) (a' := ?_) #[true, true, true, true, true, true, false, false, false, false, false, false] rfl rfl (by kernel_rfl) (fun _ _ _ h => h) (Or.inl ⟨by rfl, ?_⟩) hHeld ?_ ?_; rotate_left
 ·intro w' hS; obtain ⟨p0, p1, p2, p3, p4, p5, p6, p7, p8, q0, q1, q2, q3, q4, q5, q6, q7, q8⟩ := bw9_ (blk_below BK.out hS); go_simp; (with_reducible rfl)
 rotate_left
 ·simp only [Act.put, sa_, sz_, ss_, i64_w, i32_w]
  rfl
 refine pure_ (i := 6) (N := some 134) (v := ?_) (a' := ?_) #[true, true, true, true, true, true, true, false, false, false, false, false] rfl rfl (by kernel_rfl) (fun _ _ _ h => h) (Or.inl ⟨by rfl, ?_⟩) ?_ ?_; rotate_left
 ·intro w'
  go_simp; (with_reducible rfl)
 rotate_left
 ·simp only [Act.put, sa_, sz_, ss_, i64_w, i32_w]
  rfl
 refine take_ (i := 7) (N := some 135) (v := ?_) (a' := ?_) #[true, true, true, true, true, true, true, true, false, false, false, false] rfl rfl (by kernel_rfl) (fun _ _ _ h => h) (Or.inl ⟨by rfl, ?_⟩) hHeld ?_ ?_; rotate_left
 ·intro w' hS; have ub0 := pw_cell_below hS xb0; have ub1 := pw_cell_below hS xb1; have ub2 := pw_cell_below hS xb2; have ub3 := pw_cell_below hS xb3; have ub4 := pw_cell_below hS xb4; have ub5 := pw_cell_below hS xb5; have ub6 := pw_cell_below hS xb6; have ub7 := pw_cell_below hS xb7; have ub8 := pw_cell_below hS xb8; go_simp; (with_reducible rfl)
 rotate_left
 ·simp only [Act.put, sa_, sz_, ss_, i64_w, i32_w]
  rfl
 refine two_ (i := 8) (j := 9) (Ni := some 7) (Nj := some 8) #[true, true, true, true, true, true, true, true, true, false, false, false] #[true, true, true, true, true, true, true, true, false, true, false, false] rfl rfl rfl rfl (by kernel_rfl) (by decide) (by decide) (fun K hK => ?arm1) (fun K hK => ?arm2)
 case' arm1 =>
  refine r29_Share.boxV (by rfl) rfl (cs := #[.int .i64 0, .string (⟨#[]⟩ : ByteArray), .string (⟨#[]⟩ : ByteArray), .int .i64 0, .int .i64 0, .int .i64 0, .int .i64 0, .string (⟨#[]⟩ : ByteArray), .slice none 0 0]) (t := 27) ?hr ?_; (case hr => first | (go_simp; done) | (go_simp; rfl)); intro ga hg_ w1 hb_ hl_; have G_ga := Lib.hid hb_; have X1 := Lib.hid (below_step hHeld hl_); have H_ga := Lib.hid (show wb.heap.size ≤ ga from by rw [hg_]; exact (hHeld).size); clear hb_ hl_ hg_; refine hK.out _ _ (X1.out) (fun hHeld => ?_); clear hK K; refine norm_ (a' := ?_) ?_ ?_; rotate_left
  ·show Act.put _ (some 7) _ = _
   simp only [Act.put, sa_, sz_, ss_, i64_w, i32_w]; rfl
  refine one_ (i := 9) (N := some 8) #[true, true, true, true, true, true, true, true, true, true, false, false] rfl rfl (by kernel_rfl) (by decide) (fun K hK => ?_)
  refine r29_Share.boxV (by rfl) rfl (cs := #[.int .i64 0, .string (⟨#[]⟩ : ByteArray), .string (⟨#[]⟩ : ByteArray), .int .i64 0, .int .i64 0, .int .i64 0, .int .i64 0, .string (⟨#[]⟩ : ByteArray), .slice none 0 0]) (t := 27) ?hr ?_; (case hr => first | (go_simp; done) | (go_simp; rfl)); intro gb hg_ w2 hb_ hl_; have G_gb := Lib.hid hb_; have X2 := Lib.hid (below_step X1.out hl_); have H_gb := Lib.hid (show wb.heap.size ≤ gb from by rw [hg_]; exact (X1.out).size); have NE := Lib.hid (show ga ≠ gb from by have h := blk_lt G_ga.out; rw [hg_]; exact Nat.ne_of_lt h); have GA := Lib.hid (blk_below G_ga.out hl_); have GB := G_gb; clear hb_ hl_ hg_; refine hK.out _ _ (X2.out) (fun hHeld => ?_); clear hK K; refine norm_ (a' := ?_) ?_ ?_; rotate_left
  ·show Act.put _ (some 8) _ = _
   simp only [Act.put, sa_, sz_, ss_, i64_w, i32_w]; rfl
  obtain ⟨z0, z1, z2, z3, z4, z5, z6, z7, z8, y0, y1, y2, y3, y4, y5, y6, y7, y8⟩ := bw9_ (GA.out)
  refine one_ (i := 10) (N := none) #[true, true, true, true, true, true, true, true, true, true, true, false] rfl rfl (by kernel_rfl) (by decide) (fun K hK => ?_); refine skip_ (w1 := ?W10a) ?A10a ?B10a ?C10a ?D10a; (case A10a => rfl); (case B10a => rfl)
  case C10a =>
   go_simp; rfl
  (with_reducible refine hK.out _ _ ?S10a (fun hHeld2 => ?_))
  case S10a => exact X2.out.trans (r29_Share.st_below (v0 := .int .i64 (rd_T27 x.f6 0).f0) (v1 := .string (rd_T27 x.f6 0).f1) (v2 := .string (rd_T27 x.f6 0).f2) (v3 := .int .i64 (rd_T27 x.f6 0).f3) (v4 := .int .i64 (rd_T27 x.f6 0).f4) (v5 := .int .i64 (rd_T27 x.f6 0).f5.f0) (v6 := .int .i64 (rd_T27 x.f6 0).f5.f1) (v7 := .string (rd_T27 x.f6 0).f5.f2) (v8 := .slice Ga (rd_T27 x.f6 0).f6.length da) H_ga.out)
  clear hK K; obtain ⟨V, hV, h1_, h2_, hB_⟩ := r29_Share.one_in (n := wb.heap.size) (w := wb) (a := ga) (v0 := .int .i64 (rd_T27 x.f6 0).f0) (v1 := .string (rd_T27 x.f6 0).f1) (v2 := .string (rd_T27 x.f6 0).f2) (v3 := .int .i64 (rd_T27 x.f6 0).f3) (v4 := .int .i64 (rd_T27 x.f6 0).f4) (v5 := .int .i64 (rd_T27 x.f6 0).f5.f0) (v6 := .int .i64 (rd_T27 x.f6 0).f5.f1) (v7 := .string (rd_T27 x.f6 0).f5.f2) (v8 := .slice Ga (rd_T27 x.f6 0).f6.length da) X2.out H_ga.out GA.out
  unfold r29_Share.st9 at hV; rw [← hV]; clear hV; have X3 := Lib.hid hB_; clear hB_ hHeld2
  have GB' := Lib.hid ((h2_ gb (fun e => NE.out e.symm)).trans GB.out); have VG' := Lib.hid ((h2_ _ (by have h := H_ga.out; have h' := blk_lt BK.out; omega)).trans (blk_below BK.out X2.out)); have GA' := Lib.hid h1_; clear h1_ h2_ GA GB X2
  clear z0 z1 z2 z3 z4 z5 z6 z7 z8 y0 y1 y2 y3 y4 y5 y6 y7 y8; obtain ⟨z0, z1, z2, z3, z4, z5, z6, z7, z8, y0, y1, y2, y3, y4, y5, y6, y7, y8⟩ := bw9_ (GB'.out)
  refine one_ (i := 11) (N := none) #[true, true, true, true, true, true, true, true, true, true, true, true] rfl rfl (by kernel_rfl) (by decide) (fun K hK => ?_); refine skip_ (w1 := ?W11a) ?A11a ?B11a ?C11a ?D11a; (case A11a => rfl); (case B11a => rfl)
  case C11a =>
   go_simp; rfl
  (with_reducible refine hK.out _ _ ?S11a (fun hHeld2 => ?_))
  case S11a => exact X3.out.trans (r29_Share.st_below (v0 := .int .i64 (rd_T27 x.f6 1).f0) (v1 := .string (rd_T27 x.f6 1).f1) (v2 := .string (rd_T27 x.f6 1).f2) (v3 := .int .i64 (rd_T27 x.f6 1).f3) (v4 := .int .i64 (rd_T27 x.f6 1).f4) (v5 := .int .i64 (rd_T27 x.f6 1).f5.f0) (v6 := .int .i64 (rd_T27 x.f6 1).f5.f1) (v7 := .string (rd_T27 x.f6 1).f5.f2) (v8 := .slice Gb (rd_T27 x.f6 1).f6.length db) H_gb.out)
  clear hK K; obtain ⟨V, hV, h1_, h2_, hB_⟩ := r29_Share.one_in (n := wb.heap.size) (w := wb) (a := gb) (v0 := .int .i64 (rd_T27 x.f6 1).f0) (v1 := .string (rd_T27 x.f6 1).f1) (v2 := .string (rd_T27 x.f6 1).f2) (v3 := .int .i64 (rd_T27 x.f6 1).f3) (v4 := .int .i64 (rd_T27 x.f6 1).f4) (v5 := .int .i64 (rd_T27 x.f6 1).f5.f0) (v6 := .int .i64 (rd_T27 x.f6 1).f5.f1) (v7 := .string (rd_T27 x.f6 1).f5.f2) (v8 := .slice Gb (rd_T27 x.f6 1).f6.length db) X3.out H_gb.out GB'.out
  unfold r29_Share.st9 at hV; rw [← hV]; clear hV; have XV := Lib.hid hB_; clear hB_ hHeld2
  have VA := Lib.hid ((h2_ ga NE.out).trans GA'.out); have VG := Lib.hid ((h2_ _ (by have h := H_gb.out; have h' := blk_lt BK.out; omega)).trans VG'.out); have VB := Lib.hid h1_; clear h1_ h2_ GA' GB' VG' X3 X1 G_ga G_gb NE H_ga H_gb
  refine done_ (by kernel_rfl) ?_; clear z0 z1 z2 z3 z4 z5 z6 z7 z8 y0 y1 y2 y3 y4 y5 y6 y7 y8 p0 p1 p2 p3 p4 p5 p6 p7 p8 q0 q1 q2 q3 q4 q5 q6 q7 q8
  obtain ⟨p0, p1, p2, p3, p4, p5, p6, p7, p8, q0, q1, q2, q3, q4, q5, q6, q7, q8⟩ := bw9_ VG.out; obtain ⟨s0, s1, s2, s3, s4, s5, s6, s7, s8, r0, r1, r2, r3, r4, r5, r6, r7, r8⟩ := bw9_ (VA.out); obtain ⟨t0, t1, t2, t3, t4, t5, t6, t7, t8, i0, i1, i2, i3, i4, i5, i6, i7, i8⟩ := bw9_ (VB.out)
 case' arm2 =>
  refine r29_Share.boxV (by rfl) rfl (cs := #[.int .i64 0, .string (⟨#[]⟩ : ByteArray), .string (⟨#[]⟩ : ByteArray), .int .i64 0, .int .i64 0, .int .i64 0, .int .i64 0, .string (⟨#[]⟩ : ByteArray), .slice none 0 0]) (t := 27) ?hr ?_; (case hr => first | (go_simp; done) | (go_simp; rfl)); intro gb hg_ w1 hb_ hl_; have G_gb := Lib.hid hb_; have X1 := Lib.hid (below_step hHeld hl_); have H_gb := Lib.hid (show wb.heap.size ≤ gb from by rw [hg_]; exact (hHeld).size); clear hb_ hl_ hg_; refine hK.out _ _ (X1.out) (fun hHeld => ?_); clear hK K; refine norm_ (a' := ?_) ?_ ?_; rotate_left
  ·show Act.put _ (some 8) _ = _
   simp only [Act.put, sa_, sz_, ss_, i64_w, i32_w]; rfl
  refine one_ (i := 8) (N := some 7) #[true, true, true, true, true, true, true, true, true, true, false, false] rfl rfl (by kernel_rfl) (by decide) (fun K hK => ?_)
  refine r29_Share.boxV (by rfl) rfl (cs := #[.int .i64 0, .string (⟨#[]⟩ : ByteArray), .string (⟨#[]⟩ : ByteArray), .int .i64 0, .int .i64 0, .int .i64 0, .int .i64 0, .string (⟨#[]⟩ : ByteArray), .slice none 0 0]) (t := 27) ?hr ?_; (case hr => first | (go_simp; done) | (go_simp; rfl)); intro ga hg_ w2 hb_ hl_; have G_ga := Lib.hid hb_; have X2 := Lib.hid (below_step X1.out hl_); have H_ga := Lib.hid (show wb.heap.size ≤ ga from by rw [hg_]; exact (X1.out).size); have NE := Lib.hid (show ga ≠ gb from by have h := blk_lt G_gb.out; rw [hg_]; exact (Nat.ne_of_lt h).symm); have GB := Lib.hid (blk_below G_gb.out hl_); have GA := G_ga; clear hb_ hl_ hg_; refine hK.out _ _ (X2.out) (fun hHeld => ?_); clear hK K; refine norm_ (a' := ?_) ?_ ?_; rotate_left
  ·show Act.put _ (some 7) _ = _
   simp only [Act.put, sa_, sz_, ss_, i64_w, i32_w]; rfl
  obtain ⟨z0, z1, z2, z3, z4, z5, z6, z7, z8, y0, y1, y2, y3, y4, y5, y6, y7, y8⟩ := bw9_ (GA.out)
  refine one_ (i := 10) (N := none) #[true, true, true, true, true, true, true, true, true, true, true, false] rfl rfl (by kernel_rfl) (by decide) (fun K hK => ?_); refine skip_ (w1 := ?W10b) ?A10b ?B10b ?C10b ?D10b; (case A10b => rfl); (case B10b => rfl)
  case C10b =>
   go_simp; rfl
  (with_reducible refine hK.out _ _ ?S10b (fun hHeld2 => ?_))
  case S10b => exact X2.out.trans (r29_Share.st_below (v0 := .int .i64 (rd_T27 x.f6 0).f0) (v1 := .string (rd_T27 x.f6 0).f1) (v2 := .string (rd_T27 x.f6 0).f2) (v3 := .int .i64 (rd_T27 x.f6 0).f3) (v4 := .int .i64 (rd_T27 x.f6 0).f4) (v5 := .int .i64 (rd_T27 x.f6 0).f5.f0) (v6 := .int .i64 (rd_T27 x.f6 0).f5.f1) (v7 := .string (rd_T27 x.f6 0).f5.f2) (v8 := .slice Ga (rd_T27 x.f6 0).f6.length da) H_ga.out)
  clear hK K; obtain ⟨V, hV, h1_, h2_, hB_⟩ := r29_Share.one_in (n := wb.heap.size) (w := wb) (a := ga) (v0 := .int .i64 (rd_T27 x.f6 0).f0) (v1 := .string (rd_T27 x.f6 0).f1) (v2 := .string (rd_T27 x.f6 0).f2) (v3 := .int .i64 (rd_T27 x.f6 0).f3) (v4 := .int .i64 (rd_T27 x.f6 0).f4) (v5 := .int .i64 (rd_T27 x.f6 0).f5.f0) (v6 := .int .i64 (rd_T27 x.f6 0).f5.f1) (v7 := .string (rd_T27 x.f6 0).f5.f2) (v8 := .slice Ga (rd_T27 x.f6 0).f6.length da) X2.out H_ga.out GA.out
  unfold r29_Share.st9 at hV; rw [← hV]; clear hV; have X3 := Lib.hid hB_; clear hB_ hHeld2
  have GB' := Lib.hid ((h2_ gb (fun e => NE.out e.symm)).trans GB.out); have VG' := Lib.hid ((h2_ _ (by have h := H_ga.out; have h' := blk_lt BK.out; omega)).trans (blk_below BK.out X2.out)); have GA' := Lib.hid h1_; clear h1_ h2_ GA GB X2
  clear z0 z1 z2 z3 z4 z5 z6 z7 z8 y0 y1 y2 y3 y4 y5 y6 y7 y8; obtain ⟨z0, z1, z2, z3, z4, z5, z6, z7, z8, y0, y1, y2, y3, y4, y5, y6, y7, y8⟩ := bw9_ (GB'.out)
  refine one_ (i := 11) (N := none) #[true, true, true, true, true, true, true, true, true, true, true, true] rfl rfl (by kernel_rfl) (by decide) (fun K hK => ?_); refine skip_ (w1 := ?W11b) ?A11b ?B11b ?C11b ?D11b; (case A11b => rfl); (case B11b => rfl)
  case C11b =>
   go_simp; rfl
  (with_reducible refine hK.out _ _ ?S11b (fun hHeld2 => ?_))
  case S11b => exact X3.out.trans (r29_Share.st_below (v0 := .int .i64 (rd_T27 x.f6 1).f0) (v1 := .string (rd_T27 x.f6 1).f1) (v2 := .string (rd_T27 x.f6 1).f2) (v3 := .int .i64 (rd_T27 x.f6 1).f3) (v4 := .int .i64 (rd_T27 x.f6 1).f4) (v5 := .int .i64 (rd_T27 x.f6 1).f5.f0) (v6 := .int .i64 (rd_T27 x.f6 1).f5.f1) (v7 := .string (rd_T27 x.f6 1).f5.f2) (v8 := .slice Gb (rd_T27 x.f6 1).f6.length db) H_gb.out)
  clear hK K; obtain ⟨V, hV, h1_, h2_, hB_⟩ := r29_Share.one_in (n := wb.heap.size) (w := wb) (a := gb) (v0 := .int .i64 (rd_T27 x.f6 1).f0) (v1 := .string (rd_T27 x.f6 1).f1) (v2 := .string (rd_T27 x.f6 1).f2) (v3 := .int .i64 (rd_T27 x.f6 1).f3) (v4 := .int .i64 (rd_T27 x.f6 1).f4) (v5 := .int .i64 (rd_T27 x.f6 1).f5.f0) (v6 := .int .i64 (rd_T27 x.f6 1).f5.f1) (v7 := .string (rd_T27 x.f6 1).f5.f2) (v8 := .slice Gb (rd_T27 x.f6 1).f6.length db) X3.out H_gb.out GB'.out
  unfold r29_Share.st9 at hV; rw [← hV]; clear hV; have XV := Lib.hid hB_; clear hB_ hHeld2
  have VA := Lib.hid ((h2_ ga NE.out).trans GA'.out); have VG := Lib.hid ((h2_ _ (by have h := H_gb.out; have h' := blk_lt BK.out; omega)).trans VG'.out); have VB := Lib.hid h1_; clear h1_ h2_ GA' GB' VG' X3 X1 G_ga G_gb NE H_ga H_gb
  refine done_ (by kernel_rfl) ?_; clear z0 z1 z2 z3 z4 z5 z6 z7 z8 y0 y1 y2 y3 y4 y5 y6 y7 y8 p0 p1 p2 p3 p4 p5 p6 p7 p8 q0 q1 q2 q3 q4 q5 q6 q7 q8
  obtain ⟨p0, p1, p2, p3, p4, p5, p6, p7, p8, q0, q1, q2, q3, q4, q5, q6, q7, q8⟩ := bw9_ VG.out; obtain ⟨s0, s1, s2, s3, s4, s5, s6, s7, s8, r0, r1, r2, r3, r4, r5, r6, r7, r8⟩ := bw9_ (VA.out); obtain ⟨t0, t1, t2, t3, t4, t5, t6, t7, t8, i0, i1, i2, i3, i4, i5, i6, i7, i8⟩ := bw9_ (VB.out)
 all_goals
  go_wp2_with (first
    | ((with_reducible refine gate_callee (f := 64) rfl ?_); (try (refine gate_guard (by rfl) ?_; dsimp only)); refine goesL_ (some 159) rfl rfl Try.func64 (by kernel_rfl) rfl #[.agg #[.int .i64 (rd_T27 x.f6 0).f0, .string (rd_T27 x.f6 0).f1, .string (rd_T27 x.f6 0).f2, .int .i64 (rd_T27 x.f6 0).f3, .int .i64 (rd_T27 x.f6 0).f4, .int .i64 (rd_T27 x.f6 0).f5.f0, .int .i64 (rd_T27 x.f6 0).f5.f1, .string (rd_T27 x.f6 0).f5.f2, .slice Ga (rd_T27 x.f6 0).f6.length da]] rfl (by (try simp only [List.map_toArray, List.map_cons, List.map_nil]); first | done | rfl) ?_; refine (r29_number.calls _ _ _ _ _ _ _ _ Ga da _ true _ (Kd.C_below LA.out.2 XV.out) LA.out.1 Na.out).mono ?_; rintro r' w3 ⟨rfl, hb_⟩; refine ⟨_, rfl, ?_⟩; simp only [Act.put, sa_, sz_, ss_]; have XV1 := Lib.hid (below_step XV.out hb_); have VG1 := Lib.hid (blk_below VG.out hb_); have VA1 := Lib.hid (blk_below VA.out hb_); have VB1 := Lib.hid (blk_below VB.out hb_); clear p0 p1 p2 p3 p4 p5 p6 p7 p8 q0 q1 q2 q3 q4 q5 q6 q7 q8 s0 s1 s2 s3 s4 s5 s6 s7 s8 r0 r1 r2 r3 r4 r5 r6 r7 r8 t0 t1 t2 t3 t4 t5 t6 t7 t8 i0 i1 i2 i3 i4 i5 i6 i7 i8; obtain ⟨p0, p1, p2, p3, p4, p5, p6, p7, p8, q0, q1, q2, q3, q4, q5, q6, q7, q8⟩ := bw9_ VG1.out; obtain ⟨s0, s1, s2, s3, s4, s5, s6, s7, s8, r0, r1, r2, r3, r4, r5, r6, r7, r8⟩ := bw9_ (VA1.out); obtain ⟨t0, t1, t2, t3, t4, t5, t6, t7, t8, i0, i1, i2, i3, i4, i5, i6, i7, i8⟩ := bw9_ (VB1.out); clear hb_)
    | ((with_reducible refine gate_dst (N := 161) rfl ?_); refine Kd.R_lit (Kd.int .i64) _ 3 ?hg (N := 161) ?hd (xs := ([0, 1, 2, 5, 6, 3, 4] : List Int)) (inner := [.int .i64 0, .int .i64 1, .int .i64 2, .int .i64 5, .int .i64 6, .int .i64 3, .int .i64 4]) (ok := fun _ => True) (okp := fun _ => True) ?hr ?hp (fun _ hk => hk) trivial (Below.refl _ _) (Nat.le_refl _) (by simp) ?_; (case hd => rfl); (case hg => rfl); (case hr => first | (go_simp; done) | (go_simp; rfl)); (case hp => exact (Reps.one (show Kd.M (Kd.int .i64) _ _ _ 0 [.int .i64 0] from rfl) (Reps.one (show Kd.M (Kd.int .i64) _ _ _ 1 [.int .i64 1] from rfl) (Reps.one (show Kd.M (Kd.int .i64) _ _ _ 2 [.int .i64 2] from rfl) (Reps.one (show Kd.M (Kd.int .i64) _ _ _ 5 [.int .i64 5] from rfl) (Reps.one (show Kd.M (Kd.int .i64) _ _ _ 6 [.int .i64 6] from rfl) (Reps.one (show Kd.M (Kd.int .i64) _ _ _ 3 [.int .i64 3] from rfl) (Reps.one (show Kd.M (Kd.int .i64) _ _ _ 4 [.int .i64 4] from rfl) (Reps.none _ _))))))))); intro vz wz ho hb hg_ hn_; clear hg_ hn_; obtain ⟨ZA, ZC, hv_⟩ := Kd.R_slice ho; subst hv_; have RL := Lib.hid ho; have XV11 := Lib.hid (below_step XV1.out hb); have VG11 := Lib.hid (blk_below VG1.out hb); have VA11 := Lib.hid (blk_below VA1.out hb); have VB11 := Lib.hid (blk_below VB1.out hb); clear p0 p1 p2 p3 p4 p5 p6 p7 p8 q0 q1 q2 q3 q4 q5 q6 q7 q8 s0 s1 s2 s3 s4 s5 s6 s7 s8 r0 r1 r2 r3 r4 r5 r6 r7 r8 t0 t1 t2 t3 t4 t5 t6 t7 t8 i0 i1 i2 i3 i4 i5 i6 i7 i8; obtain ⟨p0, p1, p2, p3, p4, p5, p6, p7, p8, q0, q1, q2, q3, q4, q5, q6, q7, q8⟩ := bw9_ VG11.out; obtain ⟨s0, s1, s2, s3, s4, s5, s6, s7, s8, r0, r1, r2, r3, r4, r5, r6, r7, r8⟩ := bw9_ (VA11.out); obtain ⟨t0, t1, t2, t3, t4, t5, t6, t7, t8, i0, i1, i2, i3, i4, i5, i6, i7, i8⟩ := bw9_ (VB11.out); clear hb ho))
  have ip : 0 ≤ (x.f0 : Int) := by omega
  have iq : (x.f0 : Int) < 7 := by omega
  have iq' : (x.f0 : Int) < (([0, 1, 2, 5, 6, 3, 4] : List Int).length : Int) := iq; obtain ⟨adz, ez, hxz⟩ := Kd.at_int (Kd.R_reads' RL.out).2.2 x.f0 ip iq'; cases ez
  replace ip := eq_true ip; replace iq := eq_true iq; replace iq' := eq_true iq'
  refine start_ (n := 15) (S := fun w' => Below wz.heap.size wz w') (ds := []) #[false, false, false, false, false, false, false, false, false, false, false, false, false, false, false] (by kernel_rfl) rfl rfl (Below.drew (Below.refl _ _)) (fun hHeld => ?_)
  generalize wz.drew = wd at hHeld ⊢
  refine pure_ (i := 0) (N := some 162) (v := ?_) (a' := ?_) #[true, false, false, false, false, false, false, false, false, false, false, false, false, false, false] rfl rfl (by kernel_rfl) (fun _ _ _ h => h) (Or.inl ⟨by rfl, ?_⟩) ?_ ?_; rotate_left
  ·intro w'
   go_simp; (with_reducible rfl)
  rotate_left
  ·simp only [Act.put, sa_, sz_, ss_, i64_w, i32_w]
   rfl
  refine pure_ (i := 1) (N := some 163) (v := ?_) (a' := ?_) #[true, true, false, false, false, false, false, false, false, false, false, false, false, false, false] rfl rfl (by kernel_rfl) (fun _ _ _ h => h) (Or.inl ⟨by rfl, ?_⟩) ?_ ?_; rotate_left
  ·intro w'
   go_simp; (with_reducible rfl)
  rotate_left
  ·simp only [Act.put, sa_, sz_, ss_, i64_w, i32_w]
   rfl
  refine take_ (i := 2) (N := some 164) (v := ?_) (a' := ?_) #[true, true, true, false, false, false, false, false, false, false, false, false, false, false, false] rfl rfl (by kernel_rfl) (fun _ _ _ h => h) (Or.inl ⟨by rfl, ?_⟩) hHeld ?_ ?_; rotate_left
  ·intro w' hS; obtain ⟨k0, k1, k2, k3, k4, k5, k6, k7, k8, l0, l1, l2, l3, l4, l5, l6, l7, l8⟩ := bw9_ (blk_below VB11.out hS); go_simp; (with_reducible rfl)
  rotate_left
  ·simp only [Act.put, sa_, sz_, ss_, i64_w, i32_w]
   rfl
  refine pure_ (i := 3) (N := some 165) (v := ?_) (a' := ?_) #[true, true, true, true, false, false, false, false, false, false, false, false, false, false, false] rfl rfl (by kernel_rfl) (fun _ _ _ h => h) (Or.inl ⟨by rfl, ?_⟩) ?_ ?_; rotate_left
  ·intro w'
   go_simp; (with_reducible rfl)
  rotate_left
  ·simp only [Act.put, sa_, sz_, ss_, i64_w, i32_w]
   rfl
  refine take_ (i := 4) (N := some 166) (v := ?_) (a' := ?_) #[true, true, true, true, true, false, false, false, false, false, false, false, false, false, false] rfl rfl (by kernel_rfl) (fun _ _ _ h => h) (Or.inl ⟨by rfl, ?_⟩) hHeld ?_ ?_; rotate_left
  ·intro w' hS; obtain ⟨k0, k1, k2, k3, k4, k5, k6, k7, k8, l0, l1, l2, l3, l4, l5, l6, l7, l8⟩ := bw9_ (blk_below VB11.out hS); go_simp; (with_reducible rfl)
  rotate_left
  ·simp only [Act.put, sa_, sz_, ss_, i64_w, i32_w]
   rfl
  refine pure_ (i := 5) (N := some 167) (v := ?_) (a' := ?_) #[true, true, true, true, true, true, false, false, false, false, false, false, false, false, false] rfl rfl (by kernel_rfl) (fun _ _ _ h => h) (Or.inl ⟨by rfl, ?_⟩) ?_ ?_; rotate_left
  ·intro w'
   go_simp; (with_reducible rfl)
  rotate_left
  ·simp only [Act.put, sa_, sz_, ss_, i64_w, i32_w]
   rfl
  refine pure_ (i := 6) (N := some 168) (v := ?_) (a' := ?_) #[true, true, true, true, true, true, true, false, false, false, false, false, false, false, false] rfl rfl (by kernel_rfl) (fun _ _ _ h => h) (Or.inl ⟨by rfl, ?_⟩) ?_ ?_; rotate_left
  ·intro w'
   go_simp; (with_reducible rfl)
  rotate_left
  ·simp only [Act.put, sa_, sz_, ss_, i64_w, i32_w]
   rfl
  refine take_ (i := 7) (N := some 169) (v := ?_) (a' := ?_) #[true, true, true, true, true, true, true, true, false, false, false, false, false, false, false] rfl rfl (by kernel_rfl) (fun _ _ _ h => h) (Or.inl ⟨by rfl, ?_⟩) hHeld ?_ ?_; rotate_left
  ·intro w' hS; obtain ⟨k0, k1, k2, k3, k4, k5, k6, k7, k8, l0, l1, l2, l3, l4, l5, l6, l7, l8⟩ := bw9_ (blk_below VG11.out hS); go_simp; (with_reducible rfl)
  rotate_left
  ·simp only [Act.put, sa_, sz_, ss_, i64_w, i32_w]
   rfl
  refine pure_ (i := 8) (N := some 170) (v := ?_) (a' := ?_) #[true, true, true, true, true, true, true, true, true, false, false, false, false, false, false] rfl rfl (by kernel_rfl) (fun _ _ _ h => h) (Or.inl ⟨by rfl, ?_⟩) ?_ ?_; rotate_left
  ·intro w'
   go_simp; (with_reducible rfl)
  rotate_left
  ·simp only [Act.put, sa_, sz_, ss_, i64_w, i32_w]
   rfl
  refine take_ (i := 9) (N := some 171) (v := ?_) (a' := ?_) #[true, true, true, true, true, true, true, true, true, true, false, false, false, false, false] rfl rfl (by kernel_rfl) (fun _ _ _ h => h) (Or.inl ⟨by rfl, ?_⟩) hHeld ?_ ?_; rotate_left
  ·intro w' hS; have k0 := pw_cell_below hS hxz; go_simp; (with_reducible rfl)
  rotate_left
  ·simp only [Act.put, sa_, sz_, ss_, i64_w, i32_w]
   rfl
  refine pure_ (i := 10) (N := some 172) (v := ?_) (a' := ?_) #[true, true, true, true, true, true, true, true, true, true, true, false, false, false, false] rfl rfl (by kernel_rfl) (fun _ _ _ h => h) (Or.inl ⟨by rfl, ?_⟩) ?_ ?_; rotate_left
  ·intro w'
   go_simp; (with_reducible rfl)
  rotate_left
  ·simp only [Act.put, sa_, sz_, ss_, i64_w, i32_w]
   rfl
  refine pure_ (i := 11) (N := some 173) (v := ?_) (a' := ?_) #[true, true, true, true, true, true, true, true, true, true, true, true, false, false, false] rfl rfl (by kernel_rfl) (fun _ _ _ h => h) (Or.inl ⟨by rfl, ?_⟩) ?_ ?_; rotate_left
  ·intro w'
   go_simp; (with_reducible rfl)
  rotate_left
  ·simp only [Act.put, sa_, sz_, ss_, i64_w, i32_w]
   rfl
  refine take_ (i := 12) (N := some 174) (v := ?_) (a' := ?_) #[true, true, true, true, true, true, true, true, true, true, true, true, true, false, false] rfl rfl (by kernel_rfl) (fun _ _ _ h => h) (Or.inl ⟨by rfl, ?_⟩) hHeld ?_ ?_; rotate_left
  ·intro w' hS; obtain ⟨k0, k1, k2, k3, k4, k5, k6, k7, k8, l0, l1, l2, l3, l4, l5, l6, l7, l8⟩ := bw9_ (blk_below VA11.out hS); go_simp; (with_reducible rfl)
  rotate_left
  ·simp only [Act.put, sa_, sz_, ss_, i64_w, i32_w]
   rfl
  refine one_ (i := 13) (N := some 175) #[true, true, true, true, true, true, true, true, true, true, true, true, true, true, false] rfl rfl (by kernel_rfl) (by decide) (fun K hK => ?_); refine goes_ Try.func65 (by kernel_rfl) rfl #[.slice A1 st.length c1, .int .i64 (rd_T27 x.f6 1).f3, .int .i64 (rd_T27 x.f6 1).f4, .int .i64 (rd [0, 1, 2, 5, 6, 3, 4] x.f0), .int .i64 (rd_T27 x.f6 0).f5.f1] (by rfl) rfl rfl (by (try simp only [List.map_toArray, List.map_cons, List.map_nil]); first | done | rfl) ?_; refine (r29_against.calls k A1 c1 st _ _ _ _ r _ (Kd.C_below HS.out (below_step BB.out (below_step XV11.out hHeld))) HC.out.2 HK.out).mono ?_; rintro e' w5 ⟨rfl, hb_⟩; refine ⟨_, rfl, ?_⟩; have X5 := Lib.hid (below_step hHeld hb_); clear hb_; refine hK.out _ _ (X5.out) (fun hHeld => ?_); clear hK K; refine norm_ (a' := ?_) ?_ ?_; rotate_left
  ·show Act.put _ (some 175) _ = _
   simp only [Act.put, sa_, sz_, ss_, i64_w, i32_w]; rfl
  refine pure_ (i := 14) (N := some 4) (v := ?_) (a' := ?_) #[true, true, true, true, true, true, true, true, true, true, true, true, true, true, true] rfl rfl (by kernel_rfl) (fun _ _ _ h => h) (Or.inl ⟨by rfl, ?_⟩) ?_ ?_; rotate_left
  ·intro w'
   go_simp; (with_reducible rfl)
  rotate_left
  ·simp only [Act.put, sa_, sz_, ss_, i64_w, i32_w]
   rfl
  refine done_ (by kernel_rfl) ?_
  try go_wp2
  go_ret
  exact ⟨rfl, below_step BB.out (below_step XV11.out X5.out)⟩
theorem r29_Share.num_ (a : Int) (b c : ByteArray) (d e f g : Int) (h : ByteArray) (l : List S27) (v : Bool) (hv : decide (a = 16 ∧ f = 1) = v) : r29_number.f a b c d e f g h l = some v := by
 subst hv; unfold r29_number.f
 by_cases h1 : a = 16 <;> by_cases h2 : f = 1 <;> simp [h1, h2]
theorem r29_Share.ok_all (st : List S103) : ∀ k, r29_Share.Ok k st
 | 0 => fun x A0 A1 c0 c1 r w hx hc0 hs hc1 h => by cases h
 | k + 1 => by
  have ih := r29_Share.ok_all st k; intro x A0 A1 c0 c1 r w hx hc0 hs hc1 h; rw [r29_Share.F] at h
  split at h
  ·rename_i c
   obtain ⟨a, ha, h⟩ := Option.bind_eq_some_iff.1 h; obtain ⟨b, hb, h⟩ := Option.bind_eq_some_iff.1 h; exact r29_Share.and_ hx hc0 hs hc1 ih c.1 c.2 ha hb h
  ·rename_i d1
   split at h
   ·rename_i c
    obtain ⟨a, ha, h⟩ := Option.bind_eq_some_iff.1 h; obtain ⟨b, hb, h⟩ := Option.bind_eq_some_iff.1 h; exact r29_Share.or_ hx hc0 hs hc1 ih c.1 c.2 ha hb h
   ·rename_i d2
    split at h
    ·rename_i c
     obtain ⟨a, ha, h⟩ := Option.bind_eq_some_iff.1 h; exact r29_Share.not_ hx hc0 hs hc1 ih c.1 c.2 ha h
    ·rename_i d3
     split at h
     ·rename_i c
      obtain ⟨⟨p0, p1, p2⟩, hc, h⟩ := Option.bind_eq_some_iff.1 h; obtain ⟨⟨s0, s1⟩, hq, h⟩ := Option.bind_eq_some_iff.1 h; obtain ⟨v, hv, h⟩ := Option.bind_eq_some_iff.1 h
      rcases c.2.1 with c13 | c14
      ·rw [if_neg (show ¬ x.f0 = 14 by omega)] at h
       exact r29_Share.null_ hx hc0 hs hc1 ih c13 c.1 c.2.2 hc hq hv h
      ·rw [if_pos c14] at h
       exact r29_Share.live_ hx hc0 hs hc1 ih c14 c.1 c.2.2 hc hq hv h
     ·rename_i d4
      split at h
      ·rename_i c
       obtain rfl := Option.some.inj h
       by_cases l1 : x.f6.length = 1
       ·by_cases o13 : x.f0 = 13
        ·exact r29_Share.half13 hx hc0 hs hc1 ih l1 o13 fun e => d4 ⟨l1, Or.inl o13, e⟩
        ·by_cases o14 : x.f0 = 14
         ·exact r29_Share.half14 hx hc0 hs hc1 ih l1 o14 fun e => d4 ⟨l1, Or.inr o14, e⟩
         ·exact r29_Share.half1 hx hc0 hs hc1 ih l1 (fun e => d3 ⟨e, l1⟩) o13 o14
       ·by_cases l2 : x.f6.length = 2
        ·by_cases lo : x.f0 < 1
         ·exact r29_Share.half2a hx hc0 hs hc1 ih l2 lo
         ·exact r29_Share.half2b hx hc0 hs hc1 ih l2 (by omega) (fun e => d1 ⟨e, l2⟩) (fun e => d2 ⟨e, l2⟩)
        ·exact r29_Share.half0 hx hc0 hs hc1 ih l1 l2
      ·rename_i d5
       have l2 : x.f6.length = 2 := by omega
       have h1 : 1 ≤ x.f0 := by omega
       have h6 : x.f0 ≤ 6 := by omega
       split at h
       ·rename_i c
        exact r29_Share.test1 hx hc0 hs hc1 ih l2 h1 h6 c.1 (r29_Share.num_ _ _ _ _ _ _ _ _ _ _ (decide_eq_true c.2)) h
       ·rename_i d6
        split at h
        ·rename_i c
         exact r29_Share.test2 hx hc0 hs hc1 ih l2 h1 h6 (by omega) c.1 (r29_Share.num_ _ _ _ _ _ _ _ _ _ _ (decide_eq_true c.2)) h
        ·rename_i d7
         split at h
         ·rename_i c
          exact r29_Share.test3 hx hc0 hs hc1 ih l2 h1 h6 c.1 c.2.1 c.2.2 (r29_Share.num_ _ _ _ _ _ _ _ _ _ _ (decide_eq_false (by omega))) (r29_Share.num_ _ _ _ _ _ _ _ _ _ _ (decide_eq_false (by omega))) h
         ·rename_i d8
          obtain rfl := Option.some.inj h
          by_cases fa : (rd_T27 x.f6 0).f0 = 15
          ·by_cases fb : (rd_T27 x.f6 1).f0 = 15
           ·exact r29_Share.th4 hx hc0 hs hc1 ih l2 h1 h6 fa fb (fun e => d8 ⟨fa, fb, e⟩) (r29_Share.num_ _ _ _ _ _ _ _ _ _ _ (decide_eq_false (by omega))) (r29_Share.num_ _ _ _ _ _ _ _ _ _ _ (decide_eq_false (by omega)))
           ·exact r29_Share.th3 hx hc0 hs hc1 ih l2 h1 h6 fa fb (r29_Share.num_ _ _ _ _ _ _ _ _ _ _ (decide_eq_false (fun e => d6 ⟨fa, e⟩)))
          ·by_cases fb : (rd_T27 x.f6 1).f0 = 15
           ·exact r29_Share.th2 hx hc0 hs hc1 ih l2 h1 h6 fa fb (r29_Share.num_ _ _ _ _ _ _ _ _ _ _ (decide_eq_false (fun e => d7 ⟨fb, e⟩)))
           ·exact r29_Share.th1 hx hc0 hs hc1 ih l2 h1 h6 fa fb
theorem r29_Share.calls (k : Nat) : ∀ (a0_0 : Int) (a0_1 : ByteArray) (a0_2 : ByteArray) (a0_3 : Int) (a0_4 : Int) (a0_5 : Int) (a0_6 : Int) (a0_7 : ByteArray) (A0_8 : Option Addr) (c0_8 : Nat) (l0_8 : List (S27)) (A1 : Option Addr) (c1 : Nat) (l1 : List (S103)) (r : Nat) (w : World) (hr0_8 : Kd.C k27 w A0_8 l0_8.length l0_8) (hc0_8 : l0_8.length ≤ c0_8) (hr1 : Kd.C k103 w A1 l1.length l1) (hc1 : l1.length ≤ c1) (h : r29_Share.f k a0_0 a0_1 a0_2 a0_3 a0_4 a0_5 a0_6 a0_7 l0_8 l1 = some r),
  Calls Try.prog 27 #[.agg #[.int .i64 a0_0, .string a0_1, .string a0_2, .int .i64 a0_3, .int .i64 a0_4, .int .i64 a0_5, .int .i64 a0_6, .string a0_7, .slice A0_8 l0_8.length c0_8], .slice A1 l1.length c1] w fun e w' => e = .returned (.float .f64 r) ∧ Below w.heap.size w w' :=
 fun a0_0 a0_1 a0_2 a0_3 a0_4 a0_5 a0_6 a0_7 A0 c0 l0 A1 c1 l1 r w hr hc hr1 hc1 h => r29_Share.ok_all l1 k ⟨a0_0, a0_1, a0_2, a0_3, a0_4, ⟨a0_5, a0_6, a0_7⟩, l0⟩ A0 A1 c0 c1 r w hr hc hr1 hc1 h
end Go.Proofs.Ytcfgjaggccnoaaa.PCostShares
namespace Go.Proofs.Ytcfgjaggccnoaaa.PCostShares
open Go.RowKit Go.Proofs.YtcfgjaggccnoaaaW.PrintWords Go.Proofs.YtcfgjaggccnoaaaW.PrintLast Go.Proofs.YtcfgjaggccnoaaaW.PrintMore
attribute [local go_sem] max2_int min2_int max_two min_two max_three min_three max_four min_four
set_option linter.unusedVariables false
set_option maxHeartbeats 8000000
set_option linter.unusedSimpArgs false
set_option maxRecDepth 100000
def r28_Share.f (a0 : Nat) : Option (Bool) := some (decide (a0 ≤ 4607182418800017408))
theorem r28_Share.calls (a0 : Nat) (r : Bool) (w : World) (h : r28_Share.f a0 = some r) : Calls Try.prog 28 #[.float .f64 a0] w fun e w' => e = .returned (.bool r) ∧ Drawn0 w w' := by
 obtain rfl := Option.some.inj h; clear h
 have hbits : ∀ (x : Nat) (W : World), (callFunc 57 #[.float .f64 x]).run Try.prog W = .ok (.value (.int .u64 x)) W := fun x W => run_bits Try.func57 (by kernel_rfl) (by kernel_rfl) (by kernel_rfl) (by kernel_rfl) x W
 have e : decide (a0 ≤ 4607182418800017408) = decide ((a0 : Int) ≤ 4607182418800017408) := by
  by_cases q : a0 ≤ 4607182418800017408
  ·rw [decide_eq_true q, decide_eq_true (by omega)]
  ·rw [decide_eq_false q, decide_eq_false (by omega)]
 rw [e]; clear e
 go_enter Try.func28, Try.ntmps28
 go_wp2
 go_ret
 exact ⟨rfl, Drawn0.refl _⟩
def w29_CostShares.j0 : Nat → List (S103) → Bool → Int → ByteArray → ByteArray → Int → Int → Int → Int → ByteArray → List (S27) → Option (Bool)
 | 0, _, _, _, _, _, _, _, _, _, _, _ => none
 | k + 1, x1, x11, x420000, x420001, x420002, x420003, x420004, x420005, x420006, x420007, x420008 => if x11 = true then ((w29_live.f k).bind fun t422 => (some t422)) else ((cost_Share.f k x420000 x420001 x420002 x420003 x420004 x420005 x420006 x420007 x420008 x1).bind fun t423 => ((r29_Share.f k x420000 x420001 x420002 x420003 x420004 x420005 x420006 x420007 x420008 x1).bind fun t424 => ((r28_Same.f t423 t424).bind fun t425 => (if t425 = true then ((r28_Share.f t423).bind fun t426 => (if t426 = true then ((w29_live.f k).bind fun t427 => (some t427)) else (some false))) else (some false)))))
def w29_CostShares.f (k : Nat) (a0_0 : Int) (a0_1 : ByteArray) (a0_2 : ByteArray) (a0_3 : Int) (a0_4 : Int) (a0_5 : Int) (a0_6 : Int) (a0_7 : ByteArray) (l0_8 : List (S27)) (l1 : List (S103)) : Option (Bool) := (r08_Much.f k a0_0 a0_1 a0_2 a0_3 a0_4 a0_5 a0_6 a0_7 l0_8).bind fun t420 => (if t420 = true then (w29_CostShares.j0 k l1 true a0_0 a0_1 a0_2 a0_3 a0_4 a0_5 a0_6 a0_7 l0_8) else ((r29_Much.f k l1).bind fun t421 => (w29_CostShares.j0 k l1 t421 a0_0 a0_1 a0_2 a0_3 a0_4 a0_5 a0_6 a0_7 l0_8)))
theorem w29_CostShares.mono_l : ∀ k, (∀ y0 y1 y2 y3 y4 y5 y6 y7 y8 y9 y10, LeO (w29_CostShares.j0 k y0 y1 y2 y3 y4 y5 y6 y7 y8 y9 y10) (w29_CostShares.j0 (k + 1) y0 y1 y2 y3 y4 y5 y6 y7 y8 y9 y10))
 | 0 => fun _ _ _ _ _ _ _ _ _ _ _ r h => by simp [w29_CostShares.j0] at h
 | k + 1 => by
  have ih0 := w29_CostShares.mono_l k
  ·intro y0 y1 y2 y3 y4 y5 y6 y7 y8 y9 y10
   unfold w29_CostShares.j0
   repeat' first
   | (with_reducible exact ih0 _ _ _ _ _ _ _ _ _ _ _)
   | (with_reducible exact cost_Share.mono _ _ _ _ _ _ _ _ _ _ _)
   | (with_reducible exact w29_live.mono _)
   | (with_reducible exact r08_Much.mono _ _ _ _ _ _ _ _ _ _)
   | (with_reducible exact r29_Much.mono _ _)
   | (with_reducible exact r29_Share.mono _ _ _ _ _ _ _ _ _ _ _)
   | (with_reducible exact LeO.refl _)
   | (with_reducible exact LeO.none _)
   | (with_reducible refine LeO.ite ?_ ?_)
   | (with_reducible refine LeO.bind ?_ (fun _ => ?_))
   | exact ih0 _ _ _ _ _ _ _ _ _ _ _
   | exact cost_Share.mono _ _ _ _ _ _ _ _ _ _ _
   | exact w29_live.mono _
   | exact r08_Much.mono _ _ _ _ _ _ _ _ _ _
   | exact r29_Much.mono _ _
   | exact r29_Share.mono _ _ _ _ _ _ _ _ _ _ _
   | exact LeO.none _
   | refine LeO.ite ?_ ?_
   | refine LeO.bind ?_ (fun _ => ?_)
theorem w29_CostShares.mono : ∀ a0 a1 a2 a3 a4 a5 a6 a7 a8 a9 k, LeO (w29_CostShares.f k a0 a1 a2 a3 a4 a5 a6 a7 a8 a9) (w29_CostShares.f (k + 1) a0 a1 a2 a3 a4 a5 a6 a7 a8 a9) := by
 intro a0 a1 a2 a3 a4 a5 a6 a7 a8 a9 k; have ih0 := w29_CostShares.mono_l k; unfold w29_CostShares.f
 repeat' first
   | (with_reducible exact ih0 _ _ _ _ _ _ _ _ _ _ _)
   | (with_reducible exact cost_Share.mono _ _ _ _ _ _ _ _ _ _ _)
   | (with_reducible exact w29_live.mono _)
   | (with_reducible exact r08_Much.mono _ _ _ _ _ _ _ _ _ _)
   | (with_reducible exact r29_Much.mono _ _)
   | (with_reducible exact r29_Share.mono _ _ _ _ _ _ _ _ _ _ _)
   | (with_reducible exact LeO.refl _)
   | (with_reducible exact LeO.none _)
   | (with_reducible refine LeO.ite ?_ ?_)
   | (with_reducible refine LeO.bind ?_ (fun _ => ?_))
   | exact ih0 _ _ _ _ _ _ _ _ _ _ _
   | exact cost_Share.mono _ _ _ _ _ _ _ _ _ _ _
   | exact w29_live.mono _
   | exact r08_Much.mono _ _ _ _ _ _ _ _ _ _
   | exact r29_Much.mono _ _
   | exact r29_Share.mono _ _ _ _ _ _ _ _ _ _ _
   | exact LeO.none _
   | refine LeO.ite ?_ ?_
   | refine LeO.bind ?_ (fun _ => ?_)
theorem w29_CostShares.calls (k : Nat) (a0_0 : Int) (a0_1 : ByteArray) (a0_2 : ByteArray) (a0_3 : Int) (a0_4 : Int) (a0_5 : Int) (a0_6 : Int) (a0_7 : ByteArray) (A0_8 : Option Addr) (c0_8 : Nat) (l0_8 : List (S27)) (A1 : Option Addr) (c1 : Nat) (l1 : List (S103)) (r : Bool) (w : World) (hr0_8 : Kd.C k27 w A0_8 l0_8.length l0_8) (hc0_8 : l0_8.length ≤ c0_8) (hr1 : Kd.C k103 w A1 l1.length l1) (hc1 : l1.length ≤ c1) (h : w29_CostShares.f k a0_0 a0_1 a0_2 a0_3 a0_4 a0_5 a0_6 a0_7 l0_8 l1 = some r) :
  Calls Try.prog 6 #[.agg #[.int .i64 a0_0, .string a0_1, .string a0_2, .int .i64 a0_3, .int .i64 a0_4, .int .i64 a0_5, .int .i64 a0_6, .string a0_7, .slice A0_8 l0_8.length c0_8], .slice A1 l1.length c1] w fun e w' => e = .returned (.bool r) ∧ Below w.heap.size w w' := by
 have hu27 := Try.underlying27; have HR0_8 := am_ hr0_8; have HC0_8 := am_ hc0_8; clear hr0_8 hc0_8; have HR1 := am_ hr1; have HC1 := am_ hc1; clear hr1 hc1; have HB := am_ (Below.refl w.heap.size w); have H : ((r08_Much.f k a0_0 a0_1 a0_2 a0_3 a0_4 a0_5 a0_6 a0_7 l0_8).bind fun t420 => (if t420 = true then (w29_CostShares.j0 k l1 true a0_0 a0_1 a0_2 a0_3 a0_4 a0_5 a0_6 a0_7 l0_8) else ((r29_Much.f k l1).bind fun t421 => (w29_CostShares.j0 k l1 t421 a0_0 a0_1 a0_2 a0_3 a0_4 a0_5 a0_6 a0_7 l0_8)))) = some r := h; clear h; have HC3 := am_ H; clear H
 go_enter Try.func6, Try.ntmps6
 go_upto_region 1 with (first | ((with_reducible refine gate_dst (N := 2) rfl ?_); refine box_event ?hg (N := 2) ?hd (cs := #[.int .i64 a0_0, .string a0_1, .string a0_2, .int .i64 a0_3, .int .i64 a0_4, .int .i64 a0_5, .int .i64 a0_6, .string a0_7, .slice A0_8 l0_8.length c0_8]) (t := 27) ?hr ?_; (case hd => rfl); (case hg => rfl); (case hr => first | (go_simp; done) | (go_simp; rfl)); intro gb419 hg w4 hbox hb; have BK419 := am_ (hbox); have GW419 := am_ ((by rw [hg]; exact (below_size (bl_)) : w.heap.size ≤ gb419)); have GE419 := am_ ((by rw [hg]; exact (below_size (bl_)) : w.heap.size ≤ gb419)); replace HB := am_ (below_step (bl_) hb); clear hb hbox hg))
 (try simp only [Act.put, sa_, sz_, ss_])
 go_cut [11] (fun v11 wc => ∃ (kq : Nat) (x11_2 : Bool), v11 = .bool x11_2 ∧ Aside0 (w29_CostShares.j0 kq l1 x11_2 a0_0 a0_1 a0_2 a0_3 a0_4 a0_5 a0_6 a0_7 l0_8 = some r) ∧ Aside0 (kq ≤ k) ∧ Aside0 (wc.heap[gb419]? = some (.cells #[.int .i64 a0_0, .string a0_1, .string a0_2, .int .i64 a0_3, .int .i64 a0_4, .int .i64 a0_5, .int .i64 a0_6, .string a0_7, (.slice A0_8 l0_8.length c0_8)] 27 (0, 0))) ∧ Aside0 (Below w.heap.size w wc))
 case first =>
  have H := HC3.out; clear HC3; replace H := Option.bind_eq_some_iff.mp H; obtain ⟨t420, A50, H⟩ := H; replace H : (if t420 = true then (w29_CostShares.j0 k l1 true a0_0 a0_1 a0_2 a0_3 a0_4 a0_5 a0_6 a0_7 l0_8) else ((r29_Much.f k l1).bind fun t421 => (w29_CostShares.j0 k l1 t421 a0_0 a0_1 a0_2 a0_3 a0_4 a0_5 a0_6 a0_7 l0_8))) = some r := H; have A5 := am_ A50; clear A50
  by_cases c6 : t420 = true
  ·subst c6
   have H1 : (w29_CostShares.j0 k l1 true a0_0 a0_1 a0_2 a0_3 a0_4 a0_5 a0_6 a0_7 l0_8) = some r := by rw [if_pos rfl] at H; exact H
   clear H; have H := H1; clear H1; have H' := am_ H; clear H; obtain ⟨hcz7_0, hcz7_1, hcz7_2, hcz7_3, hcz7_4, hcz7_5, hcz7_6, hcz7_7, hcz7_8, hfz7_0, hfz7_1, hfz7_2, hfz7_3, hfz7_4, hfz7_5, hfz7_6, hfz7_7, hfz7_8⟩ := bw9_ BK419.out
   go_wp2_with (first | ((with_reducible refine gate_callee (f := 22) rfl ?_); refine goesL_ (some 7) rfl rfl Try.func22 (by kernel_rfl) rfl #[.agg #[.int .i64 a0_0, .string a0_1, .string a0_2, .int .i64 a0_3, .int .i64 a0_4, .int .i64 a0_5, .int .i64 a0_6, .string a0_7, .slice A0_8 l0_8.length c0_8]] rfl (by (try simp only [List.map_toArray, List.map_cons, List.map_nil]); first | done | rfl | (simp only [List.length_drop, List.length_take]; rfl)) ?_; (with_reducible refine (r08_Much.calls k a0_0 a0_1 a0_2 a0_3 a0_4 a0_5 a0_6 a0_7 _ _ l0_8 true _ ?side1 ?side2 A5.out).mono ?_); (case side1 => repeat (first | exact (Kd.C_below HR0_8.out HB.out) | (with_reducible refine Kd.C_alloc ?_ _) | (with_reducible refine Kd.C_drewN ?_ _) | (with_reducible refine Kd.C_drew ?_))); (case side2 => exact HC0_8.out); rintro e w8 ⟨rfl, hb⟩; refine ⟨_, rfl, ?_⟩; replace BK419 := am_ (blk_below (bk_ BK419.out) hb); replace HB := am_ (below_step (bl_) hb); (try clear hb); (try clear hb2); (try clear hk); (try clear hi)))
   go_meet
   case rel => exact ⟨_, (true), (rs_), H', ⟨by first | omega | exact Nat.le_refl _⟩, ⟨bk_ BK419.out⟩, ⟨bl_⟩⟩
  ·replace c6 := Bool.eq_false_iff.mpr c6
   subst c6
   have H1 : ((r29_Much.f k l1).bind fun t421 => (w29_CostShares.j0 k l1 t421 a0_0 a0_1 a0_2 a0_3 a0_4 a0_5 a0_6 a0_7 l0_8)) = some r := by rw [if_neg (show ¬ (false = true) by decide)] at H; exact H
   clear H; have H := H1; clear H1; replace H := Option.bind_eq_some_iff.mp H; obtain ⟨t421, A90, H⟩ := H; replace H : (w29_CostShares.j0 k l1 t421 a0_0 a0_1 a0_2 a0_3 a0_4 a0_5 a0_6 a0_7 l0_8) = some r := H; have A9 := am_ A90; clear A90; have H' := am_ H; clear H; obtain ⟨hcz10_0, hcz10_1, hcz10_2, hcz10_3, hcz10_4, hcz10_5, hcz10_6, hcz10_7, hcz10_8, hfz10_0, hfz10_1, hfz10_2, hfz10_3, hfz10_4, hfz10_5, hfz10_6, hfz10_7, hfz10_8⟩ := bw9_ BK419.out
   go_wp2_with (first | ((with_reducible refine gate_callee (f := 22) rfl ?_); refine goesL_ (some 7) rfl rfl Try.func22 (by kernel_rfl) rfl #[.agg #[.int .i64 a0_0, .string a0_1, .string a0_2, .int .i64 a0_3, .int .i64 a0_4, .int .i64 a0_5, .int .i64 a0_6, .string a0_7, .slice A0_8 l0_8.length c0_8]] rfl (by (try simp only [List.map_toArray, List.map_cons, List.map_nil]); first | done | rfl | (simp only [List.length_drop, List.length_take]; rfl)) ?_; (with_reducible refine (r08_Much.calls k a0_0 a0_1 a0_2 a0_3 a0_4 a0_5 a0_6 a0_7 _ _ l0_8 false _ ?side1 ?side2 A5.out).mono ?_); (case side1 => repeat (first | exact (Kd.C_below HR0_8.out HB.out) | (with_reducible refine Kd.C_alloc ?_ _) | (with_reducible refine Kd.C_drewN ?_ _) | (with_reducible refine Kd.C_drew ?_))); (case side2 => exact HC0_8.out); rintro e w11 ⟨rfl, hb⟩; refine ⟨_, rfl, ?_⟩; replace BK419 := am_ (blk_below (bk_ BK419.out) hb); replace HB := am_ (below_step (bl_) hb); (try clear hb); (try clear hb2); (try clear hk); (try clear hi)) | (go_at_call 23; (with_reducible refine (r29_Much.calls k _ _ l1 t421 _ ?side1 ?side2 A9.out).mono ?_); (case side1 => repeat (first | exact (Kd.C_below HR1.out HB.out) | (with_reducible refine Kd.C_alloc ?_ _) | (with_reducible refine Kd.C_drewN ?_ _) | (with_reducible refine Kd.C_drew ?_))); (case side2 => exact HC1.out); rintro e w12 ⟨rfl, hb⟩; replace BK419 := am_ (blk_below (bk_ BK419.out) hb); replace HB := am_ (below_step (bl_) hb); (try clear hb); (try clear hb2); (try clear hk); (try clear hi)))
   go_meet
   case rel => exact ⟨_, (t421), (rs_), H', ⟨by first | omega | exact Nat.le_refl _⟩, ⟨bk_ BK419.out⟩, ⟨bl_⟩⟩
 case rest =>
  clear HC3; (try clear c1); (try clear c2); (try clear p2); (try clear c6); (try clear hcz10_0); (try clear hcz10_1); (try clear hcz10_2); (try clear hcz10_3); (try clear hcz10_4); (try clear hcz10_5); (try clear hcz10_6); (try clear hcz10_7); (try clear hcz10_8); (try clear hcz7_0); (try clear hcz7_1); (try clear hcz7_2); (try clear hcz7_3); (try clear hcz7_4); (try clear hcz7_5); (try clear hcz7_6); (try clear hcz7_7); (try clear hcz7_8); (try clear hfz10_0); (try clear hfz10_1); (try clear hfz10_2); (try clear hfz10_3); (try clear hfz10_4); (try clear hfz10_5); (try clear hfz10_6); (try clear hfz10_7); (try clear hfz10_8); (try clear hfz7_0); (try clear hfz7_1); (try clear hfz7_2); (try clear hfz7_3); (try clear hfz7_4); (try clear hfz7_5); (try clear hfz7_6); (try clear hfz7_7); (try clear hfz7_8); obtain ⟨kq, x11_2, rfl, HA, HJ2, BK419, HB⟩ := hcut
  cases kq with
  | zero => exact absurd HA.out (by simp [w29_CostShares.j0])
  | succ kj2 =>
   have H := HA.out; clear HA; simp only [w29_CostShares.j0] at H
   by_cases c13 : x11_2 = true
   ·subst c13
    have H1 : ((w29_live.f kj2).bind fun t422 => (some t422)) = some r := by rw [if_pos rfl] at H; exact H
    clear H; have H := H1; clear H1; replace H := Option.bind_eq_some_iff.mp H; obtain ⟨t422, A140, H⟩ := H; replace H : (some t422) = some r := H; have A14 := am_ A140; clear A140; obtain rfl := Option.some.inj H
    go_wp2_with (first | ((with_reducible refine gate_callee (f := 24) rfl ?_); refine goesL_ (some 12) rfl rfl Try.func24 (by kernel_rfl) rfl #[] rfl (by (try simp only [List.map_toArray, List.map_cons, List.map_nil]); first | done | rfl | (simp only [List.length_drop, List.length_take]; rfl)) ?_; (with_reducible refine (w29_live.calls kj2  t422 _ A14.out).mono ?_); rintro e w15 ⟨rfl, hb⟩; refine ⟨_, rfl, ?_⟩; replace BK419 := am_ (blk_below (bk_ BK419.out) hb); replace HB := am_ (below_step (bl_) hb); (try clear hb); (try clear hb2); (try clear hk); (try clear hi)))
    go_ret
    exact ⟨ew_, bl_⟩
   ·replace c13 := Bool.eq_false_iff.mpr c13
    subst c13
    have H1 : ((cost_Share.f kj2 a0_0 a0_1 a0_2 a0_3 a0_4 a0_5 a0_6 a0_7 l0_8 l1).bind fun t423 => ((r29_Share.f kj2 a0_0 a0_1 a0_2 a0_3 a0_4 a0_5 a0_6 a0_7 l0_8 l1).bind fun t424 => ((r28_Same.f t423 t424).bind fun t425 => (if t425 = true then ((r28_Share.f t423).bind fun t426 => (if t426 = true then ((w29_live.f kj2).bind fun t427 => (some t427)) else (some false))) else (some false))))) = some r := by rw [if_neg (show ¬ (false = true) by decide)] at H; exact H
    clear H; have H := H1; clear H1; replace H := Option.bind_eq_some_iff.mp H; obtain ⟨t423, A160, H⟩ := H; replace H : ((r29_Share.f kj2 a0_0 a0_1 a0_2 a0_3 a0_4 a0_5 a0_6 a0_7 l0_8 l1).bind fun t424 => ((r28_Same.f t423 t424).bind fun t425 => (if t425 = true then ((r28_Share.f t423).bind fun t426 => (if t426 = true then ((w29_live.f kj2).bind fun t427 => (some t427)) else (some false))) else (some false)))) = some r := H; have A16 := am_ A160; clear A160; replace H := Option.bind_eq_some_iff.mp H; obtain ⟨t424, A170, H⟩ := H; replace H : ((r28_Same.f t423 t424).bind fun t425 => (if t425 = true then ((r28_Share.f t423).bind fun t426 => (if t426 = true then ((w29_live.f kj2).bind fun t427 => (some t427)) else (some false))) else (some false))) = some r := H; have A17 := am_ A170; clear A170; replace H := Option.bind_eq_some_iff.mp H; obtain ⟨t425, A180, H⟩ := H; replace H : (if t425 = true then ((r28_Share.f t423).bind fun t426 => (if t426 = true then ((w29_live.f kj2).bind fun t427 => (some t427)) else (some false))) else (some false)) = some r := H; have A18 := am_ A180; clear A180
    by_cases c19 : t425 = true
    ·subst c19
     have H1 : ((r28_Share.f t423).bind fun t426 => (if t426 = true then ((w29_live.f kj2).bind fun t427 => (some t427)) else (some false))) = some r := by rw [if_pos rfl] at H; exact H
     clear H; have H := H1; clear H1; replace H := Option.bind_eq_some_iff.mp H; obtain ⟨t426, A200, H⟩ := H; replace H : (if t426 = true then ((w29_live.f kj2).bind fun t427 => (some t427)) else (some false)) = some r := H; have A20 := am_ A200; clear A200
     by_cases c21 : t426 = true
     ·subst c21
      have H1 : ((w29_live.f kj2).bind fun t427 => (some t427)) = some r := by rw [if_pos rfl] at H; exact H
      clear H; have H := H1; clear H1; replace H := Option.bind_eq_some_iff.mp H; obtain ⟨t427, A220, H⟩ := H; replace H : (some t427) = some r := H; have A22 := am_ A220; clear A220; obtain rfl := Option.some.inj H; obtain ⟨hcz23_0, hcz23_1, hcz23_2, hcz23_3, hcz23_4, hcz23_5, hcz23_6, hcz23_7, hcz23_8, hfz23_0, hfz23_1, hfz23_2, hfz23_3, hfz23_4, hfz23_5, hfz23_6, hfz23_7, hfz23_8⟩ := bw9_ BK419.out
      go_wp2_with (first | ((with_reducible refine gate_callee (f := 25) rfl ?_); refine goesL_ (some 15) rfl rfl Try.func25 (by kernel_rfl) rfl #[.agg #[.int .i64 a0_0, .string a0_1, .string a0_2, .int .i64 a0_3, .int .i64 a0_4, .int .i64 a0_5, .int .i64 a0_6, .string a0_7, .slice A0_8 l0_8.length c0_8], .slice A1 l1.length c1] rfl (by (try simp only [List.map_toArray, List.map_cons, List.map_nil]); first | done | rfl | (simp only [List.length_drop, List.length_take]; rfl)) ?_; (with_reducible refine (cost_Share.calls kj2 a0_0 a0_1 a0_2 a0_3 a0_4 a0_5 a0_6 a0_7 _ _ l0_8 _ _ l1 t423 _ ?side1 ?side2 ?side3 ?side4 A16.out).mono ?_); (case side1 => repeat (first | exact (Kd.C_below HR0_8.out HB.out) | (with_reducible refine Kd.C_alloc ?_ _) | (with_reducible refine Kd.C_drewN ?_ _) | (with_reducible refine Kd.C_drew ?_))); (case side2 => exact HC0_8.out); (case side3 => repeat (first | exact (Kd.C_below HR1.out HB.out) | (with_reducible refine Kd.C_alloc ?_ _) | (with_reducible refine Kd.C_drewN ?_ _) | (with_reducible refine Kd.C_drew ?_))); (case side4 => exact HC1.out); rintro e w24 ⟨rfl, hb⟩; refine ⟨_, rfl, ?_⟩; replace BK419 := am_ (blk_below (bk_ BK419.out) hb); replace HB := am_ (below_step (bl_) hb); (try clear hb); (try clear hb2); (try clear hk); (try clear hi); obtain ⟨hcz25_0, hcz25_1, hcz25_2, hcz25_3, hcz25_4, hcz25_5, hcz25_6, hcz25_7, hcz25_8, hfz25_0, hfz25_1, hfz25_2, hfz25_3, hfz25_4, hfz25_5, hfz25_6, hfz25_7, hfz25_8⟩ := bw9_ BK419.out) | ((with_reducible refine gate_callee (f := 27) rfl ?_); refine goesL_ (some 19) rfl rfl Try.func27 (by kernel_rfl) rfl #[.agg #[.int .i64 a0_0, .string a0_1, .string a0_2, .int .i64 a0_3, .int .i64 a0_4, .int .i64 a0_5, .int .i64 a0_6, .string a0_7, .slice A0_8 l0_8.length c0_8], .slice A1 l1.length c1] rfl (by (try simp only [List.map_toArray, List.map_cons, List.map_nil]); first | done | rfl | (simp only [List.length_drop, List.length_take]; rfl)) ?_; (with_reducible refine (r29_Share.calls kj2 a0_0 a0_1 a0_2 a0_3 a0_4 a0_5 a0_6 a0_7 _ _ l0_8 _ _ l1 t424 _ ?side1 ?side2 ?side3 ?side4 A17.out).mono ?_); (case side1 => repeat (first | exact (Kd.C_below HR0_8.out HB.out) | (with_reducible refine Kd.C_alloc ?_ _) | (with_reducible refine Kd.C_drewN ?_ _) | (with_reducible refine Kd.C_drew ?_))); (case side2 => exact HC0_8.out); (case side3 => repeat (first | exact (Kd.C_below HR1.out HB.out) | (with_reducible refine Kd.C_alloc ?_ _) | (with_reducible refine Kd.C_drewN ?_ _) | (with_reducible refine Kd.C_drew ?_))); (case side4 => exact HC1.out); rintro e w26 ⟨rfl, hb⟩; refine ⟨_, rfl, ?_⟩; replace BK419 := am_ (blk_below (bk_ BK419.out) hb); replace HB := am_ (below_step (bl_) hb); (try clear hb); (try clear hb2); (try clear hk); (try clear hi)) | ((with_reducible refine gate_callee (f := 26) rfl ?_); refine goesL_ (some 20) rfl rfl Try.func26 (by kernel_rfl) rfl #[.float .f64 t423, .float .f64 t424] rfl (by (try simp only [List.map_toArray, List.map_cons, List.map_nil]); first | done | rfl | (simp only [List.length_drop, List.length_take]; rfl)) ?_; (with_reducible refine (r28_Same.calls t423 t424 true _ A18.out).mono ?_); rintro e w' ⟨rfl, ⟨nd, rfl⟩⟩; refine ⟨_, rfl, ?_⟩) | (go_at_call 28; (with_reducible refine (r28_Share.calls t423 true _ A20.out).mono ?_); rintro e w' ⟨rfl, ⟨nd, rfl⟩⟩) | (go_at_call 24; (with_reducible refine (w29_live.calls kj2  t427 _ A22.out).mono ?_); rintro e w27 ⟨rfl, hb⟩; replace BK419 := am_ (blk_below (bk_ BK419.out) hb); replace HB := am_ (below_step (bl_) hb); (try clear hb); (try clear hb2); (try clear hk); (try clear hi)))
      go_ret
      exact ⟨ew_, bl_⟩
     ·replace c21 := Bool.eq_false_iff.mpr c21
      subst c21
      have H1 : (some false) = some r := by rw [if_neg (show ¬ (false = true) by decide)] at H; exact H
      clear H; have H := H1; clear H1; obtain rfl := Option.some.inj H; obtain ⟨hcz28_0, hcz28_1, hcz28_2, hcz28_3, hcz28_4, hcz28_5, hcz28_6, hcz28_7, hcz28_8, hfz28_0, hfz28_1, hfz28_2, hfz28_3, hfz28_4, hfz28_5, hfz28_6, hfz28_7, hfz28_8⟩ := bw9_ BK419.out
      go_wp2_with (first | ((with_reducible refine gate_callee (f := 25) rfl ?_); refine goesL_ (some 15) rfl rfl Try.func25 (by kernel_rfl) rfl #[.agg #[.int .i64 a0_0, .string a0_1, .string a0_2, .int .i64 a0_3, .int .i64 a0_4, .int .i64 a0_5, .int .i64 a0_6, .string a0_7, .slice A0_8 l0_8.length c0_8], .slice A1 l1.length c1] rfl (by (try simp only [List.map_toArray, List.map_cons, List.map_nil]); first | done | rfl | (simp only [List.length_drop, List.length_take]; rfl)) ?_; (with_reducible refine (cost_Share.calls kj2 a0_0 a0_1 a0_2 a0_3 a0_4 a0_5 a0_6 a0_7 _ _ l0_8 _ _ l1 t423 _ ?side1 ?side2 ?side3 ?side4 A16.out).mono ?_); (case side1 => repeat (first | exact (Kd.C_below HR0_8.out HB.out) | (with_reducible refine Kd.C_alloc ?_ _) | (with_reducible refine Kd.C_drewN ?_ _) | (with_reducible refine Kd.C_drew ?_))); (case side2 => exact HC0_8.out); (case side3 => repeat (first | exact (Kd.C_below HR1.out HB.out) | (with_reducible refine Kd.C_alloc ?_ _) | (with_reducible refine Kd.C_drewN ?_ _) | (with_reducible refine Kd.C_drew ?_))); (case side4 => exact HC1.out); rintro e w29 ⟨rfl, hb⟩; refine ⟨_, rfl, ?_⟩; replace BK419 := am_ (blk_below (bk_ BK419.out) hb); replace HB := am_ (below_step (bl_) hb); (try clear hb); (try clear hb2); (try clear hk); (try clear hi); obtain ⟨hcz30_0, hcz30_1, hcz30_2, hcz30_3, hcz30_4, hcz30_5, hcz30_6, hcz30_7, hcz30_8, hfz30_0, hfz30_1, hfz30_2, hfz30_3, hfz30_4, hfz30_5, hfz30_6, hfz30_7, hfz30_8⟩ := bw9_ BK419.out) | ((with_reducible refine gate_callee (f := 27) rfl ?_); refine goesL_ (some 19) rfl rfl Try.func27 (by kernel_rfl) rfl #[.agg #[.int .i64 a0_0, .string a0_1, .string a0_2, .int .i64 a0_3, .int .i64 a0_4, .int .i64 a0_5, .int .i64 a0_6, .string a0_7, .slice A0_8 l0_8.length c0_8], .slice A1 l1.length c1] rfl (by (try simp only [List.map_toArray, List.map_cons, List.map_nil]); first | done | rfl | (simp only [List.length_drop, List.length_take]; rfl)) ?_; (with_reducible refine (r29_Share.calls kj2 a0_0 a0_1 a0_2 a0_3 a0_4 a0_5 a0_6 a0_7 _ _ l0_8 _ _ l1 t424 _ ?side1 ?side2 ?side3 ?side4 A17.out).mono ?_); (case side1 => repeat (first | exact (Kd.C_below HR0_8.out HB.out) | (with_reducible refine Kd.C_alloc ?_ _) | (with_reducible refine Kd.C_drewN ?_ _) | (with_reducible refine Kd.C_drew ?_))); (case side2 => exact HC0_8.out); (case side3 => repeat (first | exact (Kd.C_below HR1.out HB.out) | (with_reducible refine Kd.C_alloc ?_ _) | (with_reducible refine Kd.C_drewN ?_ _) | (with_reducible refine Kd.C_drew ?_))); (case side4 => exact HC1.out); rintro e w31 ⟨rfl, hb⟩; refine ⟨_, rfl, ?_⟩; replace BK419 := am_ (blk_below (bk_ BK419.out) hb); replace HB := am_ (below_step (bl_) hb); (try clear hb); (try clear hb2); (try clear hk); (try clear hi)) | ((with_reducible refine gate_callee (f := 26) rfl ?_); refine goesL_ (some 20) rfl rfl Try.func26 (by kernel_rfl) rfl #[.float .f64 t423, .float .f64 t424] rfl (by (try simp only [List.map_toArray, List.map_cons, List.map_nil]); first | done | rfl | (simp only [List.length_drop, List.length_take]; rfl)) ?_; (with_reducible refine (r28_Same.calls t423 t424 true _ A18.out).mono ?_); rintro e w' ⟨rfl, ⟨nd, rfl⟩⟩; refine ⟨_, rfl, ?_⟩) | (go_at_call 28; (with_reducible refine (r28_Share.calls t423 false _ A20.out).mono ?_); rintro e w' ⟨rfl, ⟨nd, rfl⟩⟩))
      go_ret
      exact ⟨ew_, bl_⟩
    ·replace c19 := Bool.eq_false_iff.mpr c19
     subst c19
     have H1 : (some false) = some r := by rw [if_neg (show ¬ (false = true) by decide)] at H; exact H
     clear H; have H := H1; clear H1; obtain rfl := Option.some.inj H; obtain ⟨hcz32_0, hcz32_1, hcz32_2, hcz32_3, hcz32_4, hcz32_5, hcz32_6, hcz32_7, hcz32_8, hfz32_0, hfz32_1, hfz32_2, hfz32_3, hfz32_4, hfz32_5, hfz32_6, hfz32_7, hfz32_8⟩ := bw9_ BK419.out
     go_wp2_with (first | ((with_reducible refine gate_callee (f := 25) rfl ?_); refine goesL_ (some 15) rfl rfl Try.func25 (by kernel_rfl) rfl #[.agg #[.int .i64 a0_0, .string a0_1, .string a0_2, .int .i64 a0_3, .int .i64 a0_4, .int .i64 a0_5, .int .i64 a0_6, .string a0_7, .slice A0_8 l0_8.length c0_8], .slice A1 l1.length c1] rfl (by (try simp only [List.map_toArray, List.map_cons, List.map_nil]); first | done | rfl | (simp only [List.length_drop, List.length_take]; rfl)) ?_; (with_reducible refine (cost_Share.calls kj2 a0_0 a0_1 a0_2 a0_3 a0_4 a0_5 a0_6 a0_7 _ _ l0_8 _ _ l1 t423 _ ?side1 ?side2 ?side3 ?side4 A16.out).mono ?_); (case side1 => repeat (first | exact (Kd.C_below HR0_8.out HB.out) | (with_reducible refine Kd.C_alloc ?_ _) | (with_reducible refine Kd.C_drewN ?_ _) | (with_reducible refine Kd.C_drew ?_))); (case side2 => exact HC0_8.out); (case side3 => repeat (first | exact (Kd.C_below HR1.out HB.out) | (with_reducible refine Kd.C_alloc ?_ _) | (with_reducible refine Kd.C_drewN ?_ _) | (with_reducible refine Kd.C_drew ?_))); (case side4 => exact HC1.out); rintro e w33 ⟨rfl, hb⟩; refine ⟨_, rfl, ?_⟩; replace BK419 := am_ (blk_below (bk_ BK419.out) hb); replace HB := am_ (below_step (bl_) hb); (try clear hb); (try clear hb2); (try clear hk); (try clear hi); obtain ⟨hcz34_0, hcz34_1, hcz34_2, hcz34_3, hcz34_4, hcz34_5, hcz34_6, hcz34_7, hcz34_8, hfz34_0, hfz34_1, hfz34_2, hfz34_3, hfz34_4, hfz34_5, hfz34_6, hfz34_7, hfz34_8⟩ := bw9_ BK419.out) | ((with_reducible refine gate_callee (f := 27) rfl ?_); refine goesL_ (some 19) rfl rfl Try.func27 (by kernel_rfl) rfl #[.agg #[.int .i64 a0_0, .string a0_1, .string a0_2, .int .i64 a0_3, .int .i64 a0_4, .int .i64 a0_5, .int .i64 a0_6, .string a0_7, .slice A0_8 l0_8.length c0_8], .slice A1 l1.length c1] rfl (by (try simp only [List.map_toArray, List.map_cons, List.map_nil]); first | done | rfl | (simp only [List.length_drop, List.length_take]; rfl)) ?_; (with_reducible refine (r29_Share.calls kj2 a0_0 a0_1 a0_2 a0_3 a0_4 a0_5 a0_6 a0_7 _ _ l0_8 _ _ l1 t424 _ ?side1 ?side2 ?side3 ?side4 A17.out).mono ?_); (case side1 => repeat (first | exact (Kd.C_below HR0_8.out HB.out) | (with_reducible refine Kd.C_alloc ?_ _) | (with_reducible refine Kd.C_drewN ?_ _) | (with_reducible refine Kd.C_drew ?_))); (case side2 => exact HC0_8.out); (case side3 => repeat (first | exact (Kd.C_below HR1.out HB.out) | (with_reducible refine Kd.C_alloc ?_ _) | (with_reducible refine Kd.C_drewN ?_ _) | (with_reducible refine Kd.C_drew ?_))); (case side4 => exact HC1.out); rintro e w35 ⟨rfl, hb⟩; refine ⟨_, rfl, ?_⟩; replace BK419 := am_ (blk_below (bk_ BK419.out) hb); replace HB := am_ (below_step (bl_) hb); (try clear hb); (try clear hb2); (try clear hk); (try clear hi)) | ((with_reducible refine gate_callee (f := 26) rfl ?_); refine goesL_ (some 20) rfl rfl Try.func26 (by kernel_rfl) rfl #[.float .f64 t423, .float .f64 t424] rfl (by (try simp only [List.map_toArray, List.map_cons, List.map_nil]); first | done | rfl | (simp only [List.length_drop, List.length_take]; rfl)) ?_; (with_reducible refine (r28_Same.calls t423 t424 false _ A18.out).mono ?_); rintro e w' ⟨rfl, ⟨nd, rfl⟩⟩; refine ⟨_, rfl, ?_⟩))
     go_ret
     exact ⟨ew_, bl_⟩
end Go.Proofs.Ytcfgjaggccnoaaa.PCostShares
namespace Go.Proofs.Ytcfgjaggccnoaaa.Open
open Go.RowKit Go.Proofs.YtcfgjaggccnoaaaW.PrintWords
structure Opens {α : Type} (P : Program) (t : TypeId) (K : Kd α) (wf : α → Prop) (n : Nat) : Prop where
  opened : ∀ {H : Type} {enc : TypeId × Value → H} {w : World} {cs : List Value} {x : DataW H × List MemPlace},
    DataW.trod enc P w 0 (fun _ => true) true n t cs = some x → (x.1.weights P t).all (· ≤ reachBytes) = true → ∃ y, K.K w y cs ∧ wf y
structure OpensF {α : Type} (P : Program) (fs : List Field) (off : Nat) (K : Kd α) (wf : α → Prop) (n : Nat) : Prop where
  opened : ∀ {H : Type} {enc : TypeId × Value → H} {w : World} {cs : List Value} {xs : List (DataW H × List MemPlace)},
    off + K.sz ≤ cs.length → xs.length = fs.length →
    (∀ (i : Nat) (f : Field), fs[i]? = some f → DataW.trod enc P w 0 (fun _ => true) true n f.type ((cs.drop f.offset).take (P.cellsOf f.type)) = xs[i]?) →
    (DataW.weightsEach P (fs.map (·.type)) (xs.map (·.1))).all (· ≤ reachBytes) = true → ∃ y, K.K w y ((cs.drop off).take K.sz) ∧ wf y
theorem opens_int {P : Program} {t : TypeId} {k : IntKind} (ht : P.underlying t = some (.int k)) (n : Nat) : Opens P t (Kd.int k) (fun x => (Lit.int k x).wf = true) n := by
  refine ⟨?_⟩
  intro H enc w cs x h _
  obtain ⟨m, rfl, _, hw⟩ := DataW.trod_int ht h
  exact ⟨m, rfl, hw⟩
theorem opens_string {P : Program} {t : TypeId} (ht : P.underlying t = some .string) (n : Nat) : Opens P t Kd.string (fun s => s.size ≤ 140737488351232) n := by
  refine ⟨?_⟩
  intro H enc w cs x h hs
  obtain ⟨s, rfl, rfl, _⟩ := DataW.trod_string ht h
  refine ⟨s, rfl, ?_⟩
  have := List.all_eq_true.1 hs s.data.toList.length (by simp [DataW.weights])
  have h2 : s.data.toList.length ≤ reachBytes := by simpa using this
  rw [Array.length_toList] at h2
  exact h2
theorem weights_all {H : Type} {P : Program} {e : TypeId} : ∀ {l : List (DataW H)}, (DataW.weightsAll P e l).all (· ≤ reachBytes) = true → ∀ d ∈ l, (d.weights P e).all (· ≤ reachBytes) = true
  | [], _, d, hd => by cases hd
  | a :: r, h, d, hd => by
    simp only [DataW.weightsAll, List.all_append, Bool.and_eq_true] at h
    rcases List.mem_cons.1 hd with rfl | hd
    · exact h.1
    · exact weights_all h.2 d hd
theorem list_of {α β : Type} (R : α → β → Prop) : ∀ (xs : List α), (∀ x ∈ xs, ∃ y, R x y) → ∃ ys : List β, ys.length = xs.length ∧ ∀ (i : Nat) (x : α), xs[i]? = some x → ∃ y, ys[i]? = some y ∧ R x y
  | [], _ => ⟨[], rfl, by simp⟩
  | a :: r, h => by
    obtain ⟨y, hy⟩ := h a (by simp)
    obtain ⟨ys, hl, hr⟩ := list_of R r (fun x hx => h x (by simp [hx]))
    refine ⟨y :: ys, by simp [hl], ?_⟩
    intro i x hx
    cases i with
    | zero => simp at hx; subst hx; exact ⟨y, by simp, hy⟩
    | succ i => simp at hx; simpa using hr i x hx
theorem opens_slice {α : Type} {P : Program} {t e : TypeId} {K : Kd α} {wf : α → Prop} {B : Nat} (ht : P.underlying t = some (.slice e)) (hc : P.cellsOf e = K.sz) (hB : P.bytesOf e = B) (n : Nat) (he : Opens P e K wf n) :
    Opens P t (Kd.slice e K) (fun l => l.length * B ≤ 140737488351232 ∧ ∀ x ∈ l, wf x) (n + 1) := by
  refine ⟨?_⟩
  intro H enc w cs x h hs
  rcases DataW.trod_slice ht h with ⟨rfl, _⟩ | ⟨a, len, cap, elems, rest, m, hm, rfl, rfl, hb, hl, hcap, hlen, hel, _, _⟩
  · exact ⟨[], ⟨none, 0, rfl, by simp, rfl, by simp, by simp⟩, by simp, by simp⟩
  · obtain rfl : n = m := by omega
    simp only [DataW.weights, ht] at hs
    have hs2 : (elems.length + rest.length) * B ≤ 140737488351232 ∧ (DataW.weightsAll P e (elems.map (·.1))).all (· ≤ reachBytes) = true := by
      rw [List.all_cons, List.all_append] at hs
      simp only [Bool.and_eq_true, decide_eq_true_eq, List.length_map] at hs
      rw [hB] at hs
      exact ⟨hs.1, hs.2.1⟩
    have each : ∀ (i : Nat) (y : DataW H × List MemPlace), elems[i]? = some y → ∃ cs, (w.cells? 0 (a.add (i * K.sz)) K.sz) = some cs ∧ ∃ z, K.K w z cs ∧ wf z := by
      intro i y hy
      have hi : i < len := by
        have := (List.getElem?_eq_some_iff.1 hy).1
        omega
      have h1 := hel i hi
      rw [hy, hc, Option.bind_eq_some_iff] at h1
      obtain ⟨c, hcs, h2⟩ := h1
      have hw := weights_all hs2.2 y.1 (List.mem_map_of_mem (List.mem_of_getElem? hy))
      exact ⟨c, hcs, he.opened h2 hw⟩
    obtain ⟨ys, hyl, hys⟩ := list_of (fun (i : Nat) (z : α) => ∃ cs, (w.cells? 0 (a.add (i * K.sz)) K.sz) = some cs ∧ K.K w z cs ∧ wf z) (List.range len) (by
      intro i hi
      have hi2 : i < elems.length := by rw [hlen]; exact List.mem_range.1 hi
      obtain ⟨c, h1, z, h2, h3⟩ := each i elems[i] (List.getElem?_eq_getElem hi2)
      exact ⟨z, c, h1, h2, h3⟩)
    rw [List.length_range] at hyl
    have got : ∀ (j : Nat) (p : α), ys[j]? = some p → ∃ cs, (w.cells? 0 (a.add (j * K.sz)) K.sz) = some cs ∧ K.K w p cs ∧ wf p := by
      intro j p hp
      have hj : j < len := by
        have := (List.getElem?_eq_some_iff.1 hp).1
        omega
      obtain ⟨q, hq, hR⟩ := hys j j (by rw [List.getElem?_range hj])
      rw [hp] at hq
      obtain rfl := Option.some.inj hq
      exact hR
    refine ⟨ys, ⟨some a, cap, by rw [hyl], by omega, hyl ▸ rfl, ?_, ?_⟩, ?_, ?_⟩
    · unfold maxLen at hcap
      omega
    · intro _
      refine ⟨a, rfl, ?_⟩
      intro j p hp
      obtain ⟨c, h1, h2, _⟩ := got j p hp
      obtain ⟨_, hl2, hcell⟩ := _root_.Go.World.cells?_some h1
      refine ⟨c, hl2, h2, ?_⟩
      intro i u hu
      have hi : i < K.sz := by
        have := (List.getElem?_eq_some_iff.1 hu).1
        omega
      have := hcell i hi
      rw [Addr.add_add] at this
      rw [this, hu]
    · have : len * B ≤ (elems.length + rest.length) * B := Nat.mul_le_mul_right _ (by omega)
      rw [hyl]
      omega
    · intro x hx
      obtain ⟨j, hj⟩ := List.getElem?_of_mem hx
      obtain ⟨_, _, _, h3⟩ := got j x hj
      exact h3
theorem opensF_one {α : Type} {P : Program} {f : Field} {off : Nat} {K : Kd α} {wf : α → Prop} (ho : f.offset = off) (hc : P.cellsOf f.type = K.sz) (n : Nat) (h : Opens P f.type K wf n) : OpensF P [f] off K wf n := by
  refine ⟨?_⟩
  intro H enc w cs xs _ hx ht hs
  match xs, hx with
  | [y], _ =>
    have := ht 0 f rfl
    rw [ho, hc] at this
    simp only [List.map_cons, List.map_nil, DataW.weightsEach, List.append_nil] at hs
    exact h.opened this hs
theorem opensF_cons {α β : Type} {P : Program} {f : Field} {fs : List Field} {off : Nat} {K : Kd α} {L : Kd β} {wf : α → Prop} {wg : β → Prop} (ho : f.offset = off) (hc : P.cellsOf f.type = K.sz) (n : Nat) (h : Opens P f.type K wf n)
    (r : OpensF P fs (off + K.sz) L wg n) : OpensF P (f :: fs) off (Kd.pair K L) (fun x => wf x.1 ∧ wg x.2) n := by
  refine ⟨?_⟩
  intro H enc w cs xs hl hx ht hs
  have hsz : (Kd.pair K L).sz = K.sz + L.sz := rfl
  rw [hsz] at hl
  match xs, hx with
  | y :: ys, hx =>
    have h0 := ht 0 f rfl
    rw [ho, hc] at h0
    simp only [List.map_cons, DataW.weightsEach, List.all_append, Bool.and_eq_true] at hs
    obtain ⟨a, ha, wa⟩ := h.opened h0 hs.1
    obtain ⟨b, hb, wb⟩ := r.opened (cs := cs) (xs := ys) (by omega) (by simpa using hx) (fun i g hg => by simpa using ht (i + 1) g (by simpa using hg)) hs.2
    refine ⟨(a, b), ⟨_, _, ?_, ha, hb⟩, wa, wb⟩
    rw [hsz, List.take_add, List.drop_drop]
theorem opens_struct {α β : Type} {P : Program} {t : TypeId} {fs : Array Field} {L : Kd β} {wf : β → Prop} (g : α → β) (gi : β → α) (hg : ∀ b, g (gi b) = b) (ht : P.underlying t = some (.struct fs)) (hc : P.cellsOf t = L.sz) (n : Nat)
    (h : OpensF P fs.toList 0 L wf n) : Opens P t (Kd.iso L g) (fun x => wf (g x)) (n + 1) := by
  refine ⟨?_⟩
  intro H enc w cs x hx hs
  obtain ⟨xs, m, hm, rfl, hl, hlen, hf⟩ := DataW.trod_struct ht hx
  obtain rfl : n = m := by omega
  simp only [DataW.weights, ht] at hs
  obtain ⟨b, hb, wb⟩ := h.opened (cs := cs) (xs := xs) (by rw [hl, hc]; omega) (by simpa using hlen) (fun i f hfi => hf i f (by simpa using hfi)) hs
  have e : (cs.drop 0).take L.sz = cs := by rw [List.drop_zero, List.take_of_length_le (by omega)]
  rw [e] at hb
  refine ⟨gi b, ?_, by show wf (g (gi b)); rw [hg]; exact wb⟩
  show L.K w (g (gi b)) cs
  rw [hg]
  exact hb
theorem Opens.imp {α : Type} {P : Program} {t : TypeId} {K L : Kd α} {wf wg : α → Prop} {n : Nat} (h : Opens P t K wf n) (hk : ∀ w x cs, K.K w x cs → L.K w x cs) (hi : ∀ x, wf x → wg x) : Opens P t L wg n := by
  refine ⟨?_⟩
  intro H enc w cs x hx hs
  obtain ⟨y, h1, h2⟩ := h.opened hx hs
  exact ⟨y, hk _ _ _ h1, hi _ h2⟩
theorem opens_zero {α : Type} (P : Program) (t : TypeId) (K : Kd α) (wf : α → Prop) : Opens P t K wf 0 := by
  refine ⟨?_⟩
  intro H enc w cs x h _
  simp [DataW.trod] at h
theorem opens_arg {α : Type} {P : Program} {t : TypeId} {K : Kd α} {wf : α → Prop} (h : ∀ n, Opens P t K wf n) {H : Type} {enc : TypeId × Value → H} {w : World} {v : Value} {d : DataW H} {ps : List MemPlace} {ts : List TypeId} {ds : List (DataW H)} {j : Nat}
    (hsz : (DataW.weightsEach P ts ds).all (· ≤ reachBytes) = true) (hj : ts[j]? = some t) (hd : ds[j]? = some d) (hr : DataW.Trod enc P w 0 (fun _ => true) true t v d ps) : ∃ y, K.K w y v.cells.toList ∧ wf y := by
  obtain ⟨n, hn⟩ := hr
  refine (h n).opened hn ?_
  rw [List.all_eq_true]
  intro m hm
  exact List.all_eq_true.1 hsz m (DataW.weights_mem_each hj hd m hm)
end Go.Proofs.Ytcfgjaggccnoaaa.Open
namespace Go.Proofs.Ytcfgjaggccnoaaa.PCostShares
open Go.RowKit Go.Proofs.YtcfgjaggccnoaaaW.PrintWords Go.Proofs.YtcfgjaggccnoaaaW.PrintLast
set_option linter.unusedVariables false
def Wf25 (x : S25) : Prop := (Lit.int .i64 x.f0).wf = true ∧ (Lit.int .i64 x.f1).wf = true ∧ x.f2.size ≤ 140737488351232
theorem opens25 : ∀ n, Open.Opens Try.prog 25 k25 Wf25 n
  | 0 => Open.opens_zero _ _ _ _
  | n + 1 => (Open.opens_struct (t := 25) (L := (Kd.pair (Kd.int .i64) (Kd.pair (Kd.int .i64) Kd.string))) (fun x : S25 => (x.f0, x.f1, x.f2)) (fun b => (⟨b.1, b.2.1, b.2.2⟩ : S25)) (fun _ => rfl) Try.underlying25 (by kernel_rfl) n (Open.opensF_cons rfl (by kernel_rfl) n ((Open.opens_int Try.underlying3) n) (Open.opensF_cons rfl (by kernel_rfl) n ((Open.opens_int Try.underlying3) n) (Open.opensF_one rfl (by kernel_rfl) n ((Open.opens_string Try.underlying9) n))))).imp (fun _ _ _ h => h) (fun _ h => h)
inductive Wf27 : S27 → Prop
  | mk (x : S27) (h0 : (Lit.int .i64 x.f0).wf = true) (h1 : x.f1.size ≤ 140737488351232) (h2 : x.f2.size ≤ 140737488351232) (h3 : (Lit.int .i64 x.f3).wf = true) (h4 : (Lit.int .i64 x.f4).wf = true) (h5 : Wf25 x.f5) (h6a : x.f6.length * 112 ≤ 140737488351232) (h6b : ∀ y ∈ x.f6, Wf27 y) : Wf27 x
theorem opens27 (n : Nat) : Open.Opens Try.prog 27 k27 Wf27 n := by
  induction n using Nat.strongRecOn with
  | _ n ih =>
    match n, ih with
    | 0, _ => exact Open.opens_zero _ _ _ _
    | n + 1, ih =>
      have h : Open.Opens Try.prog 27 (F27 k27) (fun x => (Lit.int .i64 x.f0).wf = true ∧ x.f1.size ≤ 140737488351232 ∧ x.f2.size ≤ 140737488351232 ∧ (Lit.int .i64 x.f3).wf = true ∧ (Lit.int .i64 x.f4).wf = true ∧ Wf25 x.f5 ∧ (x.f6.length * 112 ≤ 140737488351232 ∧ ∀ y ∈ x.f6, Wf27 y)) (n + 1) :=
        Open.opens_struct (t := 27) (L := (Kd.pair (Kd.int .i64) (Kd.pair Kd.string (Kd.pair Kd.string (Kd.pair (Kd.int .i64) (Kd.pair (Kd.int .i64) (Kd.pair k25 (Kd.slice 27 k27)))))))) (fun x : S27 => (x.f0, x.f1, x.f2, x.f3, x.f4, x.f5, x.f6)) (fun b => (⟨b.1, b.2.1, b.2.2.1, b.2.2.2.1, b.2.2.2.2.1, b.2.2.2.2.2.1, b.2.2.2.2.2.2⟩ : S27)) (fun _ => rfl) Try.underlying27 (by kernel_rfl) n (Open.opensF_cons rfl (by kernel_rfl) n ((Open.opens_int Try.underlying3) n) (Open.opensF_cons rfl (by kernel_rfl) n ((Open.opens_string Try.underlying9) n) (Open.opensF_cons rfl (by kernel_rfl) n ((Open.opens_string Try.underlying9) n) (Open.opensF_cons rfl (by kernel_rfl) n ((Open.opens_int Try.underlying3) n) (Open.opensF_cons rfl (by kernel_rfl) n ((Open.opens_int Try.underlying3) n) (Open.opensF_cons rfl (by kernel_rfl) n (opens25 n) (Open.opensF_one rfl (by kernel_rfl) n (match n, ih with | 0, _ => Open.opens_zero _ _ _ _ | p + 1, ih => Open.opens_slice Try.underlying22 (by kernel_rfl) (by kernel_rfl) p (ih p (by omega))))))))))
      refine h.imp (fun w x cs h => ?_) (fun x h => ?_)
      · obtain ⟨_, _, rfl, rfl, ⟨_, _, rfl, rfl, ⟨_, _, rfl, rfl, ⟨_, _, rfl, rfl, ⟨_, _, rfl, rfl, ⟨_, _, rfl, s5, ⟨A6, c6, rfl, l6, g6⟩⟩⟩⟩⟩⟩⟩ := h
        obtain rfl := k25_open s5
        exact k27_mk w x l6 g6
      · obtain ⟨h0, h1, h2, h3, h4, h5, h6⟩ := h
        exact ⟨x, h0, h1, h2, h3, h4, h5, h6.1, h6.2⟩
def Wf116 (x : S116) : Prop := (Lit.int .i64 x.f0).wf = true ∧ (Lit.int .i64 x.f1).wf = true ∧ (x.f2.length * 8 ≤ 140737488351232 ∧ ∀ y ∈ x.f2, (Lit.int .i64 y).wf = true)
theorem opens116 : ∀ n, Open.Opens Try.prog 116 k116 Wf116 n
  | 0 => Open.opens_zero _ _ _ _
  | n + 1 => (Open.opens_struct (t := 116) (L := (Kd.pair (Kd.int .i64) (Kd.pair (Kd.int .i64) (Kd.slice 3 (Kd.int .i64))))) (fun x : S116 => (x.f0, x.f1, x.f2)) (fun b => (⟨b.1, b.2.1, b.2.2⟩ : S116)) (fun _ => rfl) Try.underlying116 (by kernel_rfl) n (Open.opensF_cons rfl (by kernel_rfl) n ((Open.opens_int Try.underlying3) n) (Open.opensF_cons rfl (by kernel_rfl) n ((Open.opens_int Try.underlying3) n) (Open.opensF_one rfl (by kernel_rfl) n ((fun n => (match n with | 0 => Open.opens_zero _ _ _ _ | n + 1 => Open.opens_slice Try.underlying30 (by kernel_rfl) (by kernel_rfl) n ((Open.opens_int Try.underlying3) n) : Open.Opens Try.prog 30 (Kd.slice 3 (Kd.int .i64)) (fun x => (x.length * 8 ≤ 140737488351232 ∧ ∀ y ∈ x, (Lit.int .i64 y).wf = true)) n)) n))))).imp (fun _ _ _ h => h) (fun _ h => h)
def Wf103 (x : S103) : Prop := (Lit.int .i64 x.f0).wf = true ∧ (x.f1.length * 40 ≤ 140737488351232 ∧ ∀ y ∈ x.f1, Wf116 y)
theorem opens103 : ∀ n, Open.Opens Try.prog 103 k103 Wf103 n
  | 0 => Open.opens_zero _ _ _ _
  | n + 1 => (Open.opens_struct (t := 103) (L := (Kd.pair (Kd.int .i64) (Kd.slice 116 k116))) (fun x : S103 => (x.f0, x.f1)) (fun b => (⟨b.1, b.2⟩ : S103)) (fun _ => rfl) Try.underlying103 (by kernel_rfl) n (Open.opensF_cons rfl (by kernel_rfl) n ((Open.opens_int Try.underlying3) n) (Open.opensF_one rfl (by kernel_rfl) n ((fun n => (match n with | 0 => Open.opens_zero _ _ _ _ | n + 1 => Open.opens_slice Try.underlying101 (by kernel_rfl) (by kernel_rfl) n (opens116 n) : Open.Opens Try.prog 101 (Kd.slice 116 k116) (fun x => (x.length * 40 ≤ 140737488351232 ∧ ∀ y ∈ x, Wf116 y)) n)) n)))).imp (fun _ _ _ h => h) (fun _ h => h)
def w29_CostShares.Pure : Prop := ∀ (x0 : S27) (x1 : List (S103)), Wf27 x0 → (x1.length * 32 ≤ 140737488351232 ∧ ∀ y ∈ x1, Wf103 y) → ∃ k, w29_CostShares.f k x0.f0 x0.f1 x0.f2 x0.f3 x0.f4 x0.f5.f0 x0.f5.f1 x0.f5.f2 x0.f6 x1 = some true
end Go.Proofs.Ytcfgjaggccnoaaa.PCostShares
