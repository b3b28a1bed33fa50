-- Written by wip/pack.py, a program of mine: the texts that this law stands on, as far as it uses them; Lean checks it.
import Derived.Test.YtcfgjaggccnoaaaProg
import Derived.Below
import Derived.Deep.Draws
import Derived.Deep.AppendLies
import Derived.Maps.AppendAt
import Derived.OwnWalk
import Derived.Laws.BytesArg
import Derived.Laws.MakeOwn
import Derived.Laws.OwnMore
import Derived.Deep.OwnRows
import Derived.Tactics
import Derived.Lib.ConvBytes
import Derived.Laws.Slices
import Derived.WalkKit
import Derived.KernelRfl
import Derived.RowKit3
import Derived.Deep.LoopGhost
import Derived.Deep.QuietTactic
import Derived.BigQuiet
import Derived.WideLaws
import Derived.Deep.DeepCutAuto
import Derived.Deep.CutBlock
import Derived.Deep.RegionHeld3
import Derived.Laws.Rows
import Derived.Lib.AppendStr
import Derived.ArgAppend
import Derived.Laws.IdiomCopy
import Derived.RowKit
import Derived.OrdersHeld
import Derived.Laws.BitsLemmas
import Derived.Laws.StructEq
import Derived.Laws.DeepStrings4
import Derived.Laws.RangeAny
import Derived.Laws.RangeString
import Derived.Lib.Hide
import Derived.LoopTactic
import Derived.Lib.SliceRun
import Derived.Test.YtcfgjaggccnoaaaZParseExprs0
namespace Go.Proofs.Ytcfgjaggccnoaaa.PParseSmall
open Go.RowKit Go.Proofs.YtcfgjaggccnoaaaW.PrintWords Go.Proofs.YtcfgjaggccnoaaaW.PrintLast Go.Proofs.YtcfgjaggccnoaaaW.PrintMore
attribute [local go_sem] max2_int min2_int max_two min_two max_three min_three max_four min_four
set_option linter.unusedVariables false
set_option maxHeartbeats 8000000
set_option linter.unusedSimpArgs false
set_option maxRecDepth 100000
theorem token_text.mono : ∀ a0 a1 k, LeO (token_text.f k a0 a1) (token_text.f (k + 1) a0 a1) := by
 intro a0 a1 k; obtain ⟨ih0, ih1⟩ := token_text.mono_l k; unfold token_text.f
 repeat' first
   | (with_reducible exact ih0 _ _ _ _)
   | (with_reducible exact ih1 _ _ _ _ _)
   | (with_reducible exact LeO.refl _)
   | (with_reducible exact LeO.none _)
   | (with_reducible refine LeO.ite ?_ ?_)
   | (with_reducible refine LeO.bind ?_ (fun _ => ?_))
   | exact ih0 _ _ _ _
   | exact ih1 _ _ _ _ _
   | exact LeO.none _
   | refine LeO.ite ?_ ?_
   | refine LeO.bind ?_ (fun _ => ?_)
theorem token_text.calls (k : Nat) (a0 : ByteArray) (a1 : Int) (r1 : Int) (r2 : ByteArray) (r3 : Int) (r4 : Int) (r5 : Int) (r6 : Int) (w : World) (h : token_text.f k a0 a1 = some (r1, r2, r3, r4, r5, r6)) :
  Calls Try.prog 147 #[.string a0, .int .i64 a1] w fun e w' => e = .returned (.tuple #[.agg #[.int .i64 r1, .string r2, .int .i64 r3, .int .i64 r4], .int .i64 r5, .int .i64 r6]) ∧ Below w.heap.size w w' := by
 have hu91 := Try.underlying91; have HB := am_ (Below.refl w.heap.size w); have H : (token_text.l0 k a0 a1 ([] : List Int) (wrap64 (a1 + 1))) = some (r1, r2, r3, r4, r5, r6) := h; clear h; have H' := am_ H; clear H
 go_enter Try.func147, Try.ntmps147
 go_wp2_with (first | ((with_reducible refine gate_dst (N := 4) rfl ?_); refine box_event ?hg (N := 4) ?hd (cs := #[.int .i64 0, .string (⟨#[]⟩ : ByteArray), .int .i64 0, .int .i64 0]) (t := 91) ?hr ?_; (case hd => rfl); (case hg => rfl); (case hr => first | (go_simp; done) | (go_simp; rfl)); intro gb110 hg w3 hbox hb; have BK110 := am_ (hbox); have GW110 := am_ ((by rw [hg]; exact (below_size (bl_)) : w.heap.size ≤ gb110)); have GE110 := am_ ((by rw [hg]; exact (below_size (bl_)) : w.heap.size ≤ gb110)); replace HB := am_ (below_step (bl_) hb); clear hb hbox hg))
 go_loopg [7, 8] k (fun kq v7 v8 w' => ∃ (x7_1 : List Int) (x8_1 : Int) (x111000_1 : Int) (x111001_1 : ByteArray) (x111002_1 : Int) (x111003_1 : Int), v8 = .int .i64 x8_1 ∧ Aside0 (token_text.l0 kq a0 a1 x7_1 x8_1 = some (r1, r2, r3, r4, r5, r6)) ∧ Aside0 (kq ≤ k) ∧ Aside0 (Kd.R (Kd.int .u8) 5 w' w.heap.size (fun _ => True) v7 x7_1) ∧ Aside0 (w'.heap[gb110]? = some (.cells #[.int .i64 x111000_1, .string x111001_1, .int .i64 x111002_1, .int .i64 x111003_1] 91 (0, 0))) ∧ Aside0 (Below w.heap.size w w'))
 case atStart => exact ⟨(([] : List Int)), (wrap64 (a1 + 1)), (0), ((⟨#[]⟩ : ByteArray)), (0), (0), (rs_), H', ⟨Nat.le_refl _⟩, ⟨by first | exact Kd.R_nil _ _ _ _ _ | exact Kd.N_nil _ _ _ _ _ | exact Kd.V_nil _ _ _ _ _ | exact Kd.Q_nil _ _ _ _ _ | exact Kd.S_nil _ _ _ _ _⟩, ⟨bk_ BK110.out⟩, ⟨bl_⟩⟩
 case round =>
  clear H'; (try clear c1); (try clear p2); obtain ⟨x7_1, x8_1, x111000_1, x111001_1, x111002_1, x111003_1, rfl, HA, HK1, HO_7, BK110, HB⟩ := hrel
  cases gk with
  | zero => exact absurd HA.out (by simp [token_text.l0])
  | succ k1 =>
   have H := HA.out; clear HA; simp only [token_text.l0] at H
   by_cases c4 : x8_1 < (a0.size : Int)
   ·rw [if_pos c4] at H
    have c4b0 : decide (x8_1 < (a0.size : Int)) = true := decide_eq_true c4; clear c4
    by_cases c5 : 0 ≤ x8_1
    ·rw [if_pos c5] at H
     have c5b0 : decide (0 ≤ x8_1) = true := decide_eq_true c5; clear c5
     by_cases c7 : (bt a0 x8_1) = 39
     ·rw [if_pos c7] at H
      have c7b0 : ((bt a0 x8_1) == 39) = true := beq_iff_eq.mpr c7; have c7b1 : ((bt a0 x8_1) != 39) = false := bne_eq_false_iff_eq.mpr c7; clear c7; have HC8 := am_ H; clear H; have p6 : 0 ≤ (x8_1 : Int) := of_decide_eq_true (as_); have q6 : x8_1 < (a0.size : Int) := of_decide_eq_true (as_); have hx6 := bt_at a0 x8_1; replace p6 := eq_true p6; replace q6 := eq_true q6
      go_upto_region 7 with (fail)
      go_cut [38] (fun v38 wc => ∃ (kq : Nat) (x38_7 : Bool), v38 = .bool x38_7 ∧ Aside0 (token_text.j1 kq a0 a1 x7_1 x8_1 x38_7 = some (r1, r2, r3, r4, r5, r6)) ∧ Aside0 (kq ≤ k1) ∧ Aside0 (Kd.R (Kd.int .u8) 5 wc w.heap.size (fun _ => True) u7 x7_1) ∧ Aside0 (wc.heap[gb110]? = some (.cells #[.int .i64 x111000_1, .string x111001_1, .int .i64 x111002_1, .int .i64 x111003_1] 91 (0, 0))) ∧ Aside0 (Below w.heap.size w wc))
      case first =>
       have H := HC8.out; clear HC8
       by_cases c9 : (wrap64 (x8_1 + 1)) < (a0.size : Int)
       ·rw [if_pos c9] at H
        have c9b0 : decide ((wrap64 (x8_1 + 1)) < (a0.size : Int)) = true := decide_eq_true c9; clear c9; (first | rw [c9b0] | (simp only [i64_w, i32_w]; rw [c9b0]) | skip)
        obtain ⟨ji10, hji10⟩ : ∃ j_ : Int, (wrap64 (x8_1 + 1)) = j_ := ⟨_, rfl⟩
        replace H : (if 0 ≤ (ji10) then (token_text.j1 k1 a0 a1 x7_1 x8_1 ((bt a0 (ji10)) == 39)) else (none)) = some (r1, r2, r3, r4, r5, r6) := by first | (rw [hji10] at H; exact H) | (simp only [hji10] at H ⊢; exact H)
        (try rw [hji10] at c9b0); have hji10w : (IntKind.i64.wrap (x8_1 + 1)) = ji10 := (i64_w _).trans hji10
        by_cases c11 : 0 ≤ (ji10)
        ·rw [if_pos c11] at H
         have c11b0 : decide (0 ≤ (ji10)) = true := decide_eq_true c11; clear c11; have H' := am_ H; clear H; have p12 : 0 ≤ ((ji10) : Int) := of_decide_eq_true (as_); have q12 : (ji10) < (a0.size : Int) := of_decide_eq_true (as_); have hx12 := bt_at a0 (ji10); replace p12 := eq_true p12; replace q12 := eq_true q12
         go_wp2
         go_meet
         case rel => exact ⟨_, (((bt a0 (ji10)) == 39)), (by first | rfl | (simp; done) | (simp only [← hji10] <;> (first | rfl | simp)) | (simp [*]; done)), H', ⟨by have := HK1.out; first | omega | exact Nat.le_refl _⟩, ⟨kr_ HO_7.out⟩, ⟨bk_ BK110.out⟩, ⟨bl_⟩⟩
        ·rw [if_neg c11] at H
         exact absurd H (by simp)
       ·rw [if_neg c9] at H
        have c9b0 : decide ((wrap64 (x8_1 + 1)) < (a0.size : Int)) = false := decide_eq_false c9; clear c9; (first | rw [c9b0] | (simp only [i64_w, i32_w]; rw [c9b0]) | skip); have H' := am_ H; clear H
        go_wp2
        go_meet
        case rel => exact ⟨_, (false), (rs_), H', ⟨by have := HK1.out; first | omega | exact Nat.le_refl _⟩, ⟨kr_ HO_7.out⟩, ⟨bk_ BK110.out⟩, ⟨bl_⟩⟩
      case rest =>
       clear HC8; (try clear c1); (try clear p1); (try clear q1); (try clear hx1); (try clear p2); (try clear c4); (try clear c4b0); (try clear c5); (try clear c5b0); (try clear p6); (try clear q6); (try clear hx6); (try clear c7); (try clear c7b0); (try clear c7b1); (try clear c9); (try clear c9b0); (try clear c11); (try clear c11b0); (try clear p12); (try clear q12); (try clear hx12); (try clear p12); (try clear p2); (try clear p6); (try clear q12); (try clear q6); obtain ⟨kq, x38_7, rfl, HA, HJ7, HO_7, BK110, HB⟩ := hcut
       cases kq with
       | zero => exact absurd HA.out (by simp [token_text.j1])
       | succ kj7 =>
        have H := HA.out; clear HA; simp only [token_text.j1] at H
        by_cases c13 : x38_7 = true
        ·subst c13
         have H1 : (if x7_1.length < 140737488355328 then (token_text.l0 kj7 a0 a1 (x7_1 ++ [39]) (wrap64 ((wrap64 (x8_1 + 1)) + 1))) else (none)) = some (r1, r2, r3, r4, r5, r6) := by rw [if_pos rfl] at H; exact H
         clear H; have H := H1; clear H1
         by_cases c14 : x7_1.length < 140737488355328
         ·rw [if_pos c14] at H
          have LMc14 := am_ c14; clear c14
          obtain ⟨y114, hy114⟩ : ∃ y_ : List Int, y_ = (x7_1 ++ [39]) := ⟨_, rfl⟩
          replace H : (token_text.l0 kj7 a0 a1 y114 (wrap64 ((wrap64 (x8_1 + 1)) + 1))) = some (r1, r2, r3, r4, r5, r6) := by first | (rw [hy114]; with_reducible exact H) | (have H2_ := (Option.bind_some _ _).symm.trans H; rw [hy114]; with_reducible exact H2_) | (have H2_ := (Option.bind_some _ _).symm.trans H; with_reducible exact H2_) | with_reducible exact H | (rw [hy114]; exact H) | exact H
          have Ny114 := am_ hy114; clear hy114; have H' := am_ H; clear H
          go_wp2_with (first | ((with_reducible refine gate_builtin (b := .append) (xs := #[.tmp 39, .tmp 40]) rfl ?_); at_builtin; refine Kd.R_append (Kd.int .u8) (w0 := w) w.heap.size rfl (.tmp 39) (.tmp 40) 184 5 (.int .u8 0) 1 rfl Try.underlying184 info5 rfl (by decide) (by omega) u7 x7_1 39 [.int .u8 39] (fun _ => True) (fun _ => False) rfl rfl ?aP (fun _ hk => hk.elim) ?aF ?aO ?aB ?aS ?aL ?_; (case aP => exact rfl); (case aB => exact (bl_)); (case aF => exact (fun _ _ => trivial)); (case aO => exact (kr_ HO_7.out)); (case aS => exact (below_size (bl_))); (case aL => have := LMc14.out; omega); intro v115 w15 ho hb hg hat; rw [← Ny114.out] at ho; replace BK110 := am_ (blk_grown (g := gb110) (o := .cells #[.int .i64 x111000_1, .string x111001_1, .int .i64 x111002_1, .int .i64 x111003_1] 91 (0, 0)) (bk_ BK110.out) hg (Kd.R_ne HO_7.out BK110.out (by decide))); have HO116 := am_ (ho); replace HB := am_ (hb); clear HO_7; clear ho hb hg hat))
          go_roundg kj7
          case measure => have := HK1.out; have := HJ7.out; omega
          case rel => exact ⟨(y114), (wrap64 ((wrap64 (x8_1 + 1)) + 1)), (x111000_1), (x111001_1), (x111002_1), (x111003_1), (rs_), H', ⟨by have := HK1.out; have := HJ7.out; omega⟩, ⟨kr_ HO116.out⟩, ⟨bk_ BK110.out⟩, ⟨bl_⟩⟩
         ·rw [if_neg c14] at H
          exact absurd H (by simp)
        ·replace c13 := Bool.eq_false_iff.mpr c13
         subst c13
         have H1 : (if (x7_1.length : Int) > 65536 then (some (0, (⟨#[]⟩ : ByteArray), 0, 0, a1, 4)) else (some (4, strOfNums x7_1, 0, a1, wrap64 (x8_1 + 1), 0))) = some (r1, r2, r3, r4, r5, r6) := by rw [if_neg (show ¬ (false = true) by decide)] at H; exact H
         clear H; have H := H1; clear H1
         by_cases c16 : (x7_1.length : Int) > 65536
         ·rw [if_pos c16] at H
          have c16b0 : decide (65536 < (x7_1.length : Int)) = true := decide_eq_true c16; have c16b1 : decide (65536 < x7_1.length) = true := decide_eq_true (by omega); clear c16; simp only [Option.some.injEq, Prod.mk.injEq] at H; obtain ⟨rfl, rfl, rfl, rfl, rfl, rfl⟩ := H; obtain ⟨Ao17, co17, eo17⟩ := Kd.R_slice HO_7.out; subst eo17; obtain ⟨hcz18_0, hcz18_1, hcz18_2, hcz18_3, hfz18_0, hfz18_1, hfz18_2, hfz18_3⟩ := bw4_ BK110.out
          go_wp2
          refine bodyPost_ret (results_ctt rfl _ _ gb110 91 #[.int .i64 0, .string (⟨#[]⟩ : ByteArray), .int .i64 0, .int .i64 0] (0, 0) _ rfl (by refine bp_ ?_; refine blk_put (cs := #[.int .i64 0, .string (⟨#[]⟩ : ByteArray), .int .i64 0, .int .i64 x111003_1]) ?_ 3 _ rfl; refine bp_ ?_; refine blk_put (cs := #[.int .i64 0, .string (⟨#[]⟩ : ByteArray), .int .i64 x111002_1, .int .i64 x111003_1]) ?_ 2 _ rfl; refine bp_ ?_; refine blk_put (cs := #[.int .i64 0, .string x111001_1, .int .i64 x111002_1, .int .i64 x111003_1]) ?_ 1 _ rfl; refine bp_ ?_; refine blk_put (cs := #[.int .i64 x111000_1, .string x111001_1, .int .i64 x111002_1, .int .i64 x111003_1]) ?_ 0 _ rfl; refine bp_ ?_; exact BK110.out) Try.underlying91 rfl (by kernel_rfl)) rfl ?_; exact ⟨ew_, bl_⟩
         ·rw [if_neg c16] at H
          have c16b0 : decide (65536 < (x7_1.length : Int)) = false := decide_eq_false c16; have c16b1 : decide (65536 < x7_1.length) = false := decide_eq_false (by omega); clear c16; simp only [Option.some.injEq, Prod.mk.injEq] at H; obtain ⟨rfl, rfl, rfl, rfl, rfl, rfl⟩ := H; obtain ⟨Ao19, co19, eo19⟩ := Kd.R_slice HO_7.out; subst eo19; have hcv20 := own_string (P := Try.prog) Try.underlying184 Try.underlying5 Try.underlying9 (Kd.own_of_R HO_7.out); obtain ⟨hcz21_0, hcz21_1, hcz21_2, hcz21_3, hfz21_0, hfz21_1, hfz21_2, hfz21_3⟩ := bw4_ BK110.out
          go_wp2
          refine bodyPost_ret (results_ctt rfl _ _ gb110 91 #[.int .i64 4, .string (strOfNums x7_1), .int .i64 0, .int .i64 a1] (0, 0) _ rfl (by refine bp_ ?_; refine blk_put (cs := #[.int .i64 4, .string (strOfNums x7_1), .int .i64 0, .int .i64 x111003_1]) ?_ 3 _ rfl; refine bp_ ?_; refine blk_put (cs := #[.int .i64 4, .string (strOfNums x7_1), .int .i64 x111002_1, .int .i64 x111003_1]) ?_ 2 _ rfl; refine bp_ ?_; refine blk_put (cs := #[.int .i64 4, .string x111001_1, .int .i64 x111002_1, .int .i64 x111003_1]) ?_ 1 _ rfl; refine bp_ ?_; refine blk_put (cs := #[.int .i64 x111000_1, .string x111001_1, .int .i64 x111002_1, .int .i64 x111003_1]) ?_ 0 _ rfl; refine bp_ ?_; exact BK110.out) Try.underlying91 rfl (by kernel_rfl)) rfl ?_; exact ⟨ew_, bl_⟩
     ·rw [if_neg c7] at H
      have c7b0 : ((bt a0 x8_1) == 39) = false := beq_eq_false_iff_ne.mpr c7; have c7b1 : ((bt a0 x8_1) != 39) = true := bne_iff_ne.mpr c7
      by_cases c23 : x7_1.length < 140737488355328
      ·rw [if_pos c23] at H
       have LMc23 := am_ c23; clear c23
       obtain ⟨y111, hy111⟩ : ∃ y_ : List Int, y_ = (x7_1 ++ [bt a0 x8_1]) := ⟨_, rfl⟩
       replace H : (token_text.l0 k1 a0 a1 y111 (wrap64 (x8_1 + 1))) = some (r1, r2, r3, r4, r5, r6) := by first | (rw [hy111]; with_reducible exact H) | (have H2_ := (Option.bind_some _ _).symm.trans H; rw [hy111]; with_reducible exact H2_) | (have H2_ := (Option.bind_some _ _).symm.trans H; with_reducible exact H2_) | with_reducible exact H | (rw [hy111]; exact H) | exact H
       have Ny111 := am_ hy111; clear hy111; have H' := am_ H; clear H; have p6 : 0 ≤ (x8_1 : Int) := of_decide_eq_true (as_); have q6 : x8_1 < (a0.size : Int) := of_decide_eq_true (as_); have hx6 := bt_at a0 x8_1; replace p6 := eq_true p6; replace q6 := eq_true q6; have p22 : 0 ≤ (x8_1 : Int) := of_decide_eq_true (as_); have q22 : x8_1 < (a0.size : Int) := of_decide_eq_true (as_); have hx22 := bt_at a0 x8_1; replace p22 := eq_true p22; replace q22 := eq_true q22
       go_wp2_with (first | ((with_reducible refine gate_builtin (b := .append) (xs := #[.tmp 21, .tmp 25]) rfl ?_); at_builtin; refine Kd.R_append (Kd.int .u8) (w0 := w) w.heap.size rfl (.tmp 21) (.tmp 25) 184 5 (.int .u8 0) 1 rfl Try.underlying184 info5 rfl (by decide) (by omega) u7 x7_1 (bt a0 x8_1) [.int .u8 (bt a0 x8_1)] (fun _ => True) (fun _ => False) rfl rfl ?aP (fun _ hk => hk.elim) ?aF ?aO ?aB ?aS ?aL ?_; (case aP => exact rfl); (case aB => exact (bl_)); (case aF => exact (fun _ _ => trivial)); (case aO => exact (kr_ HO_7.out)); (case aS => exact (below_size (bl_))); (case aL => have := LMc23.out; omega); intro v112 w24 ho hb hg hat; rw [← Ny111.out] at ho; replace BK110 := am_ (blk_grown (g := gb110) (o := .cells #[.int .i64 x111000_1, .string x111001_1, .int .i64 x111002_1, .int .i64 x111003_1] 91 (0, 0)) (bk_ BK110.out) hg (Kd.R_ne HO_7.out BK110.out (by decide))); have HO113 := am_ (ho); replace HB := am_ (hb); clear HO_7; clear ho hb hg hat))
       go_roundg k1
       case measure => have := HK1.out; omega
       case rel => exact ⟨(y111), (wrap64 (x8_1 + 1)), (x111000_1), (x111001_1), (x111002_1), (x111003_1), (rs_), H', ⟨by have := HK1.out; omega⟩, ⟨kr_ HO113.out⟩, ⟨bk_ BK110.out⟩, ⟨bl_⟩⟩
      ·rw [if_neg c23] at H
       exact absurd H (by simp)
    ·rw [if_neg c5] at H
     exact absurd H (by simp)
   ·rw [if_neg c4] at H
    have c4b0 : decide (x8_1 < (a0.size : Int)) = false := decide_eq_false c4; clear c4; simp only [Option.some.injEq, Prod.mk.injEq] at H; obtain ⟨rfl, rfl, rfl, rfl, rfl, rfl⟩ := H; obtain ⟨hcz25_0, hcz25_1, hcz25_2, hcz25_3, hfz25_0, hfz25_1, hfz25_2, hfz25_3⟩ := bw4_ BK110.out
    go_wp2
    refine bodyPost_ret (results_ctt rfl _ _ gb110 91 #[.int .i64 0, .string (⟨#[]⟩ : ByteArray), .int .i64 0, .int .i64 0] (0, 0) _ rfl (by refine bp_ ?_; refine blk_put (cs := #[.int .i64 0, .string (⟨#[]⟩ : ByteArray), .int .i64 0, .int .i64 x111003_1]) ?_ 3 _ rfl; refine bp_ ?_; refine blk_put (cs := #[.int .i64 0, .string (⟨#[]⟩ : ByteArray), .int .i64 x111002_1, .int .i64 x111003_1]) ?_ 2 _ rfl; refine bp_ ?_; refine blk_put (cs := #[.int .i64 0, .string x111001_1, .int .i64 x111002_1, .int .i64 x111003_1]) ?_ 1 _ rfl; refine bp_ ?_; refine blk_put (cs := #[.int .i64 x111000_1, .string x111001_1, .int .i64 x111002_1, .int .i64 x111003_1]) ?_ 0 _ rfl; refine bp_ ?_; exact BK110.out) Try.underlying91 rfl (by kernel_rfl)) rfl ?_; exact ⟨ew_, bl_⟩
end Go.Proofs.Ytcfgjaggccnoaaa.PParseSmall
namespace Go.Proofs.Ytcfgjaggccnoaaa.PParseSmall
open Go.RowKit Go.Proofs.YtcfgjaggccnoaaaW.PrintWords Go.Proofs.YtcfgjaggccnoaaaW.PrintLast Go.Proofs.YtcfgjaggccnoaaaW.PrintMore
attribute [local go_sem] max2_int min2_int max_two min_two max_three min_three max_four min_four
set_option linter.unusedVariables false
set_option maxHeartbeats 8000000
set_option linter.unusedSimpArgs false
set_option maxRecDepth 100000
mutual
def token_One.j1 : Nat → ByteArray → Int → Int → Option (Int × ByteArray × Int × Int × Int × Int)
 | 0, _, _, _ => none
 | k + 1, x0, x7, x8 => (token_Sign.f k x0 x8).bind fun t119 => (if x8 = (x0.size : Int) then (some (0, (⟨#[]⟩ : ByteArray), 0, x8, x8, 0)) else (if 0 ≤ x8 then (if x8 < (x0.size : Int) then ((token_letter.f (bt x0 x8)).bind fun t120 => (if t120 = true then ((token_name.f k x0 x8).bind fun bt121 => (if bt121.2.2.2.2.2 = 0 then (some (bt121.1, bt121.2.1, bt121.2.2.1, bt121.2.2.2.1, bt121.2.2.2.2.1, 0)) else (some (0, (⟨#[]⟩ : ByteArray), 0, 0, x7, bt121.2.2.2.2.2)))) else ((token_digit.f (bt x0 x8)).bind fun t127 => (if t127 = true then ((token_number.f k x0 x8).bind fun bt128 => (if bt128.2.2.2.2.2 = 0 then (some (bt128.1, bt128.2.1, bt128.2.2.1, bt128.2.2.2.1, bt128.2.2.2.2.1, 0)) else (some (0, (⟨#[]⟩ : ByteArray), 0, 0, x7, bt128.2.2.2.2.2)))) else (if (bt x0 x8) = 39 then ((token_text.f k x0 x8).bind fun bt134 => (if bt134.2.2.2.2.2 = 0 then (some (bt134.1, bt134.2.1, bt134.2.2.1, bt134.2.2.2.1, bt134.2.2.2.2.1, 0)) else (some (0, (⟨#[]⟩ : ByteArray), 0, 0, x7, bt134.2.2.2.2.2)))) else (if t119.toList = ([] : List UInt8) then (some (0, (⟨#[]⟩ : ByteArray), 0, 0, x7, 1)) else (some (5, t119, 0, x8, wrap64 (x8 + (t119.size : Int)), 0)))))))) else (none)) else (none)))
def token_One.l0 : Nat → ByteArray → Int → Int → Option (Int × ByteArray × Int × Int × Int × Int)
 | 0, _, _, _ => none
 | k + 1, x0, x7, x8 => if x8 < (x0.size : Int) then (if 0 ≤ x8 then ((token_Blank.f (bt x0 x8)).bind fun t118 => (if t118 = true then (token_One.l0 k x0 x7 (wrap64 (x8 + 1))) else (token_One.j1 k x0 x7 x8))) else (none)) else (token_One.j1 k x0 x7 x8)
end
def token_One.f (k : Nat) (a0 : ByteArray) (a1 : Int) : Option (Int × ByteArray × Int × Int × Int × Int) := token_One.l0 k a0 (mn (mx a1 0) (a0.size : Int)) (mn (mx a1 0) (a0.size : Int))
theorem token_One.mono_l : ∀ k, (∀ y0 y1 y2, LeO (token_One.j1 k y0 y1 y2) (token_One.j1 (k + 1) y0 y1 y2)) ∧ (∀ y0 y1 y2, LeO (token_One.l0 k y0 y1 y2) (token_One.l0 (k + 1) y0 y1 y2))
 | 0 => ⟨fun _ _ _ r h => by simp [token_One.j1] at h, fun _ _ _ r h => by simp [token_One.l0] at h⟩
 | k + 1 => by
  obtain ⟨ih0, ih1⟩ := token_One.mono_l k; refine ⟨?_, ?_⟩
  ·intro y0 y1 y2
   unfold token_One.j1
   repeat' first
   | (with_reducible exact ih0 _ _ _)
   | (with_reducible exact ih1 _ _ _)
   | (with_reducible exact token_Sign.mono _ _ _)
   | (with_reducible exact token_name.mono _ _ _)
   | (with_reducible exact token_number.mono _ _ _)
   | (with_reducible exact token_text.mono _ _ _)
   | (with_reducible exact LeO.refl _)
   | (with_reducible exact LeO.none _)
   | (with_reducible refine LeO.ite ?_ ?_)
   | (with_reducible refine LeO.bind ?_ (fun _ => ?_))
   | exact ih0 _ _ _
   | exact ih1 _ _ _
   | exact token_Sign.mono _ _ _
   | exact token_name.mono _ _ _
   | exact token_number.mono _ _ _
   | exact token_text.mono _ _ _
   | exact LeO.none _
   | refine LeO.ite ?_ ?_
   | refine LeO.bind ?_ (fun _ => ?_)
  ·intro y0 y1 y2
   unfold token_One.l0
   repeat' first
   | (with_reducible exact ih0 _ _ _)
   | (with_reducible exact ih1 _ _ _)
   | (with_reducible exact token_Sign.mono _ _ _)
   | (with_reducible exact token_name.mono _ _ _)
   | (with_reducible exact token_number.mono _ _ _)
   | (with_reducible exact token_text.mono _ _ _)
   | (with_reducible exact LeO.refl _)
   | (with_reducible exact LeO.none _)
   | (with_reducible refine LeO.ite ?_ ?_)
   | (with_reducible refine LeO.bind ?_ (fun _ => ?_))
   | exact ih0 _ _ _
   | exact ih1 _ _ _
   | exact token_Sign.mono _ _ _
   | exact token_name.mono _ _ _
   | exact token_number.mono _ _ _
   | exact token_text.mono _ _ _
   | exact LeO.none _
   | refine LeO.ite ?_ ?_
   | refine LeO.bind ?_ (fun _ => ?_)
theorem token_One.mono : ∀ a0 a1 k, LeO (token_One.f k a0 a1) (token_One.f (k + 1) a0 a1) := by
 intro a0 a1 k; obtain ⟨ih0, ih1⟩ := token_One.mono_l k; unfold token_One.f
 repeat' first
   | (with_reducible exact ih0 _ _ _)
   | (with_reducible exact ih1 _ _ _)
   | (with_reducible exact token_Sign.mono _ _ _)
   | (with_reducible exact token_name.mono _ _ _)
   | (with_reducible exact token_number.mono _ _ _)
   | (with_reducible exact token_text.mono _ _ _)
   | (with_reducible exact LeO.refl _)
   | (with_reducible exact LeO.none _)
   | (with_reducible refine LeO.ite ?_ ?_)
   | (with_reducible refine LeO.bind ?_ (fun _ => ?_))
   | exact ih0 _ _ _
   | exact ih1 _ _ _
   | exact token_Sign.mono _ _ _
   | exact token_name.mono _ _ _
   | exact token_number.mono _ _ _
   | exact token_text.mono _ _ _
   | exact LeO.none _
   | refine LeO.ite ?_ ?_
   | refine LeO.bind ?_ (fun _ => ?_)
theorem token_One.calls (k : Nat) (a0 : ByteArray) (a1 : Int) (r1 : Int) (r2 : ByteArray) (r3 : Int) (r4 : Int) (r5 : Int) (r6 : Int) (w : World) (h : token_One.f k a0 a1 = some (r1, r2, r3, r4, r5, r6)) :
  Calls Try.prog 120 #[.string a0, .int .i64 a1] w fun e w' => e = .returned (.tuple #[.agg #[.int .i64 r1, .string r2, .int .i64 r3, .int .i64 r4], .int .i64 r5, .int .i64 r6]) ∧ Below w.heap.size w w' := by
 have hu91 := Try.underlying91; have HB := am_ (Below.refl w.heap.size w); have H : (token_One.l0 k a0 (mn (mx a1 0) (a0.size : Int)) (mn (mx a1 0) (a0.size : Int))) = some (r1, r2, r3, r4, r5, r6) := h; clear h
 obtain ⟨ji3, hji3⟩ : ∃ j_ : Int, (mx a1 0) = j_ := ⟨_, rfl⟩
 replace H : (token_One.l0 k a0 (mn (ji3) (a0.size : Int)) (mn (ji3) (a0.size : Int))) = some (r1, r2, r3, r4, r5, r6) := by first | (rw [hji3] at H; exact H) | (simp only [hji3] at H ⊢; exact H)
 (try (have hji3l : 0 ≤ ji3 := by (rw [← hji3]; unfold mx; (repeat' split) <;> omega))); (try (have hji3m : 0 ≤ ji3 := by omega)); have hji3_ : (if a1 < 0 then 0 else a1) = ji3 := hji3
 obtain ⟨ji4, hji4⟩ : ∃ j_ : Int, (mn (ji3) (a0.size : Int)) = j_ := ⟨_, rfl⟩
 replace H : (token_One.l0 k a0 ji4 ji4) = some (r1, r2, r3, r4, r5, r6) := by first | (rw [hji4] at H; exact H) | (simp only [hji4] at H ⊢; exact H)
 have hji4_ : (if (a0.size : Int) < (ji3) then (a0.size : Int) else (ji3)) = ji4 := hji4; have HC5 := am_ H; clear H
 go_enter Try.func120, Try.ntmps120
 go_upto_block 0 with (first | ((with_reducible refine gate_dst (N := 4) rfl ?_); refine box_event ?hg (N := 4) ?hd (cs := #[.int .i64 0, .string (⟨#[]⟩ : ByteArray), .int .i64 0, .int .i64 0]) (t := 91) ?hr ?_; (case hd => rfl); (case hg => rfl); (case hr => first | (go_simp; done) | (go_simp; rfl)); intro gb117 hg w6 hbox hb; have BK117 := am_ (hbox); have GW117 := am_ ((by rw [hg]; exact (below_size (bl_)) : w.heap.size ≤ gb117)); have GE117 := am_ ((by rw [hg]; exact (below_size (bl_)) : w.heap.size ≤ gb117)); replace HB := am_ (below_step (bl_) hb); clear hb hbox hg))
 (try simp only [Act.put, sa_, sz_, ss_])
 go_cut [8] (fun v8 wc => ∃ (kq : Nat) (x8_4 : Int), v8 = .int .i64 x8_4 ∧ Aside0 (token_One.j1 kq a0 ji4 x8_4 = some (r1, r2, r3, r4, r5, r6)) ∧ Aside0 (kq ≤ k) ∧ Aside0 (wc.heap[gb117]? = some (.cells #[.int .i64 0, .string (⟨#[]⟩ : ByteArray), .int .i64 0, .int .i64 0] 91 (0, 0))) ∧ Aside0 (Below w.heap.size w wc))
 case first =>
  have H := HC5.out; clear HC5; have H' := am_ H; clear H
  go_wp2
  go_loopg [8] k (fun kq v8 w' => ∃ (x8_1 : Int), v8 = .int .i64 x8_1 ∧ Aside0 (token_One.l0 kq a0 ji4 x8_1 = some (r1, r2, r3, r4, r5, r6)) ∧ Aside0 (kq ≤ k) ∧ Aside0 (w'.heap[gb117]? = some (.cells #[.int .i64 0, .string (⟨#[]⟩ : ByteArray), .int .i64 0, .int .i64 0] 91 (0, 0))) ∧ Aside0 (Below w.heap.size w w'))
  case atStart => exact ⟨(ji4), (by first | rfl | (simp; done) | (simp only [← hji4] <;> (first | rfl | simp)) | (simp [*]; done)), H', ⟨Nat.le_refl _⟩, ⟨bk_ BK117.out⟩, ⟨bl_⟩⟩
  case round =>
   clear H'; (try clear c1); (try clear p2); obtain ⟨x8_1, rfl, HA, HK1, BK117, HB⟩ := hrel
   cases gk with
   | zero => exact absurd HA.out (by simp [token_One.l0])
   | succ k1 =>
    have H := HA.out; clear HA; simp only [token_One.l0] at H
    by_cases c7 : x8_1 < (a0.size : Int)
    ·rw [if_pos c7] at H
     have c7b0 : decide (x8_1 < (a0.size : Int)) = true := decide_eq_true c7; clear c7; (first | rw [c7b0] | (simp only [i64_w, i32_w]; rw [c7b0]) | skip)
     by_cases c8 : 0 ≤ x8_1
     ·rw [if_pos c8] at H
      have c8b0 : decide (0 ≤ x8_1) = true := decide_eq_true c8; clear c8; replace H := Option.bind_eq_some_iff.mp H; obtain ⟨t118, A100, H⟩ := H; replace H : (if t118 = true then (token_One.l0 k1 a0 ji4 (wrap64 (x8_1 + 1))) else (token_One.j1 k1 a0 ji4 x8_1)) = some (r1, r2, r3, r4, r5, r6) := H; have A10 := am_ A100; clear A100
      by_cases c11 : t118 = true
      ·subst c11
       have H1 : (token_One.l0 k1 a0 ji4 (wrap64 (x8_1 + 1))) = some (r1, r2, r3, r4, r5, r6) := by rw [if_pos rfl] at H; exact H
       clear H; have H := H1; clear H1; have H' := am_ H; clear H; have p9 : 0 ≤ (x8_1 : Int) := of_decide_eq_true (as_); have q9 : x8_1 < (a0.size : Int) := of_decide_eq_true (as_); have hx9 := bt_at a0 x8_1; replace p9 := eq_true p9; replace q9 := eq_true q9
       go_wp2_with (first | (go_at_call 141; (with_reducible refine (token_Blank.calls (bt a0 x8_1) true _ A10.out).mono ?_); rintro e w' ⟨rfl, ⟨nd, rfl⟩⟩))
       go_roundg k1
       case measure => have := HK1.out; omega
       case rel => exact ⟨(wrap64 (x8_1 + 1)), (rs_), H', ⟨by have := HK1.out; omega⟩, ⟨bk_ BK117.out⟩, ⟨bl_⟩⟩
      ·replace c11 := Bool.eq_false_iff.mpr c11
       subst c11
       have H1 : (token_One.j1 k1 a0 ji4 x8_1) = some (r1, r2, r3, r4, r5, r6) := by rw [if_neg (show ¬ (false = true) by decide)] at H; exact H
       clear H; have H := H1; clear H1; have H' := am_ H; clear H; have p9 : 0 ≤ (x8_1 : Int) := of_decide_eq_true (as_); have q9 : x8_1 < (a0.size : Int) := of_decide_eq_true (as_); have hx9 := bt_at a0 x8_1; replace p9 := eq_true p9; replace q9 := eq_true q9
       go_wp2_with (first | (go_at_call 141; (with_reducible refine (token_Blank.calls (bt a0 x8_1) false _ A10.out).mono ?_); rintro e w' ⟨rfl, ⟨nd, rfl⟩⟩))
       go_meet
       case rel => exact ⟨_, (x8_1), (rs_), H', ⟨by have := HK1.out; first | omega | exact Nat.le_refl _⟩, ⟨bk_ BK117.out⟩, ⟨bl_⟩⟩
     ·rw [if_neg c8] at H
      exact absurd H (by simp)
    ·rw [if_neg c7] at H
     have c7b0 : decide (x8_1 < (a0.size : Int)) = false := decide_eq_false c7; clear c7; (first | rw [c7b0] | (simp only [i64_w, i32_w]; rw [c7b0]) | skip); have H' := am_ H; clear H
     go_wp2
     go_meet
     case rel => exact ⟨_, (x8_1), (rs_), H', ⟨by have := HK1.out; first | omega | exact Nat.le_refl _⟩, ⟨bk_ BK117.out⟩, ⟨bl_⟩⟩
 case rest =>
  clear HC5; (try clear c1); (try clear p2); (try clear p6); (try clear c7); (try clear c7b0); (try clear c8); (try clear c8b0); (try clear p9); (try clear q9); (try clear hx9); (try clear c11); (try clear p2); (try clear p9); (try clear q9); obtain ⟨kq, x8_4, rfl, HA, HJ4, BK117, HB⟩ := hcut
  cases kq with
  | zero => exact absurd HA.out (by simp [token_One.j1])
  | succ kj4 =>
   have H := HA.out; clear HA; simp only [token_One.j1] at H; replace H := Option.bind_eq_some_iff.mp H; obtain ⟨t119, A120, H⟩ := H; replace H : (if x8_4 = (a0.size : Int) then (some (0, (⟨#[]⟩ : ByteArray), 0, x8_4, x8_4, 0)) else (if 0 ≤ x8_4 then (if x8_4 < (a0.size : Int) then ((token_letter.f (bt a0 x8_4)).bind fun t120 => (if t120 = true then ((token_name.f kj4 a0 x8_4).bind fun bt121 => (if bt121.2.2.2.2.2 = 0 then (some (bt121.1, bt121.2.1, bt121.2.2.1, bt121.2.2.2.1, bt121.2.2.2.2.1, 0)) else (some (0, (⟨#[]⟩ : ByteArray), 0, 0, ji4, bt121.2.2.2.2.2)))) else ((token_digit.f (bt a0 x8_4)).bind fun t127 => (if t127 = true then ((token_number.f kj4 a0 x8_4).bind fun bt128 => (if bt128.2.2.2.2.2 = 0 then (some (bt128.1, bt128.2.1, bt128.2.2.1, bt128.2.2.2.1, bt128.2.2.2.2.1, 0)) else (some (0, (⟨#[]⟩ : ByteArray), 0, 0, ji4, bt128.2.2.2.2.2)))) else (if (bt a0 x8_4) = 39 then ((token_text.f kj4 a0 x8_4).bind fun bt134 => (if bt134.2.2.2.2.2 = 0 then (some (bt134.1, bt134.2.1, bt134.2.2.1, bt134.2.2.2.1, bt134.2.2.2.2.1, 0)) else (some (0, (⟨#[]⟩ : ByteArray), 0, 0, ji4, bt134.2.2.2.2.2)))) else (if t119.toList = ([] : List UInt8) then (some (0, (⟨#[]⟩ : ByteArray), 0, 0, ji4, 1)) else (some (5, t119, 0, x8_4, wrap64 (x8_4 + (t119.size : Int)), 0)))))))) else (none)) else (none))) = some (r1, r2, r3, r4, r5, r6) := H; have A12 := am_ A120; clear A120
   by_cases c13 : x8_4 = (a0.size : Int)
   ·rw [if_pos c13] at H
    have c13b0 : (x8_4 == (a0.size : Int)) = true := beq_iff_eq.mpr c13; have c13b1 : (x8_4 != (a0.size : Int)) = false := bne_eq_false_iff_eq.mpr c13; clear c13; simp only [Option.some.injEq, Prod.mk.injEq] at H; obtain ⟨rfl, rfl, rfl, rfl, rfl, rfl⟩ := H
    go_wp2_with (first | ((with_reducible refine gate_callee (f := 142) rfl ?_); refine goesL_ (some 30) rfl rfl Try.func142 (by kernel_rfl) rfl #[.string a0, .int .i64 x8_4] rfl (by (try simp only [List.map_toArray, List.map_cons, List.map_nil]); first | done | rfl | (simp only [List.length_drop, List.length_take]; rfl)) ?_; (with_reducible refine (token_Sign.calls kj4 a0 x8_4 t119 _ A12.out).mono ?_); rintro e w14 ⟨rfl, hb⟩; refine ⟨_, rfl, ?_⟩; replace BK117 := am_ (blk_below (bk_ BK117.out) hb); replace HB := am_ (below_step (bl_) hb); (try clear hb); (try clear hb2); (try clear hk); (try clear hi); obtain ⟨hcz15_0, hcz15_1, hcz15_2, hcz15_3, hfz15_0, hfz15_1, hfz15_2, hfz15_3⟩ := bw4_ BK117.out))
    refine bodyPost_ret (results_ctt rfl _ _ gb117 91 #[.int .i64 0, .string (⟨#[]⟩ : ByteArray), .int .i64 0, .int .i64 x8_4] (0, 0) _ rfl (by refine bp_ ?_; refine blk_put (cs := #[.int .i64 0, .string (⟨#[]⟩ : ByteArray), .int .i64 0, .int .i64 0]) ?_ 3 _ rfl; refine bp_ ?_; refine blk_put (cs := #[.int .i64 0, .string (⟨#[]⟩ : ByteArray), .int .i64 0, .int .i64 0]) ?_ 2 _ rfl; refine bp_ ?_; refine blk_put (cs := #[.int .i64 0, .string (⟨#[]⟩ : ByteArray), .int .i64 0, .int .i64 0]) ?_ 1 _ rfl; refine bp_ ?_; refine blk_put (cs := #[.int .i64 0, .string (⟨#[]⟩ : ByteArray), .int .i64 0, .int .i64 0]) ?_ 0 _ rfl; refine bp_ ?_; exact BK117.out) Try.underlying91 rfl (by kernel_rfl)) rfl ?_; exact ⟨by first | rfl | (simp [errW_none, errW_some] <;> rfl) | (simp only [← hji3, ← hji4]; first | rfl | (simp [errW_none, errW_some] <;> rfl)) | (simp [*, errW_none, errW_some] <;> rfl), bl_⟩
   ·rw [if_neg c13] at H
    have c13b0 : (x8_4 == (a0.size : Int)) = false := beq_eq_false_iff_ne.mpr c13; have c13b1 : (x8_4 != (a0.size : Int)) = true := bne_iff_ne.mpr c13
    by_cases c16 : 0 ≤ x8_4
    ·rw [if_pos c16] at H
     have c16b0 : decide (0 ≤ x8_4) = true := decide_eq_true c16; clear c16
     by_cases c17 : x8_4 < (a0.size : Int)
     ·rw [if_pos c17] at H
      have c17b0 : decide (x8_4 < (a0.size : Int)) = true := decide_eq_true c17; clear c17; replace H := Option.bind_eq_some_iff.mp H; obtain ⟨t120, A190, H⟩ := H; replace H : (if t120 = true then ((token_name.f kj4 a0 x8_4).bind fun bt121 => (if bt121.2.2.2.2.2 = 0 then (some (bt121.1, bt121.2.1, bt121.2.2.1, bt121.2.2.2.1, bt121.2.2.2.2.1, 0)) else (some (0, (⟨#[]⟩ : ByteArray), 0, 0, ji4, bt121.2.2.2.2.2)))) else ((token_digit.f (bt a0 x8_4)).bind fun t127 => (if t127 = true then ((token_number.f kj4 a0 x8_4).bind fun bt128 => (if bt128.2.2.2.2.2 = 0 then (some (bt128.1, bt128.2.1, bt128.2.2.1, bt128.2.2.2.1, bt128.2.2.2.2.1, 0)) else (some (0, (⟨#[]⟩ : ByteArray), 0, 0, ji4, bt128.2.2.2.2.2)))) else (if (bt a0 x8_4) = 39 then ((token_text.f kj4 a0 x8_4).bind fun bt134 => (if bt134.2.2.2.2.2 = 0 then (some (bt134.1, bt134.2.1, bt134.2.2.1, bt134.2.2.2.1, bt134.2.2.2.2.1, 0)) else (some (0, (⟨#[]⟩ : ByteArray), 0, 0, ji4, bt134.2.2.2.2.2)))) else (if t119.toList = ([] : List UInt8) then (some (0, (⟨#[]⟩ : ByteArray), 0, 0, ji4, 1)) else (some (5, t119, 0, x8_4, wrap64 (x8_4 + (t119.size : Int)), 0))))))) = some (r1, r2, r3, r4, r5, r6) := H; have A19 := am_ A190; clear A190
      by_cases c20 : t120 = true
      ·subst c20
       have H1 : ((token_name.f kj4 a0 x8_4).bind fun bt121 => (if bt121.2.2.2.2.2 = 0 then (some (bt121.1, bt121.2.1, bt121.2.2.1, bt121.2.2.2.1, bt121.2.2.2.2.1, 0)) else (some (0, (⟨#[]⟩ : ByteArray), 0, 0, ji4, bt121.2.2.2.2.2)))) = some (r1, r2, r3, r4, r5, r6) := by rw [if_pos rfl] at H; exact H
       clear H; have H := H1; clear H1; replace H := Option.bind_eq_some_iff.mp H; obtain ⟨⟨t121, t122, t123, t124, t125, t126⟩, A210, H⟩ := H; replace H : (if t126 = 0 then (some (t121, t122, t123, t124, t125, 0)) else (some (0, (⟨#[]⟩ : ByteArray), 0, 0, ji4, t126))) = some (r1, r2, r3, r4, r5, r6) := H; have A21 := am_ A210; clear A210
       by_cases c22 : t126 = 0
       ·rw [if_pos c22] at H
        have c22b0 : (t126 == 0) = true := beq_iff_eq.mpr c22; have c22b1 : (t126 != 0) = false := bne_eq_false_iff_eq.mpr c22; clear c22; simp only [Option.some.injEq, Prod.mk.injEq] at H; obtain ⟨rfl, rfl, rfl, rfl, rfl, rfl⟩ := H
        go_wp2_with (first | ((with_reducible refine gate_callee (f := 142) rfl ?_); refine goesL_ (some 30) rfl rfl Try.func142 (by kernel_rfl) rfl #[.string a0, .int .i64 x8_4] rfl (by (try simp only [List.map_toArray, List.map_cons, List.map_nil]); first | done | rfl | (simp only [List.length_drop, List.length_take]; rfl)) ?_; (with_reducible refine (token_Sign.calls kj4 a0 x8_4 t119 _ A12.out).mono ?_); rintro e w23 ⟨rfl, hb⟩; refine ⟨_, rfl, ?_⟩; replace BK117 := am_ (blk_below (bk_ BK117.out) hb); replace HB := am_ (below_step (bl_) hb); (try clear hb); (try clear hb2); (try clear hk); (try clear hi); have p18 : 0 ≤ (x8_4 : Int) := of_decide_eq_true (as_); have q18 : x8_4 < (a0.size : Int) := of_decide_eq_true (as_); have hx18 := bt_at a0 x8_4; replace p18 := eq_true p18; replace q18 := eq_true q18) | ((with_reducible refine gate_callee (f := 143) rfl ?_); refine goesL_ (some 43) rfl rfl Try.func143 (by kernel_rfl) rfl #[.int .u8 (bt a0 x8_4)] rfl (by (try simp only [List.map_toArray, List.map_cons, List.map_nil]); first | done | rfl | (simp only [List.length_drop, List.length_take]; rfl)) ?_; (with_reducible refine (token_letter.calls (bt a0 x8_4) true _ A19.out).mono ?_); rintro e w' ⟨rfl, ⟨nd, rfl⟩⟩; refine ⟨_, rfl, ?_⟩; (try (rw [drewN_self w23]; generalize hq_ : World.drewN w23 _ = w23; have n0_ : Aside0 (w23.heap[gb117]? = some (.cells #[.int .i64 0, .string (⟨#[]⟩ : ByteArray), .int .i64 0, .int .i64 0] 91 (0, 0))) := ⟨by rw [← hq_]; exact (bk_ BK117.out)⟩; have n1_ : Aside0 (Below w.heap.size w w23) := ⟨by rw [← hq_]; exact (bl_)⟩; clear BK117 HB hq_; have BK117 := n0_; have HB := n1_; clear n0_ n1_))) | ((with_reducible refine gate_callee (f := 144) rfl ?_); refine goesL_ (some 47) rfl rfl Try.func144 (by kernel_rfl) rfl #[.string a0, .int .i64 x8_4] rfl (by (try simp only [List.map_toArray, List.map_cons, List.map_nil]); first | done | rfl | (simp only [List.length_drop, List.length_take]; rfl)) ?_; (with_reducible refine (token_name.calls kj4 a0 x8_4 t121 t122 t123 t124 t125 t126 _ A21.out).mono ?_); rintro e w24 ⟨rfl, hb⟩; refine ⟨_, rfl, ?_⟩; replace BK117 := am_ (blk_below (bk_ BK117.out) hb); replace HB := am_ (below_step (bl_) hb); (try clear hb); (try clear hb2); (try clear hk); (try clear hi); obtain ⟨hcz25_0, hcz25_1, hcz25_2, hcz25_3, hfz25_0, hfz25_1, hfz25_2, hfz25_3⟩ := bw4_ BK117.out))
        refine bodyPost_ret (results_ctt rfl _ _ gb117 91 #[.int .i64 t121, .string t122, .int .i64 t123, .int .i64 t124] (0, 0) _ rfl (by refine bp_ ?_; refine blk_put (cs := #[.int .i64 t121, .string t122, .int .i64 t123, .int .i64 t124]) ?_ 3 _ rfl; refine bp_ ?_; refine blk_put (cs := #[.int .i64 t121, .string t122, .int .i64 t123, .int .i64 t124]) ?_ 2 _ rfl; refine bp_ ?_; refine blk_put (cs := #[.int .i64 t121, .string t122, .int .i64 t123, .int .i64 t124]) ?_ 1 _ rfl; refine bp_ ?_; refine blk_put (cs := #[.int .i64 t121, .string t122, .int .i64 t123, .int .i64 t124]) ?_ 0 _ rfl; refine bp_ ?_; refine blk_put (cs := #[.int .i64 t121, .string t122, .int .i64 t123, .int .i64 0]) ?_ 3 _ rfl; refine bp_ ?_; refine blk_put (cs := #[.int .i64 t121, .string t122, .int .i64 0, .int .i64 0]) ?_ 2 _ rfl; refine bp_ ?_; refine blk_put (cs := #[.int .i64 t121, .string (⟨#[]⟩ : ByteArray), .int .i64 0, .int .i64 0]) ?_ 1 _ rfl; refine bp_ ?_; refine blk_put (cs := #[.int .i64 0, .string (⟨#[]⟩ : ByteArray), .int .i64 0, .int .i64 0]) ?_ 0 _ rfl; refine bp_ ?_; exact BK117.out) Try.underlying91 rfl (by kernel_rfl)) rfl ?_; exact ⟨by first | rfl | (simp [errW_none, errW_some] <;> rfl) | (simp only [← hji3, ← hji4]; first | rfl | (simp [errW_none, errW_some] <;> rfl)) | (simp [*, errW_none, errW_some] <;> rfl), bl_⟩
       ·rw [if_neg c22] at H
        have c22b0 : (t126 == 0) = false := beq_eq_false_iff_ne.mpr c22; have c22b1 : (t126 != 0) = true := bne_iff_ne.mpr c22; simp only [Option.some.injEq, Prod.mk.injEq] at H; obtain ⟨rfl, rfl, rfl, rfl, rfl, rfl⟩ := H
        go_wp2_with (first | ((with_reducible refine gate_callee (f := 142) rfl ?_); refine goesL_ (some 30) rfl rfl Try.func142 (by kernel_rfl) rfl #[.string a0, .int .i64 x8_4] rfl (by (try simp only [List.map_toArray, List.map_cons, List.map_nil]); first | done | rfl | (simp only [List.length_drop, List.length_take]; rfl)) ?_; (with_reducible refine (token_Sign.calls kj4 a0 x8_4 t119 _ A12.out).mono ?_); rintro e w26 ⟨rfl, hb⟩; refine ⟨_, rfl, ?_⟩; replace BK117 := am_ (blk_below (bk_ BK117.out) hb); replace HB := am_ (below_step (bl_) hb); (try clear hb); (try clear hb2); (try clear hk); (try clear hi); have p18 : 0 ≤ (x8_4 : Int) := of_decide_eq_true (as_); have q18 : x8_4 < (a0.size : Int) := of_decide_eq_true (as_); have hx18 := bt_at a0 x8_4; replace p18 := eq_true p18; replace q18 := eq_true q18) | ((with_reducible refine gate_callee (f := 143) rfl ?_); refine goesL_ (some 43) rfl rfl Try.func143 (by kernel_rfl) rfl #[.int .u8 (bt a0 x8_4)] rfl (by (try simp only [List.map_toArray, List.map_cons, List.map_nil]); first | done | rfl | (simp only [List.length_drop, List.length_take]; rfl)) ?_; (with_reducible refine (token_letter.calls (bt a0 x8_4) true _ A19.out).mono ?_); rintro e w' ⟨rfl, ⟨nd, rfl⟩⟩; refine ⟨_, rfl, ?_⟩; (try (rw [drewN_self w26]; generalize hq_ : World.drewN w26 _ = w26; have n0_ : Aside0 (w26.heap[gb117]? = some (.cells #[.int .i64 0, .string (⟨#[]⟩ : ByteArray), .int .i64 0, .int .i64 0] 91 (0, 0))) := ⟨by rw [← hq_]; exact (bk_ BK117.out)⟩; have n1_ : Aside0 (Below w.heap.size w w26) := ⟨by rw [← hq_]; exact (bl_)⟩; clear BK117 HB hq_; have BK117 := n0_; have HB := n1_; clear n0_ n1_))) | ((with_reducible refine gate_callee (f := 144) rfl ?_); refine goesL_ (some 47) rfl rfl Try.func144 (by kernel_rfl) rfl #[.string a0, .int .i64 x8_4] rfl (by (try simp only [List.map_toArray, List.map_cons, List.map_nil]); first | done | rfl | (simp only [List.length_drop, List.length_take]; rfl)) ?_; (with_reducible refine (token_name.calls kj4 a0 x8_4 t121 t122 t123 t124 t125 t126 _ A21.out).mono ?_); rintro e w27 ⟨rfl, hb⟩; refine ⟨_, rfl, ?_⟩; replace BK117 := am_ (blk_below (bk_ BK117.out) hb); replace HB := am_ (below_step (bl_) hb); (try clear hb); (try clear hb2); (try clear hk); (try clear hi); obtain ⟨hcz28_0, hcz28_1, hcz28_2, hcz28_3, hfz28_0, hfz28_1, hfz28_2, hfz28_3⟩ := bw4_ BK117.out))
        refine bodyPost_ret (results_ctt rfl _ _ gb117 91 #[.int .i64 0, .string (⟨#[]⟩ : ByteArray), .int .i64 0, .int .i64 0] (0, 0) _ rfl (by refine bp_ ?_; refine blk_put (cs := #[.int .i64 0, .string (⟨#[]⟩ : ByteArray), .int .i64 0, .int .i64 t124]) ?_ 3 _ rfl; refine bp_ ?_; refine blk_put (cs := #[.int .i64 0, .string (⟨#[]⟩ : ByteArray), .int .i64 t123, .int .i64 t124]) ?_ 2 _ rfl; refine bp_ ?_; refine blk_put (cs := #[.int .i64 0, .string t122, .int .i64 t123, .int .i64 t124]) ?_ 1 _ rfl; refine bp_ ?_; refine blk_put (cs := #[.int .i64 t121, .string t122, .int .i64 t123, .int .i64 t124]) ?_ 0 _ rfl; refine bp_ ?_; refine blk_put (cs := #[.int .i64 t121, .string t122, .int .i64 t123, .int .i64 0]) ?_ 3 _ rfl; refine bp_ ?_; refine blk_put (cs := #[.int .i64 t121, .string t122, .int .i64 0, .int .i64 0]) ?_ 2 _ rfl; refine bp_ ?_; refine blk_put (cs := #[.int .i64 t121, .string (⟨#[]⟩ : ByteArray), .int .i64 0, .int .i64 0]) ?_ 1 _ rfl; refine bp_ ?_; refine blk_put (cs := #[.int .i64 0, .string (⟨#[]⟩ : ByteArray), .int .i64 0, .int .i64 0]) ?_ 0 _ rfl; refine bp_ ?_; exact BK117.out) Try.underlying91 rfl (by kernel_rfl)) rfl ?_; exact ⟨by first | rfl | (simp [errW_none, errW_some] <;> rfl) | (simp only [← hji3, ← hji4]; first | rfl | (simp [errW_none, errW_some] <;> rfl)) | (simp [*, errW_none, errW_some] <;> rfl), bl_⟩
      ·replace c20 := Bool.eq_false_iff.mpr c20
       subst c20
       have H1 : ((token_digit.f (bt a0 x8_4)).bind fun t127 => (if t127 = true then ((token_number.f kj4 a0 x8_4).bind fun bt128 => (if bt128.2.2.2.2.2 = 0 then (some (bt128.1, bt128.2.1, bt128.2.2.1, bt128.2.2.2.1, bt128.2.2.2.2.1, 0)) else (some (0, (⟨#[]⟩ : ByteArray), 0, 0, ji4, bt128.2.2.2.2.2)))) else (if (bt a0 x8_4) = 39 then ((token_text.f kj4 a0 x8_4).bind fun bt134 => (if bt134.2.2.2.2.2 = 0 then (some (bt134.1, bt134.2.1, bt134.2.2.1, bt134.2.2.2.1, bt134.2.2.2.2.1, 0)) else (some (0, (⟨#[]⟩ : ByteArray), 0, 0, ji4, bt134.2.2.2.2.2)))) else (if t119.toList = ([] : List UInt8) then (some (0, (⟨#[]⟩ : ByteArray), 0, 0, ji4, 1)) else (some (5, t119, 0, x8_4, wrap64 (x8_4 + (t119.size : Int)), 0)))))) = some (r1, r2, r3, r4, r5, r6) := by rw [if_neg (show ¬ (false = true) by decide)] at H; exact H
       clear H; have H := H1; clear H1; replace H := Option.bind_eq_some_iff.mp H; obtain ⟨t127, A300, H⟩ := H; replace H : (if t127 = true then ((token_number.f kj4 a0 x8_4).bind fun bt128 => (if bt128.2.2.2.2.2 = 0 then (some (bt128.1, bt128.2.1, bt128.2.2.1, bt128.2.2.2.1, bt128.2.2.2.2.1, 0)) else (some (0, (⟨#[]⟩ : ByteArray), 0, 0, ji4, bt128.2.2.2.2.2)))) else (if (bt a0 x8_4) = 39 then ((token_text.f kj4 a0 x8_4).bind fun bt134 => (if bt134.2.2.2.2.2 = 0 then (some (bt134.1, bt134.2.1, bt134.2.2.1, bt134.2.2.2.1, bt134.2.2.2.2.1, 0)) else (some (0, (⟨#[]⟩ : ByteArray), 0, 0, ji4, bt134.2.2.2.2.2)))) else (if t119.toList = ([] : List UInt8) then (some (0, (⟨#[]⟩ : ByteArray), 0, 0, ji4, 1)) else (some (5, t119, 0, x8_4, wrap64 (x8_4 + (t119.size : Int)), 0))))) = some (r1, r2, r3, r4, r5, r6) := H; have A30 := am_ A300; clear A300
       by_cases c31 : t127 = true
       ·subst c31
        have H1 : ((token_number.f kj4 a0 x8_4).bind fun bt128 => (if bt128.2.2.2.2.2 = 0 then (some (bt128.1, bt128.2.1, bt128.2.2.1, bt128.2.2.2.1, bt128.2.2.2.2.1, 0)) else (some (0, (⟨#[]⟩ : ByteArray), 0, 0, ji4, bt128.2.2.2.2.2)))) = some (r1, r2, r3, r4, r5, r6) := by rw [if_pos rfl] at H; exact H
        clear H; have H := H1; clear H1; replace H := Option.bind_eq_some_iff.mp H; obtain ⟨⟨t128, t129, t130, t131, t132, t133⟩, A320, H⟩ := H; replace H : (if t133 = 0 then (some (t128, t129, t130, t131, t132, 0)) else (some (0, (⟨#[]⟩ : ByteArray), 0, 0, ji4, t133))) = some (r1, r2, r3, r4, r5, r6) := H; have A32 := am_ A320; clear A320
        by_cases c33 : t133 = 0
        ·rw [if_pos c33] at H
         have c33b0 : (t133 == 0) = true := beq_iff_eq.mpr c33; have c33b1 : (t133 != 0) = false := bne_eq_false_iff_eq.mpr c33; clear c33; simp only [Option.some.injEq, Prod.mk.injEq] at H; obtain ⟨rfl, rfl, rfl, rfl, rfl, rfl⟩ := H
         go_wp2_with (first | ((with_reducible refine gate_callee (f := 142) rfl ?_); refine goesL_ (some 30) rfl rfl Try.func142 (by kernel_rfl) rfl #[.string a0, .int .i64 x8_4] rfl (by (try simp only [List.map_toArray, List.map_cons, List.map_nil]); first | done | rfl | (simp only [List.length_drop, List.length_take]; rfl)) ?_; (with_reducible refine (token_Sign.calls kj4 a0 x8_4 t119 _ A12.out).mono ?_); rintro e w34 ⟨rfl, hb⟩; refine ⟨_, rfl, ?_⟩; replace BK117 := am_ (blk_below (bk_ BK117.out) hb); replace HB := am_ (below_step (bl_) hb); (try clear hb); (try clear hb2); (try clear hk); (try clear hi); have p18 : 0 ≤ (x8_4 : Int) := of_decide_eq_true (as_); have q18 : x8_4 < (a0.size : Int) := of_decide_eq_true (as_); have hx18 := bt_at a0 x8_4; replace p18 := eq_true p18; replace q18 := eq_true q18) | ((with_reducible refine gate_callee (f := 143) rfl ?_); refine goesL_ (some 43) rfl rfl Try.func143 (by kernel_rfl) rfl #[.int .u8 (bt a0 x8_4)] rfl (by (try simp only [List.map_toArray, List.map_cons, List.map_nil]); first | done | rfl | (simp only [List.length_drop, List.length_take]; rfl)) ?_; (with_reducible refine (token_letter.calls (bt a0 x8_4) false _ A19.out).mono ?_); rintro e w' ⟨rfl, ⟨nd, rfl⟩⟩; refine ⟨_, rfl, ?_⟩; (try (rw [drewN_self w34]; generalize hq_ : World.drewN w34 _ = w34; have n0_ : Aside0 (w34.heap[gb117]? = some (.cells #[.int .i64 0, .string (⟨#[]⟩ : ByteArray), .int .i64 0, .int .i64 0] 91 (0, 0))) := ⟨by rw [← hq_]; exact (bk_ BK117.out)⟩; have n1_ : Aside0 (Below w.heap.size w w34) := ⟨by rw [← hq_]; exact (bl_)⟩; clear BK117 HB hq_; have BK117 := n0_; have HB := n1_; clear n0_ n1_)); have p29 : 0 ≤ (x8_4 : Int) := of_decide_eq_true (as_); have q29 : x8_4 < (a0.size : Int) := of_decide_eq_true (as_); have hx29 := bt_at a0 x8_4; replace p29 := eq_true p29; replace q29 := eq_true q29) | ((with_reducible refine gate_callee (f := 145) rfl ?_); refine goesL_ (some 55) rfl rfl Try.func145 (by kernel_rfl) rfl #[.int .u8 (bt a0 x8_4)] rfl (by (try simp only [List.map_toArray, List.map_cons, List.map_nil]); first | done | rfl | (simp only [List.length_drop, List.length_take]; rfl)) ?_; (with_reducible refine (token_digit.calls (bt a0 x8_4) true _ A30.out).mono ?_); rintro e w' ⟨rfl, ⟨nd, rfl⟩⟩; refine ⟨_, rfl, ?_⟩; (try (rw [drewN_self w34]; generalize hq_ : World.drewN w34 _ = w34; have n0_ : Aside0 (w34.heap[gb117]? = some (.cells #[.int .i64 0, .string (⟨#[]⟩ : ByteArray), .int .i64 0, .int .i64 0] 91 (0, 0))) := ⟨by rw [← hq_]; exact (bk_ BK117.out)⟩; have n1_ : Aside0 (Below w.heap.size w w34) := ⟨by rw [← hq_]; exact (bl_)⟩; clear BK117 HB hq_; have BK117 := n0_; have HB := n1_; clear n0_ n1_))) | ((with_reducible refine gate_callee (f := 146) rfl ?_); refine goesL_ (some 59) rfl rfl Try.func146 (by kernel_rfl) rfl #[.string a0, .int .i64 x8_4] rfl (by (try simp only [List.map_toArray, List.map_cons, List.map_nil]); first | done | rfl | (simp only [List.length_drop, List.length_take]; rfl)) ?_; (with_reducible refine (token_number.calls kj4 a0 x8_4 t128 t129 t130 t131 t132 t133 _ A32.out).mono ?_); rintro e w35 ⟨rfl, hb⟩; refine ⟨_, rfl, ?_⟩; replace BK117 := am_ (blk_below (bk_ BK117.out) hb); replace HB := am_ (below_step (bl_) hb); (try clear hb); (try clear hb2); (try clear hk); (try clear hi); obtain ⟨hcz36_0, hcz36_1, hcz36_2, hcz36_3, hfz36_0, hfz36_1, hfz36_2, hfz36_3⟩ := bw4_ BK117.out))
         refine bodyPost_ret (results_ctt rfl _ _ gb117 91 #[.int .i64 t128, .string t129, .int .i64 t130, .int .i64 t131] (0, 0) _ rfl (by refine bp_ ?_; refine blk_put (cs := #[.int .i64 t128, .string t129, .int .i64 t130, .int .i64 t131]) ?_ 3 _ rfl; refine bp_ ?_; refine blk_put (cs := #[.int .i64 t128, .string t129, .int .i64 t130, .int .i64 t131]) ?_ 2 _ rfl; refine bp_ ?_; refine blk_put (cs := #[.int .i64 t128, .string t129, .int .i64 t130, .int .i64 t131]) ?_ 1 _ rfl; refine bp_ ?_; refine blk_put (cs := #[.int .i64 t128, .string t129, .int .i64 t130, .int .i64 t131]) ?_ 0 _ rfl; refine bp_ ?_; refine blk_put (cs := #[.int .i64 t128, .string t129, .int .i64 t130, .int .i64 0]) ?_ 3 _ rfl; refine bp_ ?_; refine blk_put (cs := #[.int .i64 t128, .string t129, .int .i64 0, .int .i64 0]) ?_ 2 _ rfl; refine bp_ ?_; refine blk_put (cs := #[.int .i64 t128, .string (⟨#[]⟩ : ByteArray), .int .i64 0, .int .i64 0]) ?_ 1 _ rfl; refine bp_ ?_; refine blk_put (cs := #[.int .i64 0, .string (⟨#[]⟩ : ByteArray), .int .i64 0, .int .i64 0]) ?_ 0 _ rfl; refine bp_ ?_; exact BK117.out) Try.underlying91 rfl (by kernel_rfl)) rfl ?_; exact ⟨by first | rfl | (simp [errW_none, errW_some] <;> rfl) | (simp only [← hji3, ← hji4]; first | rfl | (simp [errW_none, errW_some] <;> rfl)) | (simp [*, errW_none, errW_some] <;> rfl), bl_⟩
        ·rw [if_neg c33] at H
         have c33b0 : (t133 == 0) = false := beq_eq_false_iff_ne.mpr c33; have c33b1 : (t133 != 0) = true := bne_iff_ne.mpr c33; simp only [Option.some.injEq, Prod.mk.injEq] at H; obtain ⟨rfl, rfl, rfl, rfl, rfl, rfl⟩ := H
         go_wp2_with (first | ((with_reducible refine gate_callee (f := 142) rfl ?_); refine goesL_ (some 30) rfl rfl Try.func142 (by kernel_rfl) rfl #[.string a0, .int .i64 x8_4] rfl (by (try simp only [List.map_toArray, List.map_cons, List.map_nil]); first | done | rfl | (simp only [List.length_drop, List.length_take]; rfl)) ?_; (with_reducible refine (token_Sign.calls kj4 a0 x8_4 t119 _ A12.out).mono ?_); rintro e w37 ⟨rfl, hb⟩; refine ⟨_, rfl, ?_⟩; replace BK117 := am_ (blk_below (bk_ BK117.out) hb); replace HB := am_ (below_step (bl_) hb); (try clear hb); (try clear hb2); (try clear hk); (try clear hi); have p18 : 0 ≤ (x8_4 : Int) := of_decide_eq_true (as_); have q18 : x8_4 < (a0.size : Int) := of_decide_eq_true (as_); have hx18 := bt_at a0 x8_4; replace p18 := eq_true p18; replace q18 := eq_true q18) | ((with_reducible refine gate_callee (f := 143) rfl ?_); refine goesL_ (some 43) rfl rfl Try.func143 (by kernel_rfl) rfl #[.int .u8 (bt a0 x8_4)] rfl (by (try simp only [List.map_toArray, List.map_cons, List.map_nil]); first | done | rfl | (simp only [List.length_drop, List.length_take]; rfl)) ?_; (with_reducible refine (token_letter.calls (bt a0 x8_4) false _ A19.out).mono ?_); rintro e w' ⟨rfl, ⟨nd, rfl⟩⟩; refine ⟨_, rfl, ?_⟩; (try (rw [drewN_self w37]; generalize hq_ : World.drewN w37 _ = w37; have n0_ : Aside0 (w37.heap[gb117]? = some (.cells #[.int .i64 0, .string (⟨#[]⟩ : ByteArray), .int .i64 0, .int .i64 0] 91 (0, 0))) := ⟨by rw [← hq_]; exact (bk_ BK117.out)⟩; have n1_ : Aside0 (Below w.heap.size w w37) := ⟨by rw [← hq_]; exact (bl_)⟩; clear BK117 HB hq_; have BK117 := n0_; have HB := n1_; clear n0_ n1_)); have p29 : 0 ≤ (x8_4 : Int) := of_decide_eq_true (as_); have q29 : x8_4 < (a0.size : Int) := of_decide_eq_true (as_); have hx29 := bt_at a0 x8_4; replace p29 := eq_true p29; replace q29 := eq_true q29) | ((with_reducible refine gate_callee (f := 145) rfl ?_); refine goesL_ (some 55) rfl rfl Try.func145 (by kernel_rfl) rfl #[.int .u8 (bt a0 x8_4)] rfl (by (try simp only [List.map_toArray, List.map_cons, List.map_nil]); first | done | rfl | (simp only [List.length_drop, List.length_take]; rfl)) ?_; (with_reducible refine (token_digit.calls (bt a0 x8_4) true _ A30.out).mono ?_); rintro e w' ⟨rfl, ⟨nd, rfl⟩⟩; refine ⟨_, rfl, ?_⟩; (try (rw [drewN_self w37]; generalize hq_ : World.drewN w37 _ = w37; have n0_ : Aside0 (w37.heap[gb117]? = some (.cells #[.int .i64 0, .string (⟨#[]⟩ : ByteArray), .int .i64 0, .int .i64 0] 91 (0, 0))) := ⟨by rw [← hq_]; exact (bk_ BK117.out)⟩; have n1_ : Aside0 (Below w.heap.size w w37) := ⟨by rw [← hq_]; exact (bl_)⟩; clear BK117 HB hq_; have BK117 := n0_; have HB := n1_; clear n0_ n1_))) | ((with_reducible refine gate_callee (f := 146) rfl ?_); refine goesL_ (some 59) rfl rfl Try.func146 (by kernel_rfl) rfl #[.string a0, .int .i64 x8_4] rfl (by (try simp only [List.map_toArray, List.map_cons, List.map_nil]); first | done | rfl | (simp only [List.length_drop, List.length_take]; rfl)) ?_; (with_reducible refine (token_number.calls kj4 a0 x8_4 t128 t129 t130 t131 t132 t133 _ A32.out).mono ?_); rintro e w38 ⟨rfl, hb⟩; refine ⟨_, rfl, ?_⟩; replace BK117 := am_ (blk_below (bk_ BK117.out) hb); replace HB := am_ (below_step (bl_) hb); (try clear hb); (try clear hb2); (try clear hk); (try clear hi); obtain ⟨hcz39_0, hcz39_1, hcz39_2, hcz39_3, hfz39_0, hfz39_1, hfz39_2, hfz39_3⟩ := bw4_ BK117.out))
         refine bodyPost_ret (results_ctt rfl _ _ gb117 91 #[.int .i64 0, .string (⟨#[]⟩ : ByteArray), .int .i64 0, .int .i64 0] (0, 0) _ rfl (by refine bp_ ?_; refine blk_put (cs := #[.int .i64 0, .string (⟨#[]⟩ : ByteArray), .int .i64 0, .int .i64 t131]) ?_ 3 _ rfl; refine bp_ ?_; refine blk_put (cs := #[.int .i64 0, .string (⟨#[]⟩ : ByteArray), .int .i64 t130, .int .i64 t131]) ?_ 2 _ rfl; refine bp_ ?_; refine blk_put (cs := #[.int .i64 0, .string t129, .int .i64 t130, .int .i64 t131]) ?_ 1 _ rfl; refine bp_ ?_; refine blk_put (cs := #[.int .i64 t128, .string t129, .int .i64 t130, .int .i64 t131]) ?_ 0 _ rfl; refine bp_ ?_; refine blk_put (cs := #[.int .i64 t128, .string t129, .int .i64 t130, .int .i64 0]) ?_ 3 _ rfl; refine bp_ ?_; refine blk_put (cs := #[.int .i64 t128, .string t129, .int .i64 0, .int .i64 0]) ?_ 2 _ rfl; refine bp_ ?_; refine blk_put (cs := #[.int .i64 t128, .string (⟨#[]⟩ : ByteArray), .int .i64 0, .int .i64 0]) ?_ 1 _ rfl; refine bp_ ?_; refine blk_put (cs := #[.int .i64 0, .string (⟨#[]⟩ : ByteArray), .int .i64 0, .int .i64 0]) ?_ 0 _ rfl; refine bp_ ?_; exact BK117.out) Try.underlying91 rfl (by kernel_rfl)) rfl ?_; exact ⟨by first | rfl | (simp [errW_none, errW_some] <;> rfl) | (simp only [← hji3, ← hji4]; first | rfl | (simp [errW_none, errW_some] <;> rfl)) | (simp [*, errW_none, errW_some] <;> rfl), bl_⟩
       ·replace c31 := Bool.eq_false_iff.mpr c31
        subst c31
        have H1 : (if (bt a0 x8_4) = 39 then ((token_text.f kj4 a0 x8_4).bind fun bt134 => (if bt134.2.2.2.2.2 = 0 then (some (bt134.1, bt134.2.1, bt134.2.2.1, bt134.2.2.2.1, bt134.2.2.2.2.1, 0)) else (some (0, (⟨#[]⟩ : ByteArray), 0, 0, ji4, bt134.2.2.2.2.2)))) else (if t119.toList = ([] : List UInt8) then (some (0, (⟨#[]⟩ : ByteArray), 0, 0, ji4, 1)) else (some (5, t119, 0, x8_4, wrap64 (x8_4 + (t119.size : Int)), 0)))) = some (r1, r2, r3, r4, r5, r6) := by rw [if_neg (show ¬ (false = true) by decide)] at H; exact H
        clear H; have H := H1; clear H1
        by_cases c41 : (bt a0 x8_4) = 39
        ·rw [if_pos c41] at H
         have c41b0 : ((bt a0 x8_4) == 39) = true := beq_iff_eq.mpr c41; have c41b1 : ((bt a0 x8_4) != 39) = false := bne_eq_false_iff_eq.mpr c41; clear c41; replace H := Option.bind_eq_some_iff.mp H; obtain ⟨⟨t134, t135, t136, t137, t138, t139⟩, A420, H⟩ := H; replace H : (if t139 = 0 then (some (t134, t135, t136, t137, t138, 0)) else (some (0, (⟨#[]⟩ : ByteArray), 0, 0, ji4, t139))) = some (r1, r2, r3, r4, r5, r6) := H; have A42 := am_ A420; clear A420
         by_cases c43 : t139 = 0
         ·rw [if_pos c43] at H
          have c43b0 : (t139 == 0) = true := beq_iff_eq.mpr c43; have c43b1 : (t139 != 0) = false := bne_eq_false_iff_eq.mpr c43; clear c43; simp only [Option.some.injEq, Prod.mk.injEq] at H; obtain ⟨rfl, rfl, rfl, rfl, rfl, rfl⟩ := H
          go_wp2_with (first | ((with_reducible refine gate_callee (f := 142) rfl ?_); refine goesL_ (some 30) rfl rfl Try.func142 (by kernel_rfl) rfl #[.string a0, .int .i64 x8_4] rfl (by (try simp only [List.map_toArray, List.map_cons, List.map_nil]); first | done | rfl | (simp only [List.length_drop, List.length_take]; rfl)) ?_; (with_reducible refine (token_Sign.calls kj4 a0 x8_4 t119 _ A12.out).mono ?_); rintro e w44 ⟨rfl, hb⟩; refine ⟨_, rfl, ?_⟩; replace BK117 := am_ (blk_below (bk_ BK117.out) hb); replace HB := am_ (below_step (bl_) hb); (try clear hb); (try clear hb2); (try clear hk); (try clear hi); have p18 : 0 ≤ (x8_4 : Int) := of_decide_eq_true (as_); have q18 : x8_4 < (a0.size : Int) := of_decide_eq_true (as_); have hx18 := bt_at a0 x8_4; replace p18 := eq_true p18; replace q18 := eq_true q18) | ((with_reducible refine gate_callee (f := 143) rfl ?_); refine goesL_ (some 43) rfl rfl Try.func143 (by kernel_rfl) rfl #[.int .u8 (bt a0 x8_4)] rfl (by (try simp only [List.map_toArray, List.map_cons, List.map_nil]); first | done | rfl | (simp only [List.length_drop, List.length_take]; rfl)) ?_; (with_reducible refine (token_letter.calls (bt a0 x8_4) false _ A19.out).mono ?_); rintro e w' ⟨rfl, ⟨nd, rfl⟩⟩; refine ⟨_, rfl, ?_⟩; (try (rw [drewN_self w44]; generalize hq_ : World.drewN w44 _ = w44; have n0_ : Aside0 (w44.heap[gb117]? = some (.cells #[.int .i64 0, .string (⟨#[]⟩ : ByteArray), .int .i64 0, .int .i64 0] 91 (0, 0))) := ⟨by rw [← hq_]; exact (bk_ BK117.out)⟩; have n1_ : Aside0 (Below w.heap.size w w44) := ⟨by rw [← hq_]; exact (bl_)⟩; clear BK117 HB hq_; have BK117 := n0_; have HB := n1_; clear n0_ n1_)); have p29 : 0 ≤ (x8_4 : Int) := of_decide_eq_true (as_); have q29 : x8_4 < (a0.size : Int) := of_decide_eq_true (as_); have hx29 := bt_at a0 x8_4; replace p29 := eq_true p29; replace q29 := eq_true q29) | ((with_reducible refine gate_callee (f := 145) rfl ?_); refine goesL_ (some 55) rfl rfl Try.func145 (by kernel_rfl) rfl #[.int .u8 (bt a0 x8_4)] rfl (by (try simp only [List.map_toArray, List.map_cons, List.map_nil]); first | done | rfl | (simp only [List.length_drop, List.length_take]; rfl)) ?_; (with_reducible refine (token_digit.calls (bt a0 x8_4) false _ A30.out).mono ?_); rintro e w' ⟨rfl, ⟨nd, rfl⟩⟩; refine ⟨_, rfl, ?_⟩; (try (rw [drewN_self w44]; generalize hq_ : World.drewN w44 _ = w44; have n0_ : Aside0 (w44.heap[gb117]? = some (.cells #[.int .i64 0, .string (⟨#[]⟩ : ByteArray), .int .i64 0, .int .i64 0] 91 (0, 0))) := ⟨by rw [← hq_]; exact (bk_ BK117.out)⟩; have n1_ : Aside0 (Below w.heap.size w w44) := ⟨by rw [← hq_]; exact (bl_)⟩; clear BK117 HB hq_; have BK117 := n0_; have HB := n1_; clear n0_ n1_)); have p40 : 0 ≤ (x8_4 : Int) := of_decide_eq_true (as_); have q40 : x8_4 < (a0.size : Int) := of_decide_eq_true (as_); have hx40 := bt_at a0 x8_4; replace p40 := eq_true p40; replace q40 := eq_true q40) | ((with_reducible refine gate_callee (f := 147) rfl ?_); refine goesL_ (some 71) rfl rfl Try.func147 (by kernel_rfl) rfl #[.string a0, .int .i64 x8_4] rfl (by (try simp only [List.map_toArray, List.map_cons, List.map_nil]); first | done | rfl | (simp only [List.length_drop, List.length_take]; rfl)) ?_; (with_reducible refine (token_text.calls kj4 a0 x8_4 t134 t135 t136 t137 t138 t139 _ A42.out).mono ?_); rintro e w45 ⟨rfl, hb⟩; refine ⟨_, rfl, ?_⟩; replace BK117 := am_ (blk_below (bk_ BK117.out) hb); replace HB := am_ (below_step (bl_) hb); (try clear hb); (try clear hb2); (try clear hk); (try clear hi); obtain ⟨hcz46_0, hcz46_1, hcz46_2, hcz46_3, hfz46_0, hfz46_1, hfz46_2, hfz46_3⟩ := bw4_ BK117.out))
          refine bodyPost_ret (results_ctt rfl _ _ gb117 91 #[.int .i64 t134, .string t135, .int .i64 t136, .int .i64 t137] (0, 0) _ rfl (by refine bp_ ?_; refine blk_put (cs := #[.int .i64 t134, .string t135, .int .i64 t136, .int .i64 t137]) ?_ 3 _ rfl; refine bp_ ?_; refine blk_put (cs := #[.int .i64 t134, .string t135, .int .i64 t136, .int .i64 t137]) ?_ 2 _ rfl; refine bp_ ?_; refine blk_put (cs := #[.int .i64 t134, .string t135, .int .i64 t136, .int .i64 t137]) ?_ 1 _ rfl; refine bp_ ?_; refine blk_put (cs := #[.int .i64 t134, .string t135, .int .i64 t136, .int .i64 t137]) ?_ 0 _ rfl; refine bp_ ?_; refine blk_put (cs := #[.int .i64 t134, .string t135, .int .i64 t136, .int .i64 0]) ?_ 3 _ rfl; refine bp_ ?_; refine blk_put (cs := #[.int .i64 t134, .string t135, .int .i64 0, .int .i64 0]) ?_ 2 _ rfl; refine bp_ ?_; refine blk_put (cs := #[.int .i64 t134, .string (⟨#[]⟩ : ByteArray), .int .i64 0, .int .i64 0]) ?_ 1 _ rfl; refine bp_ ?_; refine blk_put (cs := #[.int .i64 0, .string (⟨#[]⟩ : ByteArray), .int .i64 0, .int .i64 0]) ?_ 0 _ rfl; refine bp_ ?_; exact BK117.out) Try.underlying91 rfl (by kernel_rfl)) rfl ?_; exact ⟨by first | rfl | (simp [errW_none, errW_some] <;> rfl) | (simp only [← hji3, ← hji4]; first | rfl | (simp [errW_none, errW_some] <;> rfl)) | (simp [*, errW_none, errW_some] <;> rfl), bl_⟩
         ·rw [if_neg c43] at H
          have c43b0 : (t139 == 0) = false := beq_eq_false_iff_ne.mpr c43; have c43b1 : (t139 != 0) = true := bne_iff_ne.mpr c43; simp only [Option.some.injEq, Prod.mk.injEq] at H; obtain ⟨rfl, rfl, rfl, rfl, rfl, rfl⟩ := H
          go_wp2_with (first | ((with_reducible refine gate_callee (f := 142) rfl ?_); refine goesL_ (some 30) rfl rfl Try.func142 (by kernel_rfl) rfl #[.string a0, .int .i64 x8_4] rfl (by (try simp only [List.map_toArray, List.map_cons, List.map_nil]); first | done | rfl | (simp only [List.length_drop, List.length_take]; rfl)) ?_; (with_reducible refine (token_Sign.calls kj4 a0 x8_4 t119 _ A12.out).mono ?_); rintro e w47 ⟨rfl, hb⟩; refine ⟨_, rfl, ?_⟩; replace BK117 := am_ (blk_below (bk_ BK117.out) hb); replace HB := am_ (below_step (bl_) hb); (try clear hb); (try clear hb2); (try clear hk); (try clear hi); have p18 : 0 ≤ (x8_4 : Int) := of_decide_eq_true (as_); have q18 : x8_4 < (a0.size : Int) := of_decide_eq_true (as_); have hx18 := bt_at a0 x8_4; replace p18 := eq_true p18; replace q18 := eq_true q18) | ((with_reducible refine gate_callee (f := 143) rfl ?_); refine goesL_ (some 43) rfl rfl Try.func143 (by kernel_rfl) rfl #[.int .u8 (bt a0 x8_4)] rfl (by (try simp only [List.map_toArray, List.map_cons, List.map_nil]); first | done | rfl | (simp only [List.length_drop, List.length_take]; rfl)) ?_; (with_reducible refine (token_letter.calls (bt a0 x8_4) false _ A19.out).mono ?_); rintro e w' ⟨rfl, ⟨nd, rfl⟩⟩; refine ⟨_, rfl, ?_⟩; (try (rw [drewN_self w47]; generalize hq_ : World.drewN w47 _ = w47; have n0_ : Aside0 (w47.heap[gb117]? = some (.cells #[.int .i64 0, .string (⟨#[]⟩ : ByteArray), .int .i64 0, .int .i64 0] 91 (0, 0))) := ⟨by rw [← hq_]; exact (bk_ BK117.out)⟩; have n1_ : Aside0 (Below w.heap.size w w47) := ⟨by rw [← hq_]; exact (bl_)⟩; clear BK117 HB hq_; have BK117 := n0_; have HB := n1_; clear n0_ n1_)); have p29 : 0 ≤ (x8_4 : Int) := of_decide_eq_true (as_); have q29 : x8_4 < (a0.size : Int) := of_decide_eq_true (as_); have hx29 := bt_at a0 x8_4; replace p29 := eq_true p29; replace q29 := eq_true q29) | ((with_reducible refine gate_callee (f := 145) rfl ?_); refine goesL_ (some 55) rfl rfl Try.func145 (by kernel_rfl) rfl #[.int .u8 (bt a0 x8_4)] rfl (by (try simp only [List.map_toArray, List.map_cons, List.map_nil]); first | done | rfl | (simp only [List.length_drop, List.length_take]; rfl)) ?_; (with_reducible refine (token_digit.calls (bt a0 x8_4) false _ A30.out).mono ?_); rintro e w' ⟨rfl, ⟨nd, rfl⟩⟩; refine ⟨_, rfl, ?_⟩; (try (rw [drewN_self w47]; generalize hq_ : World.drewN w47 _ = w47; have n0_ : Aside0 (w47.heap[gb117]? = some (.cells #[.int .i64 0, .string (⟨#[]⟩ : ByteArray), .int .i64 0, .int .i64 0] 91 (0, 0))) := ⟨by rw [← hq_]; exact (bk_ BK117.out)⟩; have n1_ : Aside0 (Below w.heap.size w w47) := ⟨by rw [← hq_]; exact (bl_)⟩; clear BK117 HB hq_; have BK117 := n0_; have HB := n1_; clear n0_ n1_)); have p40 : 0 ≤ (x8_4 : Int) := of_decide_eq_true (as_); have q40 : x8_4 < (a0.size : Int) := of_decide_eq_true (as_); have hx40 := bt_at a0 x8_4; replace p40 := eq_true p40; replace q40 := eq_true q40) | ((with_reducible refine gate_callee (f := 147) rfl ?_); refine goesL_ (some 71) rfl rfl Try.func147 (by kernel_rfl) rfl #[.string a0, .int .i64 x8_4] rfl (by (try simp only [List.map_toArray, List.map_cons, List.map_nil]); first | done | rfl | (simp only [List.length_drop, List.length_take]; rfl)) ?_; (with_reducible refine (token_text.calls kj4 a0 x8_4 t134 t135 t136 t137 t138 t139 _ A42.out).mono ?_); rintro e w48 ⟨rfl, hb⟩; refine ⟨_, rfl, ?_⟩; replace BK117 := am_ (blk_below (bk_ BK117.out) hb); replace HB := am_ (below_step (bl_) hb); (try clear hb); (try clear hb2); (try clear hk); (try clear hi); obtain ⟨hcz49_0, hcz49_1, hcz49_2, hcz49_3, hfz49_0, hfz49_1, hfz49_2, hfz49_3⟩ := bw4_ BK117.out))
          refine bodyPost_ret (results_ctt rfl _ _ gb117 91 #[.int .i64 0, .string (⟨#[]⟩ : ByteArray), .int .i64 0, .int .i64 0] (0, 0) _ rfl (by refine bp_ ?_; refine blk_put (cs := #[.int .i64 0, .string (⟨#[]⟩ : ByteArray), .int .i64 0, .int .i64 t137]) ?_ 3 _ rfl; refine bp_ ?_; refine blk_put (cs := #[.int .i64 0, .string (⟨#[]⟩ : ByteArray), .int .i64 t136, .int .i64 t137]) ?_ 2 _ rfl; refine bp_ ?_; refine blk_put (cs := #[.int .i64 0, .string t135, .int .i64 t136, .int .i64 t137]) ?_ 1 _ rfl; refine bp_ ?_; refine blk_put (cs := #[.int .i64 t134, .string t135, .int .i64 t136, .int .i64 t137]) ?_ 0 _ rfl; refine bp_ ?_; refine blk_put (cs := #[.int .i64 t134, .string t135, .int .i64 t136, .int .i64 0]) ?_ 3 _ rfl; refine bp_ ?_; refine blk_put (cs := #[.int .i64 t134, .string t135, .int .i64 0, .int .i64 0]) ?_ 2 _ rfl; refine bp_ ?_; refine blk_put (cs := #[.int .i64 t134, .string (⟨#[]⟩ : ByteArray), .int .i64 0, .int .i64 0]) ?_ 1 _ rfl; refine bp_ ?_; refine blk_put (cs := #[.int .i64 0, .string (⟨#[]⟩ : ByteArray), .int .i64 0, .int .i64 0]) ?_ 0 _ rfl; refine bp_ ?_; exact BK117.out) Try.underlying91 rfl (by kernel_rfl)) rfl ?_; exact ⟨by first | rfl | (simp [errW_none, errW_some] <;> rfl) | (simp only [← hji3, ← hji4]; first | rfl | (simp [errW_none, errW_some] <;> rfl)) | (simp [*, errW_none, errW_some] <;> rfl), bl_⟩
        ·rw [if_neg c41] at H
         have c41b0 : ((bt a0 x8_4) == 39) = false := beq_eq_false_iff_ne.mpr c41; have c41b1 : ((bt a0 x8_4) != 39) = true := bne_iff_ne.mpr c41
         by_cases c50 : t119.toList = ([] : List UInt8)
         ·rw [if_pos c50] at H
          have c50b0 : (t119.toList == ([] : List UInt8)) = true := beq_iff_eq.mpr c50; have c50b1 : (t119.toList != ([] : List UInt8)) = false := bne_eq_false_iff_eq.mpr c50; clear c50; simp only [Option.some.injEq, Prod.mk.injEq] at H; obtain ⟨rfl, rfl, rfl, rfl, rfl, rfl⟩ := H
          go_wp2_with (first | ((with_reducible refine gate_callee (f := 142) rfl ?_); refine goesL_ (some 30) rfl rfl Try.func142 (by kernel_rfl) rfl #[.string a0, .int .i64 x8_4] rfl (by (try simp only [List.map_toArray, List.map_cons, List.map_nil]); first | done | rfl | (simp only [List.length_drop, List.length_take]; rfl)) ?_; (with_reducible refine (token_Sign.calls kj4 a0 x8_4 t119 _ A12.out).mono ?_); rintro e w51 ⟨rfl, hb⟩; refine ⟨_, rfl, ?_⟩; replace BK117 := am_ (blk_below (bk_ BK117.out) hb); replace HB := am_ (below_step (bl_) hb); (try clear hb); (try clear hb2); (try clear hk); (try clear hi); have p18 : 0 ≤ (x8_4 : Int) := of_decide_eq_true (as_); have q18 : x8_4 < (a0.size : Int) := of_decide_eq_true (as_); have hx18 := bt_at a0 x8_4; replace p18 := eq_true p18; replace q18 := eq_true q18) | ((with_reducible refine gate_callee (f := 143) rfl ?_); refine goesL_ (some 43) rfl rfl Try.func143 (by kernel_rfl) rfl #[.int .u8 (bt a0 x8_4)] rfl (by (try simp only [List.map_toArray, List.map_cons, List.map_nil]); first | done | rfl | (simp only [List.length_drop, List.length_take]; rfl)) ?_; (with_reducible refine (token_letter.calls (bt a0 x8_4) false _ A19.out).mono ?_); rintro e w' ⟨rfl, ⟨nd, rfl⟩⟩; refine ⟨_, rfl, ?_⟩; (try (rw [drewN_self w51]; generalize hq_ : World.drewN w51 _ = w51; have n0_ : Aside0 (w51.heap[gb117]? = some (.cells #[.int .i64 0, .string (⟨#[]⟩ : ByteArray), .int .i64 0, .int .i64 0] 91 (0, 0))) := ⟨by rw [← hq_]; exact (bk_ BK117.out)⟩; have n1_ : Aside0 (Below w.heap.size w w51) := ⟨by rw [← hq_]; exact (bl_)⟩; clear BK117 HB hq_; have BK117 := n0_; have HB := n1_; clear n0_ n1_)); have p29 : 0 ≤ (x8_4 : Int) := of_decide_eq_true (as_); have q29 : x8_4 < (a0.size : Int) := of_decide_eq_true (as_); have hx29 := bt_at a0 x8_4; replace p29 := eq_true p29; replace q29 := eq_true q29) | ((with_reducible refine gate_callee (f := 145) rfl ?_); refine goesL_ (some 55) rfl rfl Try.func145 (by kernel_rfl) rfl #[.int .u8 (bt a0 x8_4)] rfl (by (try simp only [List.map_toArray, List.map_cons, List.map_nil]); first | done | rfl | (simp only [List.length_drop, List.length_take]; rfl)) ?_; (with_reducible refine (token_digit.calls (bt a0 x8_4) false _ A30.out).mono ?_); rintro e w' ⟨rfl, ⟨nd, rfl⟩⟩; refine ⟨_, rfl, ?_⟩; (try (rw [drewN_self w51]; generalize hq_ : World.drewN w51 _ = w51; have n0_ : Aside0 (w51.heap[gb117]? = some (.cells #[.int .i64 0, .string (⟨#[]⟩ : ByteArray), .int .i64 0, .int .i64 0] 91 (0, 0))) := ⟨by rw [← hq_]; exact (bk_ BK117.out)⟩; have n1_ : Aside0 (Below w.heap.size w w51) := ⟨by rw [← hq_]; exact (bl_)⟩; clear BK117 HB hq_; have BK117 := n0_; have HB := n1_; clear n0_ n1_)); have p40 : 0 ≤ (x8_4 : Int) := of_decide_eq_true (as_); have q40 : x8_4 < (a0.size : Int) := of_decide_eq_true (as_); have hx40 := bt_at a0 x8_4; replace p40 := eq_true p40; replace q40 := eq_true q40; obtain ⟨hcz52_0, hcz52_1, hcz52_2, hcz52_3, hfz52_0, hfz52_1, hfz52_2, hfz52_3⟩ := bw4_ BK117.out))
          refine bodyPost_ret (results_ctt rfl _ _ gb117 91 #[.int .i64 0, .string (⟨#[]⟩ : ByteArray), .int .i64 0, .int .i64 0] (0, 0) _ rfl (by refine bp_ ?_; refine blk_put (cs := #[.int .i64 0, .string (⟨#[]⟩ : ByteArray), .int .i64 0, .int .i64 0]) ?_ 3 _ rfl; refine bp_ ?_; refine blk_put (cs := #[.int .i64 0, .string (⟨#[]⟩ : ByteArray), .int .i64 0, .int .i64 0]) ?_ 2 _ rfl; refine bp_ ?_; refine blk_put (cs := #[.int .i64 0, .string (⟨#[]⟩ : ByteArray), .int .i64 0, .int .i64 0]) ?_ 1 _ rfl; refine bp_ ?_; refine blk_put (cs := #[.int .i64 0, .string (⟨#[]⟩ : ByteArray), .int .i64 0, .int .i64 0]) ?_ 0 _ rfl; refine bp_ ?_; exact BK117.out) Try.underlying91 rfl (by kernel_rfl)) rfl ?_; exact ⟨by first | rfl | (simp [errW_none, errW_some] <;> rfl) | (simp only [← hji3, ← hji4]; first | rfl | (simp [errW_none, errW_some] <;> rfl)) | (simp [*, errW_none, errW_some] <;> rfl), bl_⟩
         ·rw [if_neg c50] at H
          have c50b0 : (t119.toList == ([] : List UInt8)) = false := beq_eq_false_iff_ne.mpr c50; have c50b1 : (t119.toList != ([] : List UInt8)) = true := bne_iff_ne.mpr c50; simp only [Option.some.injEq, Prod.mk.injEq] at H; obtain ⟨rfl, rfl, rfl, rfl, rfl, rfl⟩ := H
          go_wp2_with (first | ((with_reducible refine gate_callee (f := 142) rfl ?_); refine goesL_ (some 30) rfl rfl Try.func142 (by kernel_rfl) rfl #[.string a0, .int .i64 x8_4] rfl (by (try simp only [List.map_toArray, List.map_cons, List.map_nil]); first | done | rfl | (simp only [List.length_drop, List.length_take]; rfl)) ?_; (with_reducible refine (token_Sign.calls kj4 a0 x8_4 t119 _ A12.out).mono ?_); rintro e w53 ⟨rfl, hb⟩; refine ⟨_, rfl, ?_⟩; replace BK117 := am_ (blk_below (bk_ BK117.out) hb); replace HB := am_ (below_step (bl_) hb); (try clear hb); (try clear hb2); (try clear hk); (try clear hi); have p18 : 0 ≤ (x8_4 : Int) := of_decide_eq_true (as_); have q18 : x8_4 < (a0.size : Int) := of_decide_eq_true (as_); have hx18 := bt_at a0 x8_4; replace p18 := eq_true p18; replace q18 := eq_true q18) | ((with_reducible refine gate_callee (f := 143) rfl ?_); refine goesL_ (some 43) rfl rfl Try.func143 (by kernel_rfl) rfl #[.int .u8 (bt a0 x8_4)] rfl (by (try simp only [List.map_toArray, List.map_cons, List.map_nil]); first | done | rfl | (simp only [List.length_drop, List.length_take]; rfl)) ?_; (with_reducible refine (token_letter.calls (bt a0 x8_4) false _ A19.out).mono ?_); rintro e w' ⟨rfl, ⟨nd, rfl⟩⟩; refine ⟨_, rfl, ?_⟩; (try (rw [drewN_self w53]; generalize hq_ : World.drewN w53 _ = w53; have n0_ : Aside0 (w53.heap[gb117]? = some (.cells #[.int .i64 0, .string (⟨#[]⟩ : ByteArray), .int .i64 0, .int .i64 0] 91 (0, 0))) := ⟨by rw [← hq_]; exact (bk_ BK117.out)⟩; have n1_ : Aside0 (Below w.heap.size w w53) := ⟨by rw [← hq_]; exact (bl_)⟩; clear BK117 HB hq_; have BK117 := n0_; have HB := n1_; clear n0_ n1_)); have p29 : 0 ≤ (x8_4 : Int) := of_decide_eq_true (as_); have q29 : x8_4 < (a0.size : Int) := of_decide_eq_true (as_); have hx29 := bt_at a0 x8_4; replace p29 := eq_true p29; replace q29 := eq_true q29) | ((with_reducible refine gate_callee (f := 145) rfl ?_); refine goesL_ (some 55) rfl rfl Try.func145 (by kernel_rfl) rfl #[.int .u8 (bt a0 x8_4)] rfl (by (try simp only [List.map_toArray, List.map_cons, List.map_nil]); first | done | rfl | (simp only [List.length_drop, List.length_take]; rfl)) ?_; (with_reducible refine (token_digit.calls (bt a0 x8_4) false _ A30.out).mono ?_); rintro e w' ⟨rfl, ⟨nd, rfl⟩⟩; refine ⟨_, rfl, ?_⟩; (try (rw [drewN_self w53]; generalize hq_ : World.drewN w53 _ = w53; have n0_ : Aside0 (w53.heap[gb117]? = some (.cells #[.int .i64 0, .string (⟨#[]⟩ : ByteArray), .int .i64 0, .int .i64 0] 91 (0, 0))) := ⟨by rw [← hq_]; exact (bk_ BK117.out)⟩; have n1_ : Aside0 (Below w.heap.size w w53) := ⟨by rw [← hq_]; exact (bl_)⟩; clear BK117 HB hq_; have BK117 := n0_; have HB := n1_; clear n0_ n1_)); have p40 : 0 ≤ (x8_4 : Int) := of_decide_eq_true (as_); have q40 : x8_4 < (a0.size : Int) := of_decide_eq_true (as_); have hx40 := bt_at a0 x8_4; replace p40 := eq_true p40; replace q40 := eq_true q40; obtain ⟨hcz54_0, hcz54_1, hcz54_2, hcz54_3, hfz54_0, hfz54_1, hfz54_2, hfz54_3⟩ := bw4_ BK117.out))
          refine bodyPost_ret (results_ctt rfl _ _ gb117 91 #[.int .i64 5, .string t119, .int .i64 0, .int .i64 x8_4] (0, 0) _ rfl (by refine bp_ ?_; refine blk_put (cs := #[.int .i64 5, .string t119, .int .i64 0, .int .i64 0]) ?_ 3 _ rfl; refine bp_ ?_; refine blk_put (cs := #[.int .i64 5, .string t119, .int .i64 0, .int .i64 0]) ?_ 2 _ rfl; refine bp_ ?_; refine blk_put (cs := #[.int .i64 5, .string (⟨#[]⟩ : ByteArray), .int .i64 0, .int .i64 0]) ?_ 1 _ rfl; refine bp_ ?_; refine blk_put (cs := #[.int .i64 0, .string (⟨#[]⟩ : ByteArray), .int .i64 0, .int .i64 0]) ?_ 0 _ rfl; refine bp_ ?_; exact BK117.out) Try.underlying91 rfl (by kernel_rfl)) rfl ?_; exact ⟨by first | rfl | (simp [errW_none, errW_some] <;> rfl) | (simp only [← hji3, ← hji4]; first | rfl | (simp [errW_none, errW_some] <;> rfl)) | (simp [*, errW_none, errW_some] <;> rfl), bl_⟩
     ·rw [if_neg c17] at H
      exact absurd H (by simp)
    ·rw [if_neg c16] at H
     exact absurd H (by simp)
def token_All.l0 : Nat → ByteArray → List (S91) → Int → Option ((List (S91)) × Int)
 | 0, _, _, _ => none
 | k + 1, x0, x4, x5 => if (x4.length : Int) < 1000 then ((token_One.f k x0 x5).bind fun bt140 => (if bt140.2.2.2.2.2 = 0 then (if x4.length < 3518437208883 then ((some (x4 ++ [(⟨bt140.1, bt140.2.1, bt140.2.2.1, bt140.2.2.2.1⟩ : S91)] : List (S91))).bind fun y147 => (if bt140.1 = 0 then (some (y147, 0)) else (token_All.l0 k x0 y147 bt140.2.2.2.2.1))) else (none)) else (some (([] : List (S91)), bt140.2.2.2.2.2)))) else (some (([] : List (S91)), 4))
def token_All.f (k : Nat) (a0 : ByteArray) : Option ((List (S91)) × Int) := token_All.l0 k a0 ([] : List (S91)) 0
theorem token_All.mono_l : ∀ k, (∀ y0 y1 y2, LeO (token_All.l0 k y0 y1 y2) (token_All.l0 (k + 1) y0 y1 y2))
 | 0 => fun _ _ _ r h => by simp [token_All.l0] at h
 | k + 1 => by
  have ih0 := token_All.mono_l k
  ·intro y0 y1 y2
   unfold token_All.l0
   repeat' first
   | (with_reducible exact ih0 _ _ _)
   | (with_reducible exact token_One.mono _ _ _)
   | (with_reducible exact LeO.refl _)
   | (with_reducible exact LeO.none _)
   | (with_reducible refine LeO.ite ?_ ?_)
   | (with_reducible refine LeO.bind ?_ (fun _ => ?_))
   | exact ih0 _ _ _
   | exact token_One.mono _ _ _
   | exact LeO.none _
   | refine LeO.ite ?_ ?_
   | refine LeO.bind ?_ (fun _ => ?_)
theorem token_All.mono : ∀ a0 k, LeO (token_All.f k a0) (token_All.f (k + 1) a0) := by
 intro a0 k; have ih0 := token_All.mono_l k; unfold token_All.f
 repeat' first
   | (with_reducible exact ih0 _ _ _)
   | (with_reducible exact token_One.mono _ _ _)
   | (with_reducible exact LeO.refl _)
   | (with_reducible exact LeO.none _)
   | (with_reducible refine LeO.ite ?_ ?_)
   | (with_reducible refine LeO.bind ?_ (fun _ => ?_))
   | exact ih0 _ _ _
   | exact token_One.mono _ _ _
   | exact LeO.none _
   | refine LeO.ite ?_ ?_
   | refine LeO.bind ?_ (fun _ => ?_)
theorem token_All.calls (k : Nat) (a0 : ByteArray) (r1 : List (S91)) (r2 : Int) (w : World) (h : token_All.f k a0 = some (r1, r2)) :
  Calls Try.prog 78 #[.string a0] w fun e w' => ∃ v0_ : Value, e = .returned (.tuple #[v0_, .int .i64 r2]) ∧ Kd.R k91 91 w' w.heap.size (fun _ => True) v0_ r1 ∧ Below w.heap.size w w' := by
 have hu91 := Try.underlying91; have HB := am_ (Below.refl w.heap.size w); have H : (token_All.l0 k a0 ([] : List (S91)) 0) = some (r1, r2) := h; clear h; have H' := am_ H; clear H
 go_enter Try.func78, Try.ntmps78
 go_wp2
 go_loopg [4, 5] k (fun kq v4 v5 w' => ∃ (x4_1 : List (S91)) (x5_1 : Int), v5 = .int .i64 x5_1 ∧ Aside0 (token_All.l0 kq a0 x4_1 x5_1 = some (r1, r2)) ∧ Aside0 (kq ≤ k) ∧ Aside0 (Kd.R k91 91 w' w.heap.size (fun _ => True) v4 x4_1) ∧ Aside0 (Below w.heap.size w w'))
 case atStart => exact ⟨(([] : List (S91))), (0), (rs_), H', ⟨Nat.le_refl _⟩, ⟨by first | exact Kd.R_nil _ _ _ _ _ | exact Kd.N_nil _ _ _ _ _ | exact Kd.V_nil _ _ _ _ _ | exact Kd.Q_nil _ _ _ _ _ | exact Kd.S_nil _ _ _ _ _⟩, ⟨bl_⟩⟩
 case round =>
  clear H'; obtain ⟨x4_1, x5_1, rfl, HA, HK1, HO_4, HB⟩ := hrel
  cases gk with
  | zero => exact absurd HA.out (by simp [token_All.l0])
  | succ k1 =>
   have H := HA.out; clear HA; simp only [token_All.l0] at H
   by_cases c2 : (x4_1.length : Int) < 1000
   ·rw [if_pos c2] at H
    have c2b0 : decide ((x4_1.length : Int) < 1000) = true := decide_eq_true c2; have c2b1 : decide (x4_1.length < 1000) = true := decide_eq_true (by omega); clear c2; replace H := Option.bind_eq_some_iff.mp H; obtain ⟨⟨t140, t141, t142, t143, t144, t145⟩, A30, H⟩ := H; replace H : (if t145 = 0 then (if x4_1.length < 3518437208883 then ((some (x4_1 ++ [(⟨t140, t141, t142, t143⟩ : S91)] : List (S91))).bind fun y147 => (if t140 = 0 then (some (y147, 0)) else (token_All.l0 k1 a0 y147 t144))) else (none)) else (some (([] : List (S91)), t145))) = some (r1, r2) := H; have A3 := am_ A30; clear A30
    by_cases c4 : t145 = 0
    ·rw [if_pos c4] at H
     have c4b0 : (t145 == 0) = true := beq_iff_eq.mpr c4; have c4b1 : (t145 != 0) = false := bne_eq_false_iff_eq.mpr c4; clear c4
     by_cases c5 : x4_1.length < 3518437208883
     ·rw [if_pos c5] at H
      have LMc5 := am_ c5; clear c5
      obtain ⟨y147, hy147⟩ : ∃ y_ : List (S91), y_ = (x4_1 ++ [(⟨t140, t141, t142, t143⟩ : S91)]) := ⟨_, rfl⟩
      replace H : (if t140 = 0 then (some (y147, 0)) else (token_All.l0 k1 a0 y147 t144)) = some (r1, r2) := by first | (rw [hy147]; with_reducible exact H) | (have H2_ := (Option.bind_some _ _).symm.trans H; rw [hy147]; with_reducible exact H2_) | (have H2_ := (Option.bind_some _ _).symm.trans H; with_reducible exact H2_) | with_reducible exact H | (rw [hy147]; exact H) | exact H
      have Ny147 := am_ hy147; clear hy147
      by_cases c6 : t140 = 0
      ·rw [if_pos c6] at H
       have c6b0 : (t140 == 0) = true := beq_iff_eq.mpr c6; have c6b1 : (t140 != 0) = false := bne_eq_false_iff_eq.mpr c6; clear c6; simp only [Option.some.injEq, Prod.mk.injEq] at H; obtain ⟨rfl, rfl⟩ := H; obtain ⟨Ao7, co7, eo7⟩ := Kd.R_slice HO_4.out; subst eo7
       go_wp2_with (first | ((with_reducible refine gate_callee (f := 120) rfl ?_); refine goesL_ (some 15) rfl rfl Try.func120 (by kernel_rfl) rfl #[.string a0, .int .i64 x5_1] rfl (by (try simp only [List.map_toArray, List.map_cons, List.map_nil]); first | done | rfl | (simp only [List.length_drop, List.length_take]; rfl)) ?_; (with_reducible refine (token_One.calls k1 a0 x5_1 t140 t141 t142 t143 t144 t145 _ A3.out).mono ?_); rintro e w8 ⟨rfl, hb⟩; refine ⟨_, rfl, ?_⟩; replace HO_4 := am_ (Kd.R_below (kr_ HO_4.out) hb); replace HB := am_ (below_step (bl_) hb); (try clear hb); (try clear hb2); (try clear hk); (try clear hi)) | ((with_reducible refine gate_dst (N := 6) rfl ?_); refine box_event ?hg (N := 6) ?hd (cs := #[.int .i64 0, .string (⟨#[]⟩ : ByteArray), .int .i64 0, .int .i64 0]) (t := 91) ?hr ?_; (case hd => rfl); (case hg => rfl); (case hr => first | (go_simp; done) | (go_simp; rfl)); intro gb146 hg w9 hbox hb; replace HO_4 := am_ (Kd.R_below (Kd.R_elderB (kr_ HO_4.out) gb146 (Nat.le_of_eq hg.symm)) hb); have BK146 := am_ (hbox); have GW146 := am_ ((by rw [hg]; exact (below_size (bl_)) : w.heap.size ≤ gb146)); have GE146 := am_ ((by rw [hg]; exact (below_size (bl_)) : w.heap.size ≤ gb146)); replace HB := am_ (below_step (bl_) hb); clear hb hbox hg; obtain ⟨hcz10_0, hcz10_1, hcz10_2, hcz10_3, hfz10_0, hfz10_1, hfz10_2, hfz10_3⟩ := bw4_ BK146.out) | ((with_reducible refine gate_builtin (b := .append) (xs := #[.tmp 22, .tmp 24]) rfl ?_); at_builtin; refine Kd.R_append k91 (w0 := w) w.heap.size rfl (.tmp 22) (.tmp 24) 52 91 (.agg #[(.int .i64 0), (.string ⟨#[]⟩), (.int .i64 0), (.int .i64 0)]) 40 rfl Try.underlying52 info91 rfl (by decide) (by omega) (.slice Ao7 x4_1.length co7) x4_1 (⟨t140, t141, t142, t143⟩ : S91) [.int .i64 t140, .string t141, .int .i64 t142, .int .i64 t143] (fun k_ => k_ ≠ gb146) (fun _ => False) rfl (by first | (go_simp; done) | (go_simp; rfl)) ?aP (fun _ hk => hk.elim) ?aF ?aO ?aB ?aS ?aL ?_; (case aP => exact k91_mkM _ _ _ (⟨t140, t141, t142, t143⟩ : S91)); (case aB => exact (bl_)); (case aF => exact (fun k_ hk => Kd.freshB (g := gb146) (o := .cells #[.int .i64 t140, .string t141, .int .i64 t142, .int .i64 t143] 91 (0, 0)) (by refine bp_ ?_; refine blk_put (cs := #[.int .i64 t140, .string t141, .int .i64 t142, .int .i64 0]) ?_ 3 _ rfl; refine bp_ ?_; refine blk_put (cs := #[.int .i64 t140, .string t141, .int .i64 0, .int .i64 0]) ?_ 2 _ rfl; refine bp_ ?_; refine blk_put (cs := #[.int .i64 t140, .string (⟨#[]⟩ : ByteArray), .int .i64 0, .int .i64 0]) ?_ 1 _ rfl; refine bp_ ?_; refine blk_put (cs := #[.int .i64 0, .string (⟨#[]⟩ : ByteArray), .int .i64 0, .int .i64 0]) ?_ 0 _ rfl; refine bp_ ?_; exact BK146.out) k_ hk)); (case aO => exact (by (with_reducible repeat (first | apply Kd.R_alloc | apply Kd.R_drewN | apply Kd.R_drew)); exact Kd.R_mono (fr_ gb146 3 (fr_ gb146 2 (fr_ gb146 1 (fr_ gb146 0 (Kd.R_mono HO_4.out (fun k_ hk => (⟨hk, hk.2⟩ : _ ∧ k_ ≠ gb146))) (fun _ hk => hk.2) (.int .i64 t140)) (fun _ hk => hk.2) (.string t141)) (fun _ hk => hk.2) (.int .i64 t142)) (fun _ hk => hk.2) (.int .i64 t143)) (fun _ hk => hk.1.2))); (case aS => exact (below_size (bl_))); (case aL => have := LMc5.out; omega); intro v148 w11 ho hb hg hat; rw [← Ny147.out] at ho; replace BK146 := am_ (blk_grown (g := gb146) (o := .cells #[.int .i64 t140, .string t141, .int .i64 t142, .int .i64 t143] 91 (0, 0)) (by refine bp_ ?_; refine blk_put (cs := #[.int .i64 t140, .string t141, .int .i64 t142, .int .i64 0]) ?_ 3 _ rfl; refine bp_ ?_; refine blk_put (cs := #[.int .i64 t140, .string t141, .int .i64 0, .int .i64 0]) ?_ 2 _ rfl; refine bp_ ?_; refine blk_put (cs := #[.int .i64 t140, .string (⟨#[]⟩ : ByteArray), .int .i64 0, .int .i64 0]) ?_ 1 _ rfl; refine bp_ ?_; refine blk_put (cs := #[.int .i64 0, .string (⟨#[]⟩ : ByteArray), .int .i64 0, .int .i64 0]) ?_ 0 _ rfl; refine bp_ ?_; exact BK146.out) hg (Kd.R_away HO_4.out (fun _ hk => hk.2))); have HO149 := am_ (ho); replace HB := am_ (hb); clear HO_4; clear ho hb hg hat; obtain ⟨hcz12_0, hcz12_1, hcz12_2, hcz12_3, hfz12_0, hfz12_1, hfz12_2, hfz12_3⟩ := bw4_ BK146.out))
       go_ret2
       exact ⟨_, ew_, by (with_reducible repeat (first | apply Kd.R_alloc | apply Kd.R_drewN | apply Kd.R_drew)); exact Kd.R_mono HO149.out (fun _ hk => trivial), bl_⟩
      ·rw [if_neg c6] at H
       have c6b0 : (t140 == 0) = false := beq_eq_false_iff_ne.mpr c6; have c6b1 : (t140 != 0) = true := bne_iff_ne.mpr c6; have H' := am_ H; clear H; obtain ⟨Ao13, co13, eo13⟩ := Kd.R_slice HO_4.out; subst eo13
       go_wp2_with (first | ((with_reducible refine gate_callee (f := 120) rfl ?_); refine goesL_ (some 15) rfl rfl Try.func120 (by kernel_rfl) rfl #[.string a0, .int .i64 x5_1] rfl (by (try simp only [List.map_toArray, List.map_cons, List.map_nil]); first | done | rfl | (simp only [List.length_drop, List.length_take]; rfl)) ?_; (with_reducible refine (token_One.calls k1 a0 x5_1 t140 t141 t142 t143 t144 t145 _ A3.out).mono ?_); rintro e w14 ⟨rfl, hb⟩; refine ⟨_, rfl, ?_⟩; replace HO_4 := am_ (Kd.R_below (kr_ HO_4.out) hb); replace HB := am_ (below_step (bl_) hb); (try clear hb); (try clear hb2); (try clear hk); (try clear hi)) | ((with_reducible refine gate_dst (N := 6) rfl ?_); refine box_event ?hg (N := 6) ?hd (cs := #[.int .i64 0, .string (⟨#[]⟩ : ByteArray), .int .i64 0, .int .i64 0]) (t := 91) ?hr ?_; (case hd => rfl); (case hg => rfl); (case hr => first | (go_simp; done) | (go_simp; rfl)); intro gb146 hg w15 hbox hb; replace HO_4 := am_ (Kd.R_below (Kd.R_elderB (kr_ HO_4.out) gb146 (Nat.le_of_eq hg.symm)) hb); have BK146 := am_ (hbox); have GW146 := am_ ((by rw [hg]; exact (below_size (bl_)) : w.heap.size ≤ gb146)); have GE146 := am_ ((by rw [hg]; exact (below_size (bl_)) : w.heap.size ≤ gb146)); replace HB := am_ (below_step (bl_) hb); clear hb hbox hg; obtain ⟨hcz16_0, hcz16_1, hcz16_2, hcz16_3, hfz16_0, hfz16_1, hfz16_2, hfz16_3⟩ := bw4_ BK146.out) | ((with_reducible refine gate_builtin (b := .append) (xs := #[.tmp 22, .tmp 24]) rfl ?_); at_builtin; refine Kd.R_append k91 (w0 := w) w.heap.size rfl (.tmp 22) (.tmp 24) 52 91 (.agg #[(.int .i64 0), (.string ⟨#[]⟩), (.int .i64 0), (.int .i64 0)]) 40 rfl Try.underlying52 info91 rfl (by decide) (by omega) (.slice Ao13 x4_1.length co13) x4_1 (⟨t140, t141, t142, t143⟩ : S91) [.int .i64 t140, .string t141, .int .i64 t142, .int .i64 t143] (fun k_ => k_ ≠ gb146) (fun _ => False) rfl (by first | (go_simp; done) | (go_simp; rfl)) ?aP (fun _ hk => hk.elim) ?aF ?aO ?aB ?aS ?aL ?_; (case aP => exact k91_mkM _ _ _ (⟨t140, t141, t142, t143⟩ : S91)); (case aB => exact (bl_)); (case aF => exact (fun k_ hk => Kd.freshB (g := gb146) (o := .cells #[.int .i64 t140, .string t141, .int .i64 t142, .int .i64 t143] 91 (0, 0)) (by refine bp_ ?_; refine blk_put (cs := #[.int .i64 t140, .string t141, .int .i64 t142, .int .i64 0]) ?_ 3 _ rfl; refine bp_ ?_; refine blk_put (cs := #[.int .i64 t140, .string t141, .int .i64 0, .int .i64 0]) ?_ 2 _ rfl; refine bp_ ?_; refine blk_put (cs := #[.int .i64 t140, .string (⟨#[]⟩ : ByteArray), .int .i64 0, .int .i64 0]) ?_ 1 _ rfl; refine bp_ ?_; refine blk_put (cs := #[.int .i64 0, .string (⟨#[]⟩ : ByteArray), .int .i64 0, .int .i64 0]) ?_ 0 _ rfl; refine bp_ ?_; exact BK146.out) k_ hk)); (case aO => exact (by (with_reducible repeat (first | apply Kd.R_alloc | apply Kd.R_drewN | apply Kd.R_drew)); exact Kd.R_mono (fr_ gb146 3 (fr_ gb146 2 (fr_ gb146 1 (fr_ gb146 0 (Kd.R_mono HO_4.out (fun k_ hk => (⟨hk, hk.2⟩ : _ ∧ k_ ≠ gb146))) (fun _ hk => hk.2) (.int .i64 t140)) (fun _ hk => hk.2) (.string t141)) (fun _ hk => hk.2) (.int .i64 t142)) (fun _ hk => hk.2) (.int .i64 t143)) (fun _ hk => hk.1.2))); (case aS => exact (below_size (bl_))); (case aL => have := LMc5.out; omega); intro v148 w17 ho hb hg hat; rw [← Ny147.out] at ho; replace BK146 := am_ (blk_grown (g := gb146) (o := .cells #[.int .i64 t140, .string t141, .int .i64 t142, .int .i64 t143] 91 (0, 0)) (by refine bp_ ?_; refine blk_put (cs := #[.int .i64 t140, .string t141, .int .i64 t142, .int .i64 0]) ?_ 3 _ rfl; refine bp_ ?_; refine blk_put (cs := #[.int .i64 t140, .string t141, .int .i64 0, .int .i64 0]) ?_ 2 _ rfl; refine bp_ ?_; refine blk_put (cs := #[.int .i64 t140, .string (⟨#[]⟩ : ByteArray), .int .i64 0, .int .i64 0]) ?_ 1 _ rfl; refine bp_ ?_; refine blk_put (cs := #[.int .i64 0, .string (⟨#[]⟩ : ByteArray), .int .i64 0, .int .i64 0]) ?_ 0 _ rfl; refine bp_ ?_; exact BK146.out) hg (Kd.R_away HO_4.out (fun _ hk => hk.2))); have HO149 := am_ (ho); replace HB := am_ (hb); clear HO_4; clear ho hb hg hat; obtain ⟨hcz18_0, hcz18_1, hcz18_2, hcz18_3, hfz18_0, hfz18_1, hfz18_2, hfz18_3⟩ := bw4_ BK146.out))
       go_roundg k1
       case measure => have := HK1.out; omega
       case rel => exact ⟨(y147), (t144), (rs_), H', ⟨by have := HK1.out; omega⟩, ⟨by (with_reducible repeat (first | apply Kd.R_alloc | apply Kd.R_drewN | apply Kd.R_drew)); exact Kd.R_mono HO149.out (fun _ hk => trivial)⟩, ⟨bl_⟩⟩
     ·rw [if_neg c5] at H
      exact absurd H (by simp)
    ·rw [if_neg c4] at H
     have c4b0 : (t145 == 0) = false := beq_eq_false_iff_ne.mpr c4; have c4b1 : (t145 != 0) = true := bne_iff_ne.mpr c4; simp only [Option.some.injEq, Prod.mk.injEq] at H; obtain ⟨rfl, rfl⟩ := H; obtain ⟨Ao19, co19, eo19⟩ := Kd.R_slice HO_4.out; subst eo19
     go_wp2_with (first | ((with_reducible refine gate_callee (f := 120) rfl ?_); refine goesL_ (some 15) rfl rfl Try.func120 (by kernel_rfl) rfl #[.string a0, .int .i64 x5_1] rfl (by (try simp only [List.map_toArray, List.map_cons, List.map_nil]); first | done | rfl | (simp only [List.length_drop, List.length_take]; rfl)) ?_; (with_reducible refine (token_One.calls k1 a0 x5_1 t140 t141 t142 t143 t144 t145 _ A3.out).mono ?_); rintro e w20 ⟨rfl, hb⟩; refine ⟨_, rfl, ?_⟩; replace HO_4 := am_ (Kd.R_below (kr_ HO_4.out) hb); replace HB := am_ (below_step (bl_) hb); (try clear hb); (try clear hb2); (try clear hk); (try clear hi)) | ((with_reducible refine gate_dst (N := 6) rfl ?_); refine box_event ?hg (N := 6) ?hd (cs := #[.int .i64 0, .string (⟨#[]⟩ : ByteArray), .int .i64 0, .int .i64 0]) (t := 91) ?hr ?_; (case hd => rfl); (case hg => rfl); (case hr => first | (go_simp; done) | (go_simp; rfl)); intro gb146 hg w21 hbox hb; replace HO_4 := am_ (Kd.R_below (Kd.R_elderB (kr_ HO_4.out) gb146 (Nat.le_of_eq hg.symm)) hb); have BK146 := am_ (hbox); have GW146 := am_ ((by rw [hg]; exact (below_size (bl_)) : w.heap.size ≤ gb146)); have GE146 := am_ ((by rw [hg]; exact (below_size (bl_)) : w.heap.size ≤ gb146)); replace HB := am_ (below_step (bl_) hb); clear hb hbox hg; obtain ⟨hcz22_0, hcz22_1, hcz22_2, hcz22_3, hfz22_0, hfz22_1, hfz22_2, hfz22_3⟩ := bw4_ BK146.out))
     go_ret2
     exact ⟨_, ew_, by first | exact Kd.R_nil _ _ _ _ _ | exact Kd.N_nil _ _ _ _ _ | exact Kd.V_nil _ _ _ _ _ | exact Kd.Q_nil _ _ _ _ _ | exact Kd.S_nil _ _ _ _ _, bl_⟩
   ·rw [if_neg c2] at H
    have c2b0 : decide ((x4_1.length : Int) < 1000) = false := decide_eq_false c2; have c2b1 : decide (x4_1.length < 1000) = false := decide_eq_false (by omega); clear c2; simp only [Option.some.injEq, Prod.mk.injEq] at H; obtain ⟨rfl, rfl⟩ := H; obtain ⟨Ao23, co23, eo23⟩ := Kd.R_slice HO_4.out; subst eo23
    go_wp2
    go_ret2
    exact ⟨_, ew_, by first | exact Kd.R_nil _ _ _ _ _ | exact Kd.N_nil _ _ _ _ _ | exact Kd.V_nil _ _ _ _ _ | exact Kd.Q_nil _ _ _ _ _ | exact Kd.S_nil _ _ _ _ _, bl_⟩
def IsS89 (w0 W : World) (g : Nat) (f0 : List (S91)) (f1 : Int) (f2 : Int) (f3 : Int) : Prop := ∃ A0 c0, W.heap[g]? = some (.cells #[.slice A0 f0.length c0, .int .i64 f1, .int .i64 f2, .int .i64 f3] 89 (0, 0)) ∧ w0.heap.size ≤ g ∧ Kd.C k91 w0 A0 f0.length f0
theorem IsS89.grown {w0 W : World} {g : Nat} {f0 : List (S91)} {f1 : Int} {f2 : Int} {f3 : Int} {W1 : World} {row : Option Nat} (h : IsS89 w0 W g f0 f1 f2 f3) (hw : W.grownBy W1 row) (hne : some g ≠ row) : IsS89 w0 W1 g f0 f1 f2 f3 := by
 obtain ⟨A0, c0, hb, hg, hr0⟩ := h; exact ⟨A0, c0, blk_grown hb hw hne, hg, hr0⟩
theorem IsS89.fresh {w0 W : World} {g : Nat} {f0 : List (S91)} {f1 : Int} {f2 : Int} {f3 : Int} (h : IsS89 w0 W g f0 f1 f2 f3) : ∀ k, W.heap.size ≤ k → k ≠ g := by
 obtain ⟨A0, c0, hb, hg, hr0⟩ := h; exact Kd.freshB hb
theorem IsS89.kept {w0 W : World} {g : Nat} {f0 : List (S91)} {f1 : Int} {f2 : Int} {f3 : Int} {W1 : World} {S : Nat → Prop} (h : IsS89 w0 W g f0 f1 f2 f3) (hk : Kept W W1 S) (hne : ¬ S g) : IsS89 w0 W1 g f0 f1 f2 f3 := by
 obtain ⟨A0, c0, hb, hg, hr0⟩ := h; exact ⟨A0, c0, blk_kept hb hk hne, hg, hr0⟩
theorem IsS89.below {w0 W : World} {g : Nat} {f0 : List (S91)} {f1 : Int} {f2 : Int} {f3 : Int} {W1 : World} (h : IsS89 w0 W g f0 f1 f2 f3) (hw : Below W.heap.size W W1) : IsS89 w0 W1 g f0 f1 f2 f3 := h.grown (grown_of_below hw none) (by simp)
theorem IsS89.alloc {w0 W : World} {g : Nat} {f0 : List (S91)} {f1 : Int} {f2 : Int} {f3 : Int} (h : IsS89 w0 W g f0 f1 f2 f3) (o : Obj) : IsS89 w0 (W.alloc o) g f0 f1 f2 f3 := h.below (below_alloc (Below.refl _ _) o)
theorem IsS89.drewN {w0 W : World} {g : Nat} {f0 : List (S91)} {f1 : Int} {f2 : Int} {f3 : Int} (h : IsS89 w0 W g f0 f1 f2 f3) (m : Nat) : IsS89 w0 (W.drewN m) g f0 f1 f2 f3 := h
theorem IsS89.drew {w0 W : World} {g : Nat} {f0 : List (S91)} {f1 : Int} {f2 : Int} {f3 : Int} (h : IsS89 w0 W g f0 f1 f2 f3) : IsS89 w0 W.drew g f0 f1 f2 f3 := h
theorem IsS89.at_ {w0 W : World} {g : Nat} {f0 : List (S91)} {f1 : Int} {f2 : Int} {f3 : Int} {w' : World} {m : Nat} (hq : W.drewN m = w') (h : IsS89 w0 W g f0 f1 f2 f3) : IsS89 w0 w' g f0 f1 f2 f3 := by subst hq; exact IsS89.drewN h m
theorem IsS89.apart {w0 W : World} {g : Nat} {f0 : List (S91)} {f1 : Int} {f2 : Int} {f3 : Int} {α : Type} {d : Kd α} {e : Nat} {base : Nat} {ok : Nat → Prop} {v : Value} {xs : List α} (h : IsS89 w0 W g f0 f1 f2 f3) (ho : d.R e W base ok v xs) (ht : ∀ q, q ∈ e :: d.E → q ≠ 89) : d.R e W base (fun k => ok k ∧ k ≠ g) v xs := by
 obtain ⟨A0, c0, hb, hg, hr0⟩ := h; exact Kd.R_types ho hb ht
theorem IsS89.own_ne {w0 W : World} {g : Nat} {f0 : List (S91)} {f1 : Int} {f2 : Int} {f3 : Int} {α : Type} {d : Kd α} {e : Nat} {base : Nat} {ok : Nat → Prop} {v : Value} {xs : List α} (h : IsS89 w0 W g f0 f1 f2 f3) (ho : d.R e W base ok v xs) (ht : e ≠ 89) : some g ≠ v.ownBlock := by
 obtain ⟨A0, c0, hb, hg, hr0⟩ := h; exact Kd.R_ne ho hb ht
theorem IsS89.lt {w0 W : World} {g : Nat} {f0 : List (S91)} {f1 : Int} {f2 : Int} {f3 : Int} (h : IsS89 w0 W g f0 f1 f2 f3) : g < W.heap.size := by
 obtain ⟨A0, c0, hb, hg, hr0⟩ := h; exact blk_lt hb
theorem IsS89.ge {w0 W : World} {g : Nat} {f0 : List (S91)} {f1 : Int} {f2 : Int} {f3 : Int} (h : IsS89 w0 W g f0 f1 f2 f3) : w0.heap.size ≤ g := by
 obtain ⟨A0, c0, hb, hg, hr0⟩ := h; exact hg
theorem IsS89.far {w0 W : World} {g : Nat} {f0 : List (S91)} {f1 : Int} {f2 : Int} {f3 : Int} {p : Addr} (h : IsS89 w0 W g f0 f1 f2 f3) (hne : g ≠ p.block) (u : Value) : IsS89 w0 (W.setCell p u) g f0 f1 f2 f3 := by
 obtain ⟨A0, c0, hb, hg, hr0⟩ := h; exact ⟨A0, c0, blk_far hb hne u, hg, hr0⟩
theorem cellS89_0 {W : World} {g : Nat} {A0 : Option Addr} {c0 : Nat} {f0 : List (S91)} {f1 : Int} {f2 : Int} {f3 : Int} (h : W.heap[g]? = some (.cells #[.slice A0 f0.length c0, .int .i64 f1, .int .i64 f2, .int .i64 f3] 89 (0, 0))) : W.cell? ⟨g, 0, none⟩ = some (.slice A0 f0.length c0) := (blk_cell h 0).trans rfl
theorem cellS89_1 {W : World} {g : Nat} {A0 : Option Addr} {c0 : Nat} {f0 : List (S91)} {f1 : Int} {f2 : Int} {f3 : Int} (h : W.heap[g]? = some (.cells #[.slice A0 f0.length c0, .int .i64 f1, .int .i64 f2, .int .i64 f3] 89 (0, 0))) : W.cell? ⟨g, 1, none⟩ = some (.int .i64 f1) := (blk_cell h 1).trans rfl
theorem IsS89.set_1 {w0 W : World} {g : Nat} {f0 : List (S91)} {f1 : Int} {f2 : Int} {f3 : Int} (h : IsS89 w0 W g f0 f1 f2 f3) (x : Int) : IsS89 w0 (W.setCell ⟨g, 1, none⟩ (.int .i64 x)) g f0 x f2 f3 := by
 obtain ⟨A0, c0, hb, hg, hr0⟩ := h; exact ⟨A0, c0, by simpa using blk_set hb 1 (.int .i64 x), hg, hr0⟩
theorem cellS89_2 {W : World} {g : Nat} {A0 : Option Addr} {c0 : Nat} {f0 : List (S91)} {f1 : Int} {f2 : Int} {f3 : Int} (h : W.heap[g]? = some (.cells #[.slice A0 f0.length c0, .int .i64 f1, .int .i64 f2, .int .i64 f3] 89 (0, 0))) : W.cell? ⟨g, 2, none⟩ = some (.int .i64 f2) := (blk_cell h 2).trans rfl
theorem IsS89.set_2 {w0 W : World} {g : Nat} {f0 : List (S91)} {f1 : Int} {f2 : Int} {f3 : Int} (h : IsS89 w0 W g f0 f1 f2 f3) (x : Int) : IsS89 w0 (W.setCell ⟨g, 2, none⟩ (.int .i64 x)) g f0 f1 x f3 := by
 obtain ⟨A0, c0, hb, hg, hr0⟩ := h; exact ⟨A0, c0, by simpa using blk_set hb 2 (.int .i64 x), hg, hr0⟩
theorem cellS89_3 {W : World} {g : Nat} {A0 : Option Addr} {c0 : Nat} {f0 : List (S91)} {f1 : Int} {f2 : Int} {f3 : Int} (h : W.heap[g]? = some (.cells #[.slice A0 f0.length c0, .int .i64 f1, .int .i64 f2, .int .i64 f3] 89 (0, 0))) : W.cell? ⟨g, 3, none⟩ = some (.int .i64 f3) := (blk_cell h 3).trans rfl
theorem IsS89.set_3 {w0 W : World} {g : Nat} {f0 : List (S91)} {f1 : Int} {f2 : Int} {f3 : Int} (h : IsS89 w0 W g f0 f1 f2 f3) (x : Int) : IsS89 w0 (W.setCell ⟨g, 3, none⟩ (.int .i64 x)) g f0 f1 f2 x := by
 obtain ⟨A0, c0, hb, hg, hr0⟩ := h; exact ⟨A0, c0, by simpa using blk_set hb 3 (.int .i64 x), hg, hr0⟩
theorem IsS89.new (w0 W : World) (A0 : Option Addr) (c0 : Nat) (f0 : List (S91)) (f1 : Int) (f2 : Int) (f3 : Int) (hB : Below w0.heap.size w0 W) (hr0 : Kd.C k91 w0 A0 f0.length f0) : IsS89 w0 (W.alloc (.cells #[.slice A0 f0.length c0, .int .i64 f1, .int .i64 f2, .int .i64 f3] 89)) W.heap.size f0 f1 f2 f3 := ⟨A0, c0, by simpa using heap_alloc_new W _, hB.size, hr0⟩
def parse_parser_ok.f (s0_0 : List (S91)) (s0_1 : Int) (s0_2 : Int) (s0_3 : Int) : Option (Bool × Int × Int × Int) := some ((s0_3 == 0), s0_1, s0_2, s0_3)
theorem parse_parser_ok.calls (g : Nat) (s0_0 : List (S91)) (s0_1 : Int) (s0_2 : Int) (s0_3 : Int) (r1 : Bool) (r2 : Int) (r3 : Int) (r4 : Int) (w0 w : World) (hI : IsS89 w0 w g s0_0 s0_1 s0_2 s0_3) (hB : Below w0.heap.size w0 w) (h : parse_parser_ok.f s0_0 s0_1 s0_2 s0_3 = some (r1, r2, r3, r4)) :
  Calls Try.prog 43 #[.pointer (some ⟨g, 0, none⟩)] w fun e w' => e = .returned (.bool r1) ∧ IsS89 w0 w' g s0_0 r2 r3 r4 ∧ Below w0.heap.size w0 w' ∧ KeepBut w w' g none := by
 have HI0 := am_ hI; have HK := am_ (KeepBut.refl w g none); have HL := am_ hB.size; clear hI; have HW0 := am_ hB.size; have HB := am_ hB; clear hB; have H : (some ((s0_3 == 0), s0_1, s0_2, s0_3)) = some (r1, r2, r3, r4) := h; clear h; simp only [Option.some.injEq, Prod.mk.injEq] at H; obtain ⟨rfl, rfl, rfl, rfl⟩ := H; obtain ⟨ASz2_0, cSz2_0, HGz2, hgz2, HSz2_0⟩ := HI0.out; have hcz2_0 := cellS89_0 HGz2; have hcz2_1 := cellS89_1 HGz2; have hcz2_2 := cellS89_2 HGz2; have hcz2_3 := cellS89_3 HGz2; have hfz2_1 := blk_frozen HGz2 1; have hfz2_2 := blk_frozen HGz2 2; have hfz2_3 := blk_frozen HGz2 3; clear HGz2 hgz2
 go_enter Try.func43, Try.ntmps43
 go_wp2
 go_ret
 exact ⟨ew_, by repeat (first | (with_reducible first | exact HI0.out | apply IsS89.alloc | apply IsS89.drewN | apply IsS89.drew | apply IsS89.set_1 | apply IsS89.set_2 | apply IsS89.set_3) | exact HI0.out), by repeat (first | (with_reducible first | exact HB.out | apply below_alloc | apply pw_below_drewN | apply below_drew1 | refine below_set ?_ (IsS89.ge HI0.out)) | exact HB.out), by repeat (first | (with_reducible first | exact HK.out | apply KeepBut.set_ | apply keep_drewN | apply keep_drew | apply keep_alloc) | exact HK.out)⟩
def api_Expr.f (l0 : List (S27)) : Option ((List (S27))) := (some (([] : List (S27)) : List (S27))).bind fun y161 => (if y161.length + l0.length < 1256584717458 then (some (y161 ++ l0)) else (none))
theorem api_Expr.calls (P0_ : Nat → Prop) (A0 : Option Addr) (c0 : Nat) (l0 : List (S27)) (r : List (S27)) (w : World) (hs0 : Kd.V k27 27 w w.heap.size (fun k_ => P0_ k_) (.slice A0 l0.length c0) l0) (h : api_Expr.f l0 = some r) :
  Calls Try.prog 149 #[.slice A0 l0.length c0] w fun e w' => ∃ v0_ : Value, e = .returned (v0_) ∧ Kd.N k27 27 w' w.heap.size (fun k_ => (P0_ k_ ∨ w.heap.size ≤ k_)) v0_ r ∧ Below w.heap.size w w' := by
 cases A0 with
 | none =>
  obtain rfl : l0 = [] := by
   rcases l0 with _ | ⟨x_, l_⟩
   ·rfl
   ·(first | (obtain ⟨ad_, e_, _⟩ := hr0.2.2 (by simp)) | (obtain ⟨ad_, e_, _⟩ := (Kd.V_reads' hs0).2.2.2.2 (by simp)))
    cases e_
  obtain rfl : r = [] := by
   unfold api_Expr.f at h
   simpa using h.symm
  have hn_ : ∀ (W_ : World) (n_ c_ : Nat), (binOp .eql 22 (.slice none n_ c_) (.slice none 0 0)).run Try.prog W_ = .ok (.bool true) W_ := fun W_ n_ c_ => Lib.run_eql_slice_nil W_ 22 27 none n_ c_ 0 0 Try.underlying22
  go_enter Try.func149, Try.ntmps149
  go_wp2
  go_ret
  exact ⟨_, rfl, by first | exact Kd.R_nil _ _ _ _ _ | exact Kd.S_nil _ _ _ _ _ | exact Kd.N_nil _ _ _ _ _, Below.refl _ _⟩
 | some ad0 =>
 have hn_ : ∀ (W_ : World) (n_ c_ : Nat), (binOp .eql 22 (.slice (some ad0) n_ c_) (.slice none 0 0)).run Try.prog W_ = .ok (.bool false) W_ := fun W_ n_ c_ => Lib.run_eql_slice_nil W_ 22 27 (some ad0) n_ c_ 0 0 Try.underlying22
 have HO0 := am_ (show Kd.V k27 27 w w.heap.size (fun k_ => (P0_ k_ ∨ w.heap.size ≤ k_)) (.slice (some ad0) l0.length c0) l0 from Kd.V_mono hs0 (fun k_ hk => .inl hk)); have HB := am_ (Below.refl w.heap.size w); have H : ((some (([] : List (S27)) : List (S27))).bind fun y161 => (if y161.length + l0.length < 1256584717458 then (some (y161 ++ l0)) else (none))) = some r := h; clear h
 obtain ⟨y161, hy161⟩ : ∃ y_ : List (S27), y_ = (([] : List (S27))) := ⟨_, rfl⟩
 replace H : (if y161.length + l0.length < 1256584717458 then (some (y161 ++ l0)) else (none)) = some r := by first | (rw [hy161]; with_reducible exact H) | (have H2_ := (Option.bind_some _ _).symm.trans H; rw [hy161]; with_reducible exact H2_) | (have H2_ := (Option.bind_some _ _).symm.trans H; with_reducible exact H2_) | with_reducible exact H | (rw [hy161]; exact H) | exact H
 have Ny161 := am_ hy161; clear hy161
 by_cases c2 : y161.length + l0.length < 1256584717458
 ·rw [if_pos c2] at H
  have LMc2 := am_ c2; clear c2
  obtain ⟨y164, hy164⟩ : ∃ y_ : List (S27), y_ = (y161 ++ l0) := ⟨_, rfl⟩
  replace H : (some y164) = some r := by first | (rw [hy164]; with_reducible exact H) | (have H2_ := (Option.bind_some _ _).symm.trans H; rw [hy164]; with_reducible exact H2_) | (have H2_ := (Option.bind_some _ _).symm.trans H; with_reducible exact H2_) | with_reducible exact H | (rw [hy164]; exact H) | exact H
  have Ny164 := am_ hy164; clear hy164; obtain rfl := Option.some.inj H
  go_enter Try.func149, Try.ntmps149
  go_wp2_with (first | ((with_reducible refine gate_dst (N := 5) rfl ?_); refine Kd.N_lit k27 _ 27 ?hg (N' := 5) ?hd (xs := ([] : List (S27))) (inner := []) (ok := (fun k_ => (P0_ k_ ∨ w.heap.size ≤ k_))) (okp := (fun k_ => (P0_ k_ ∨ w.heap.size ≤ k_))) ?hr ?hp (fun _ hk => hk) ((show ∀ k_, w.heap.size ≤ k_ → (fun k_ => (P0_ k_ ∨ w.heap.size ≤ k_)) k_ from fun k_ hk => (.inr (Nat.le_trans (below_size (bl_)) hk))) _ (Nat.le_refl _)) (Below.refl _ _) (Nat.le_refl _) (by simp) ?_; (case hd => rfl); (case hg => rfl); (case hr => first | (go_simp; done) | (go_simp; rfl)); (case hp => exact (Reps.none _ _)); intro v162 w3 ho4 hb hg_ hnew_; clear hg_ hnew_; (first | rw [← Ny161.out] at ho4 | (simp only [Int.reduceToNat] at ho4; rw [← Ny161.out] at ho4)); replace HO0 := am_ (Kd.V_elder' (kv_ HO0.out) (Kd.N_base ho4) hb); have HO163 := am_ (Kd.N_lower ho4 (below_size (bl_))); replace HB := am_ (below_step (bl_) hb); clear hb ho4) | ((with_reducible refine gate_builtin (b := .append) (xs := #[.tmp 5, .tmp 6]) rfl ?_); at_builtin; refine Kd.N_append_rows k27 (w0 := w) w.heap.size rfl (.tmp 5) (.tmp 6) 22 27 (.agg #[(.int .i64 0), (.string ⟨#[]⟩), (.string ⟨#[]⟩), (.int .i64 0), (.int .i64 0), (.int .i64 0), (.int .i64 0), (.string ⟨#[]⟩), (.slice none 0 0)]) 112 rfl Try.underlying22 info27 rfl (by decide) (by omega) v162 y161 l0 _ _ _ (fun k_ => (P0_ k_ ∨ w.heap.size ≤ k_)) (fun k_ => ((fun k_ => (P0_ k_ ∨ w.heap.size ≤ k_))) k_ ∧ some k_ ≠ (v162 : Value).ownBlock) rfl rfl ?aO ?aR (fun _ hk => hk) ?aF ?aB ?aS ?aL ?_; (case aR => exact (by skip; exact Kd.V_F (Kd.V_mono (ok' := (fun k_ => ((fun k_ => (P0_ k_ ∨ w.heap.size ≤ k_))) k_ ∧ some k_ ≠ (v162 : Value).ownBlock)) (HO0.out) (fun k_ hk => ⟨hk.1, hk.2⟩)))); (case aB => exact (bl_)); (case aF => exact (fun k_ hk => (.inr (Nat.le_trans (below_size (bl_)) hk)))); (case aO => exact (kn_ HO163.out)); (case aS => exact (below_size (bl_))); (case aL => have := LMc2.out; omega); intro v165 w5 ho hb hg hat; rw [← Ny164.out] at ho; replace HO0 := am_ (Kd.V_afterv (ok := (fun k_ => (P0_ k_ ∨ w.heap.size ≤ k_))) (kv_ HO0.out) hg hat); have HO166 := am_ (ho); replace HB := am_ (hb); clear HO163; clear ho hb hg hat))
  go_ret
  exact ⟨_, ew_, kn_ HO166.out, bl_⟩
 ·rw [if_neg c2] at H
  exact absurd H (by simp)
def tree_Of.f (a0 : Int) (l1 : List (S27)) : Option (Int × ByteArray × ByteArray × Int × Int × Int × Int × ByteArray × (List (S27))) := (api_Expr.f l1).bind fun t168 => (some (a0, (⟨#[]⟩ : ByteArray), (⟨#[]⟩ : ByteArray), 0, 0, 0, 0, (⟨#[]⟩ : ByteArray), t168))
theorem tree_Of.calls (a0 : Int) (P1_ : Nat → Prop) (A1 : Option Addr) (c1 : Nat) (l1 : List (S27)) (r1 : Int) (r2 : ByteArray) (r3 : ByteArray) (r4 : Int) (r5 : Int) (r6 : Int) (r7 : Int) (r8 : ByteArray) (r9 : List (S27)) (w : World) (hs1 : Kd.V k27 27 w w.heap.size (fun k_ => P1_ k_) (.slice A1 l1.length c1) l1) (h : tree_Of.f a0 l1 = some (r1, r2, r3, r4, r5, r6, r7, r8, r9)) :
  Calls Try.prog 122 #[.int .i64 a0, .slice A1 l1.length c1] w fun e w' => ∃ v8_ : Value, e = .returned (.agg #[.int .i64 r1, .string r2, .string r3, .int .i64 r4, .int .i64 r5, .int .i64 r6, .int .i64 r7, .string r8, v8_]) ∧ Kd.N k27 27 w' w.heap.size (fun k_ => (P1_ k_ ∨ w.heap.size ≤ k_)) v8_ r9 ∧ Below w.heap.size w w' := by
 have hu27 := Try.underlying27; have HO1 := am_ (show Kd.V k27 27 w w.heap.size (fun k_ => (P1_ k_ ∨ w.heap.size ≤ k_)) (.slice A1 l1.length c1) l1 from Kd.V_mono hs1 (fun k_ hk => .inl hk)); have HB := am_ (Below.refl w.heap.size w); have H : ((api_Expr.f l1).bind fun t168 => (some (a0, (⟨#[]⟩ : ByteArray), (⟨#[]⟩ : ByteArray), 0, 0, 0, 0, (⟨#[]⟩ : ByteArray), t168))) = some (r1, r2, r3, r4, r5, r6, r7, r8, r9) := h; clear h; replace H := Option.bind_eq_some_iff.mp H; obtain ⟨t168, A30, H⟩ := H; replace H : (some (a0, (⟨#[]⟩ : ByteArray), (⟨#[]⟩ : ByteArray), 0, 0, 0, 0, (⟨#[]⟩ : ByteArray), t168)) = some (r1, r2, r3, r4, r5, r6, r7, r8, r9) := H; have A3 := am_ A30; clear A30; simp only [Option.some.injEq, Prod.mk.injEq] at H; obtain ⟨rfl, rfl, rfl, rfl, rfl, rfl, rfl, rfl, rfl⟩ := H
 go_enter Try.func122, Try.ntmps122
 go_wp2_with (first | ((with_reducible refine gate_dst (N := 4) rfl ?_); refine box_event ?hg (N := 4) ?hd (cs := #[.int .i64 0, .string (⟨#[]⟩ : ByteArray), .string (⟨#[]⟩ : ByteArray), .int .i64 0, .int .i64 0, .int .i64 0, .int .i64 0, .string (⟨#[]⟩ : ByteArray), .slice none 0 0]) (t := 27) ?hr ?_; (case hd => rfl); (case hg => rfl); (case hr => first | (go_simp; done) | (go_simp; rfl)); intro gb167 hg w4 hbox hb; replace HO1 := am_ (Kd.V_below (Kd.V_elderB (kv_ HO1.out) gb167 (Nat.le_of_eq hg.symm)) hb); have BK167 := am_ (hbox); have GW167 := am_ ((by rw [hg]; exact (below_size (bl_)) : w.heap.size ≤ gb167)); have GE167 := am_ ((by rw [hg]; exact (below_size (bl_)) : w.heap.size ≤ gb167)); replace HB := am_ (below_step (bl_) hb); clear hb hbox hg) | ((with_reducible refine gate_callee (f := 149) rfl ?_); refine goesL_ (some 7) rfl rfl Try.func149 (by kernel_rfl) rfl #[.slice A1 l1.length c1] rfl (by (try simp only [List.map_toArray, List.map_cons, List.map_nil]); first | done | rfl | (simp only [List.length_drop, List.length_take]; rfl)) ?_; (with_reducible refine (api_Expr.calls (fun k_ => ((P1_ k_ ∨ w.heap.size ≤ k_) ∧ k_ ≠ gb167)) _ _ l1 t168 _ ?side1 A3.out).mono ?_); (case side1 => exact HO1.out); rintro e w5 ⟨v169, rfl, ho0, hb⟩; refine ⟨_, rfl, ?_⟩; replace HO1 := am_ (Kd.V_elder' (kv_ HO1.out) (Kd.N_base ho0) hb); have HO170 := am_ (Kd.N_lower (Kd.N_mono (ok' := fun k_ => (P1_ k_ ∨ w.heap.size ≤ k_) ∧ k_ ≠ gb167) ho0 (fun k_ hk_ => ⟨Or.elim hk_ (fun hs_ => hs_.1) (fun hn_ => (.inr (Nat.le_trans (below_size (bl_)) hn_))), Or.elim hk_ (fun hs_ => hs_.2) (fun hn_ => (Kd.freshB (g := gb167) (o := .cells #[.int .i64 0, .string (⟨#[]⟩ : ByteArray), .string (⟨#[]⟩ : ByteArray), .int .i64 0, .int .i64 0, .int .i64 0, .int .i64 0, .string (⟨#[]⟩ : ByteArray), .slice none 0 0] 27 (0, 0)) (bk_ BK167.out) k_ hn_))⟩)) (below_size (bl_))); replace BK167 := am_ (blk_below (bk_ BK167.out) hb); replace HB := am_ (below_step (bl_) hb); (try clear hb); (try clear hb2); (try clear hk); (try clear hi); (try clear ho0); obtain ⟨Ao6, co6, eo6⟩ := Kd.N_slice HO170.out; subst eo6; obtain ⟨hcz7_0, hcz7_1, hcz7_2, hcz7_3, hcz7_4, hcz7_5, hcz7_6, hcz7_7, hcz7_8, hfz7_0, hfz7_1, hfz7_2, hfz7_3, hfz7_4, hfz7_5, hfz7_6, hfz7_7, hfz7_8⟩ := bw9_ BK167.out))
 refine bodyPost_ret (results_cell_row rfl _ _ gb167 27 #[.int .i64 a0, .string (⟨#[]⟩ : ByteArray), .string (⟨#[]⟩ : ByteArray), .int .i64 0, .int .i64 0, .int .i64 0, .int .i64 0, .string (⟨#[]⟩ : ByteArray), .slice Ao6 t168.length co6] (0, 0) _ rfl (by refine bp_ ?_; refine blk_put (cs := #[.int .i64 a0, .string (⟨#[]⟩ : ByteArray), .string (⟨#[]⟩ : ByteArray), .int .i64 0, .int .i64 0, .int .i64 0, .int .i64 0, .string (⟨#[]⟩ : ByteArray), .slice none 0 0]) ?_ 8 _ rfl; refine bp_ ?_; refine blk_put (cs := #[.int .i64 a0, .string (⟨#[]⟩ : ByteArray), .string (⟨#[]⟩ : ByteArray), .int .i64 0, .int .i64 0, .int .i64 0, .int .i64 0, .string (⟨#[]⟩ : ByteArray), .slice none 0 0]) ?_ 7 _ rfl; refine bp_ ?_; refine blk_put (cs := #[.int .i64 a0, .string (⟨#[]⟩ : ByteArray), .string (⟨#[]⟩ : ByteArray), .int .i64 0, .int .i64 0, .int .i64 0, .int .i64 0, .string (⟨#[]⟩ : ByteArray), .slice none 0 0]) ?_ 6 _ rfl; refine bp_ ?_; refine blk_put (cs := #[.int .i64 a0, .string (⟨#[]⟩ : ByteArray), .string (⟨#[]⟩ : ByteArray), .int .i64 0, .int .i64 0, .int .i64 0, .int .i64 0, .string (⟨#[]⟩ : ByteArray), .slice none 0 0]) ?_ 5 _ rfl; refine bp_ ?_; refine blk_put (cs := #[.int .i64 a0, .string (⟨#[]⟩ : ByteArray), .string (⟨#[]⟩ : ByteArray), .int .i64 0, .int .i64 0, .int .i64 0, .int .i64 0, .string (⟨#[]⟩ : ByteArray), .slice none 0 0]) ?_ 4 _ rfl; refine bp_ ?_; refine blk_put (cs := #[.int .i64 a0, .string (⟨#[]⟩ : ByteArray), .string (⟨#[]⟩ : ByteArray), .int .i64 0, .int .i64 0, .int .i64 0, .int .i64 0, .string (⟨#[]⟩ : ByteArray), .slice none 0 0]) ?_ 3 _ rfl; refine bp_ ?_; refine blk_put (cs := #[.int .i64 a0, .string (⟨#[]⟩ : ByteArray), .string (⟨#[]⟩ : ByteArray), .int .i64 0, .int .i64 0, .int .i64 0, .int .i64 0, .string (⟨#[]⟩ : ByteArray), .slice none 0 0]) ?_ 2 _ rfl; refine bp_ ?_; refine blk_put (cs := #[.int .i64 a0, .string (⟨#[]⟩ : ByteArray), .string (⟨#[]⟩ : ByteArray), .int .i64 0, .int .i64 0, .int .i64 0, .int .i64 0, .string (⟨#[]⟩ : ByteArray), .slice none 0 0]) ?_ 1 _ rfl; refine bp_ ?_; refine blk_put (cs := #[.int .i64 0, .string (⟨#[]⟩ : ByteArray), .string (⟨#[]⟩ : ByteArray), .int .i64 0, .int .i64 0, .int .i64 0, .int .i64 0, .string (⟨#[]⟩ : ByteArray), .slice none 0 0]) ?_ 0 _ rfl; refine bp_ ?_; exact BK167.out) Try.underlying27 rfl (by kernel_rfl)) rfl ?_; exact ⟨_, ew_, by (with_reducible repeat (first | apply Kd.N_alloc | apply Kd.N_drewN | apply Kd.N_drew)); exact Kd.N_mono (Kd.N_far (p := ⟨gb167, 8, none⟩) (Kd.N_far (p := ⟨gb167, 7, none⟩) (Kd.N_far (p := ⟨gb167, 6, none⟩) (Kd.N_far (p := ⟨gb167, 5, none⟩) (Kd.N_far (p := ⟨gb167, 4, none⟩) (Kd.N_far (p := ⟨gb167, 3, none⟩) (Kd.N_far (p := ⟨gb167, 2, none⟩) (Kd.N_far (p := ⟨gb167, 1, none⟩) (Kd.N_far (p := ⟨gb167, 0, none⟩) (Kd.N_mono HO170.out (fun k_ hk => (⟨hk, hk.2⟩ : _ ∧ k_ ≠ gb167))) (fun _ hk => hk.2) (.int .i64 a0)) (fun _ hk => hk.2) (.string (⟨#[]⟩ : ByteArray))) (fun _ hk => hk.2) (.string (⟨#[]⟩ : ByteArray))) (fun _ hk => hk.2) (.int .i64 0)) (fun _ hk => hk.2) (.int .i64 0)) (fun _ hk => hk.2) (.int .i64 0)) (fun _ hk => hk.2) (.int .i64 0)) (fun _ hk => hk.2) (.string (⟨#[]⟩ : ByteArray))) (fun _ hk => hk.2) (.slice Ao6 t168.length co6)) (fun _ hk => hk.1.1), bl_⟩
def parse_opOf.f (a0 : ByteArray) : Option (Int) := if a0.toList = ([111, 114] : List UInt8) then (some 11) else (if a0.toList = ([97, 110, 100] : List UInt8) then (some 10) else (if a0.toList = ([43] : List UInt8) then (some 7) else (if a0.toList = ([45] : List UInt8) then (some 8) else (if a0.toList = ([42] : List UInt8) then (some 9) else (if a0.toList = ([61] : List UInt8) then (some 1) else (if a0.toList = ([60, 62] : List UInt8) then (some 2) else (if a0.toList = ([60] : List UInt8) then (some 3) else (if a0.toList = ([60, 61] : List UInt8) then (some 4) else (if a0.toList = ([62] : List UInt8) then (some 5) else (if a0.toList = ([62, 61] : List UInt8) then (some 6) else (some 0)))))))))))
theorem parse_opOf.calls (a0 : ByteArray) (r : Int) (w : World) (h : parse_opOf.f a0 = some r) :
  Calls Try.prog 123 #[.string a0] w fun e w' => e = .returned (.int .i64 r) ∧ Drawn0 w w' := by
 have H : (if a0.toList = ([111, 114] : List UInt8) then (some 11) else (if a0.toList = ([97, 110, 100] : List UInt8) then (some 10) else (if a0.toList = ([43] : List UInt8) then (some 7) else (if a0.toList = ([45] : List UInt8) then (some 8) else (if a0.toList = ([42] : List UInt8) then (some 9) else (if a0.toList = ([61] : List UInt8) then (some 1) else (if a0.toList = ([60, 62] : List UInt8) then (some 2) else (if a0.toList = ([60] : List UInt8) then (some 3) else (if a0.toList = ([60, 61] : List UInt8) then (some 4) else (if a0.toList = ([62] : List UInt8) then (some 5) else (if a0.toList = ([62, 61] : List UInt8) then (some 6) else (some 0)))))))))))) = some r := h; clear h
 by_cases c2 : a0.toList = ([111, 114] : List UInt8)
 ·rw [if_pos c2] at H
  have c2b0 : (a0.toList == ([111, 114] : List UInt8)) = true := beq_iff_eq.mpr c2; have c2b1 : (a0.toList != ([111, 114] : List UInt8)) = false := bne_eq_false_iff_eq.mpr c2; clear c2; obtain rfl := Option.some.inj H
  go_enter Try.func123, Try.ntmps123
  go_wp2
  go_ret
  exact ⟨rs_, by repeat (first | exact Drawn0.refl _ | apply Drawn0.step)⟩
 ·rw [if_neg c2] at H
  have c2b0 : (a0.toList == ([111, 114] : List UInt8)) = false := beq_eq_false_iff_ne.mpr c2; have c2b1 : (a0.toList != ([111, 114] : List UInt8)) = true := bne_iff_ne.mpr c2
  by_cases c3 : a0.toList = ([97, 110, 100] : List UInt8)
  ·rw [if_pos c3] at H
   have c3b0 : (a0.toList == ([97, 110, 100] : List UInt8)) = true := beq_iff_eq.mpr c3; have c3b1 : (a0.toList != ([97, 110, 100] : List UInt8)) = false := bne_eq_false_iff_eq.mpr c3; clear c3; obtain rfl := Option.some.inj H
   go_enter Try.func123, Try.ntmps123
   go_wp2
   go_ret
   exact ⟨rs_, by repeat (first | exact Drawn0.refl _ | apply Drawn0.step)⟩
  ·rw [if_neg c3] at H
   have c3b0 : (a0.toList == ([97, 110, 100] : List UInt8)) = false := beq_eq_false_iff_ne.mpr c3; have c3b1 : (a0.toList != ([97, 110, 100] : List UInt8)) = true := bne_iff_ne.mpr c3
   by_cases c4 : a0.toList = ([43] : List UInt8)
   ·rw [if_pos c4] at H
    have c4b0 : (a0.toList == ([43] : List UInt8)) = true := beq_iff_eq.mpr c4; have c4b1 : (a0.toList != ([43] : List UInt8)) = false := bne_eq_false_iff_eq.mpr c4; clear c4; obtain rfl := Option.some.inj H
    go_enter Try.func123, Try.ntmps123
    go_wp2
    go_ret
    exact ⟨rs_, by repeat (first | exact Drawn0.refl _ | apply Drawn0.step)⟩
   ·rw [if_neg c4] at H
    have c4b0 : (a0.toList == ([43] : List UInt8)) = false := beq_eq_false_iff_ne.mpr c4; have c4b1 : (a0.toList != ([43] : List UInt8)) = true := bne_iff_ne.mpr c4
    by_cases c5 : a0.toList = ([45] : List UInt8)
    ·rw [if_pos c5] at H
     have c5b0 : (a0.toList == ([45] : List UInt8)) = true := beq_iff_eq.mpr c5; have c5b1 : (a0.toList != ([45] : List UInt8)) = false := bne_eq_false_iff_eq.mpr c5; clear c5; obtain rfl := Option.some.inj H
     go_enter Try.func123, Try.ntmps123
     go_wp2
     go_ret
     exact ⟨rs_, by repeat (first | exact Drawn0.refl _ | apply Drawn0.step)⟩
    ·rw [if_neg c5] at H
     have c5b0 : (a0.toList == ([45] : List UInt8)) = false := beq_eq_false_iff_ne.mpr c5; have c5b1 : (a0.toList != ([45] : List UInt8)) = true := bne_iff_ne.mpr c5
     by_cases c6 : a0.toList = ([42] : List UInt8)
     ·rw [if_pos c6] at H
      have c6b0 : (a0.toList == ([42] : List UInt8)) = true := beq_iff_eq.mpr c6; have c6b1 : (a0.toList != ([42] : List UInt8)) = false := bne_eq_false_iff_eq.mpr c6; clear c6; obtain rfl := Option.some.inj H
      go_enter Try.func123, Try.ntmps123
      go_wp2
      go_ret
      exact ⟨rs_, by repeat (first | exact Drawn0.refl _ | apply Drawn0.step)⟩
     ·rw [if_neg c6] at H
      have c6b0 : (a0.toList == ([42] : List UInt8)) = false := beq_eq_false_iff_ne.mpr c6; have c6b1 : (a0.toList != ([42] : List UInt8)) = true := bne_iff_ne.mpr c6
      by_cases c7 : a0.toList = ([61] : List UInt8)
      ·rw [if_pos c7] at H
       have c7b0 : (a0.toList == ([61] : List UInt8)) = true := beq_iff_eq.mpr c7; have c7b1 : (a0.toList != ([61] : List UInt8)) = false := bne_eq_false_iff_eq.mpr c7; clear c7; obtain rfl := Option.some.inj H
       go_enter Try.func123, Try.ntmps123
       go_wp2
       go_ret
       exact ⟨rs_, by repeat (first | exact Drawn0.refl _ | apply Drawn0.step)⟩
      ·rw [if_neg c7] at H
       have c7b0 : (a0.toList == ([61] : List UInt8)) = false := beq_eq_false_iff_ne.mpr c7; have c7b1 : (a0.toList != ([61] : List UInt8)) = true := bne_iff_ne.mpr c7
       by_cases c8 : a0.toList = ([60, 62] : List UInt8)
       ·rw [if_pos c8] at H
        have c8b0 : (a0.toList == ([60, 62] : List UInt8)) = true := beq_iff_eq.mpr c8; have c8b1 : (a0.toList != ([60, 62] : List UInt8)) = false := bne_eq_false_iff_eq.mpr c8; clear c8; obtain rfl := Option.some.inj H
        go_enter Try.func123, Try.ntmps123
        go_wp2
        go_ret
        exact ⟨rs_, by repeat (first | exact Drawn0.refl _ | apply Drawn0.step)⟩
       ·rw [if_neg c8] at H
        have c8b0 : (a0.toList == ([60, 62] : List UInt8)) = false := beq_eq_false_iff_ne.mpr c8; have c8b1 : (a0.toList != ([60, 62] : List UInt8)) = true := bne_iff_ne.mpr c8
        by_cases c9 : a0.toList = ([60] : List UInt8)
        ·rw [if_pos c9] at H
         have c9b0 : (a0.toList == ([60] : List UInt8)) = true := beq_iff_eq.mpr c9; have c9b1 : (a0.toList != ([60] : List UInt8)) = false := bne_eq_false_iff_eq.mpr c9; clear c9; obtain rfl := Option.some.inj H
         go_enter Try.func123, Try.ntmps123
         go_wp2
         go_ret
         exact ⟨rs_, by repeat (first | exact Drawn0.refl _ | apply Drawn0.step)⟩
        ·rw [if_neg c9] at H
         have c9b0 : (a0.toList == ([60] : List UInt8)) = false := beq_eq_false_iff_ne.mpr c9; have c9b1 : (a0.toList != ([60] : List UInt8)) = true := bne_iff_ne.mpr c9
         by_cases c10 : a0.toList = ([60, 61] : List UInt8)
         ·rw [if_pos c10] at H
          have c10b0 : (a0.toList == ([60, 61] : List UInt8)) = true := beq_iff_eq.mpr c10; have c10b1 : (a0.toList != ([60, 61] : List UInt8)) = false := bne_eq_false_iff_eq.mpr c10; clear c10; obtain rfl := Option.some.inj H
          go_enter Try.func123, Try.ntmps123
          go_wp2
          go_ret
          exact ⟨rs_, by repeat (first | exact Drawn0.refl _ | apply Drawn0.step)⟩
         ·rw [if_neg c10] at H
          have c10b0 : (a0.toList == ([60, 61] : List UInt8)) = false := beq_eq_false_iff_ne.mpr c10; have c10b1 : (a0.toList != ([60, 61] : List UInt8)) = true := bne_iff_ne.mpr c10
          by_cases c11 : a0.toList = ([62] : List UInt8)
          ·rw [if_pos c11] at H
           have c11b0 : (a0.toList == ([62] : List UInt8)) = true := beq_iff_eq.mpr c11; have c11b1 : (a0.toList != ([62] : List UInt8)) = false := bne_eq_false_iff_eq.mpr c11; clear c11; obtain rfl := Option.some.inj H
           go_enter Try.func123, Try.ntmps123
           go_wp2
           go_ret
           exact ⟨rs_, by repeat (first | exact Drawn0.refl _ | apply Drawn0.step)⟩
          ·rw [if_neg c11] at H
           have c11b0 : (a0.toList == ([62] : List UInt8)) = false := beq_eq_false_iff_ne.mpr c11; have c11b1 : (a0.toList != ([62] : List UInt8)) = true := bne_iff_ne.mpr c11
           by_cases c12 : a0.toList = ([62, 61] : List UInt8)
           ·rw [if_pos c12] at H
            have c12b0 : (a0.toList == ([62, 61] : List UInt8)) = true := beq_iff_eq.mpr c12; have c12b1 : (a0.toList != ([62, 61] : List UInt8)) = false := bne_eq_false_iff_eq.mpr c12; clear c12; obtain rfl := Option.some.inj H
            go_enter Try.func123, Try.ntmps123
            go_wp2
            go_ret
            exact ⟨rs_, by repeat (first | exact Drawn0.refl _ | apply Drawn0.step)⟩
           ·rw [if_neg c12] at H
            have c12b0 : (a0.toList == ([62, 61] : List UInt8)) = false := beq_eq_false_iff_ne.mpr c12; have c12b1 : (a0.toList != ([62, 61] : List UInt8)) = true := bne_iff_ne.mpr c12; obtain rfl := Option.some.inj H
            go_enter Try.func123, Try.ntmps123
            go_wp2
            go_ret
            exact ⟨rs_, by repeat (first | exact Drawn0.refl _ | apply Drawn0.step)⟩
def parse_parser_fail.f (s0_0 : List (S91)) (s0_1 : Int) (s0_2 : Int) (s0_3 : Int) (a1 : Int) : Option (Int × Int × Int) := if s0_3 = 0 then (some (s0_1, s0_2, a1)) else (some (s0_1, s0_2, s0_3))
theorem parse_parser_fail.calls (g : Nat) (s0_0 : List (S91)) (s0_1 : Int) (s0_2 : Int) (s0_3 : Int) (a1 : Int) (r1 : Int) (r2 : Int) (r3 : Int) (w0 w : World) (hI : IsS89 w0 w g s0_0 s0_1 s0_2 s0_3) (hB : Below w0.heap.size w0 w) (h : parse_parser_fail.f s0_0 s0_1 s0_2 s0_3 a1 = some (r1, r2, r3)) :
  Calls Try.prog 82 #[.pointer (some ⟨g, 0, none⟩), .int .i64 a1] w fun e w' => e = .returned (.tuple #[]) ∧ IsS89 w0 w' g s0_0 r1 r2 r3 ∧ Below w0.heap.size w0 w' ∧ KeepBut w w' g none := by
 have HI0 := am_ hI; have HK := am_ (KeepBut.refl w g none); have HL := am_ hB.size; clear hI; have HW0 := am_ hB.size; have HB := am_ hB; clear hB; have H : (if s0_3 = 0 then (some (s0_1, s0_2, a1)) else (some (s0_1, s0_2, s0_3))) = some (r1, r2, r3) := h; clear h
 by_cases c3 : s0_3 = 0
 ·rw [if_pos c3] at H
  have c3b0 : (s0_3 == 0) = true := beq_iff_eq.mpr c3; have c3b1 : (s0_3 != 0) = false := bne_eq_false_iff_eq.mpr c3; clear c3; simp only [Option.some.injEq, Prod.mk.injEq] at H; obtain ⟨rfl, rfl, rfl⟩ := H; obtain ⟨ASz4_0, cSz4_0, HGz4, hgz4, HSz4_0⟩ := HI0.out; have hcz4_0 := cellS89_0 HGz4; have hcz4_1 := cellS89_1 HGz4; have hcz4_2 := cellS89_2 HGz4; have hcz4_3 := cellS89_3 HGz4; have hfz4_1 := blk_frozen HGz4 1; have hfz4_2 := blk_frozen HGz4 2; have hfz4_3 := blk_frozen HGz4 3; clear HGz4 hgz4
  go_enter Try.func82, Try.ntmps82
  go_wp2
  first | go_end0 | ((try simp only [Exit.inBlock, Exit.then]); refine bodyPost_ret (results_none rfl _ _ _) rfl ?_)
  exact ⟨ew_, by repeat (first | (with_reducible first | exact HI0.out | apply IsS89.alloc | apply IsS89.drewN | apply IsS89.drew | apply IsS89.set_1 | apply IsS89.set_2 | apply IsS89.set_3) | exact HI0.out), by repeat (first | (with_reducible first | exact HB.out | apply below_alloc | apply pw_below_drewN | apply below_drew1 | refine below_set ?_ (IsS89.ge HI0.out)) | exact HB.out), by repeat (first | (with_reducible first | exact HK.out | apply KeepBut.set_ | apply keep_drewN | apply keep_drew | apply keep_alloc) | exact HK.out)⟩
 ·rw [if_neg c3] at H
  have c3b0 : (s0_3 == 0) = false := beq_eq_false_iff_ne.mpr c3; have c3b1 : (s0_3 != 0) = true := bne_iff_ne.mpr c3; simp only [Option.some.injEq, Prod.mk.injEq] at H; obtain ⟨rfl, rfl, rfl⟩ := H; obtain ⟨ASz5_0, cSz5_0, HGz5, hgz5, HSz5_0⟩ := HI0.out; have hcz5_0 := cellS89_0 HGz5; have hcz5_1 := cellS89_1 HGz5; have hcz5_2 := cellS89_2 HGz5; have hcz5_3 := cellS89_3 HGz5; have hfz5_1 := blk_frozen HGz5 1; have hfz5_2 := blk_frozen HGz5 2; have hfz5_3 := blk_frozen HGz5 3; clear HGz5 hgz5
  go_enter Try.func82, Try.ntmps82
  go_wp2
  first | go_end0 | ((try simp only [Exit.inBlock, Exit.then]); refine bodyPost_ret (results_none rfl _ _ _) rfl ?_)
  exact ⟨ew_, by repeat (first | (with_reducible first | exact HI0.out | apply IsS89.alloc | apply IsS89.drewN | apply IsS89.drew | apply IsS89.set_1 | apply IsS89.set_2 | apply IsS89.set_3) | exact HI0.out), by repeat (first | (with_reducible first | exact HB.out | apply below_alloc | apply pw_below_drewN | apply below_drew1 | refine below_set ?_ (IsS89.ge HI0.out)) | exact HB.out), by repeat (first | (with_reducible first | exact HK.out | apply KeepBut.set_ | apply keep_drewN | apply keep_drew | apply keep_alloc) | exact HK.out)⟩
end Go.Proofs.Ytcfgjaggccnoaaa.PParseSmall
namespace Go.Proofs.Ytcfgjaggccnoaaa.PParseSmall
open Go.RowKit Go.Proofs.YtcfgjaggccnoaaaW.PrintWords Go.Proofs.YtcfgjaggccnoaaaW.PrintLast Go.Proofs.YtcfgjaggccnoaaaW.PrintMore
attribute [local go_sem] max2_int min2_int max_two min_two max_three min_three max_four min_four
set_option linter.unusedVariables false
set_option maxHeartbeats 8000000
set_option linter.unusedSimpArgs false
set_option maxRecDepth 100000
def parse_parser_down.f (s0_0 : List (S91)) (s0_1 : Int) (s0_2 : Int) (s0_3 : Int) : Option (Int × Int × Int) := if (wrap64 (s0_2 + 1)) > 50 then ((parse_parser_fail.f s0_0 s0_1 (wrap64 (s0_2 + 1)) s0_3 4).bind fun bt171 => (some (bt171.1, bt171.2.1, bt171.2.2))) else (some (s0_1, wrap64 (s0_2 + 1), s0_3))
theorem parse_parser_down.calls (g : Nat) (s0_0 : List (S91)) (s0_1 : Int) (s0_2 : Int) (s0_3 : Int) (r1 : Int) (r2 : Int) (r3 : Int) (w0 w : World) (hI : IsS89 w0 w g s0_0 s0_1 s0_2 s0_3) (hB : Below w0.heap.size w0 w) (h : parse_parser_down.f s0_0 s0_1 s0_2 s0_3 = some (r1, r2, r3)) :
  Calls Try.prog 151 #[.pointer (some ⟨g, 0, none⟩)] w fun e w' => e = .returned (.tuple #[]) ∧ IsS89 w0 w' g s0_0 r1 r2 r3 ∧ Below w0.heap.size w0 w' ∧ KeepBut w w' g none := by
 have HI0 := am_ hI; have HK := am_ (KeepBut.refl w g none); have HL := am_ hB.size; clear hI; have HW0 := am_ hB.size; have HB := am_ hB; clear hB; have H : (if (wrap64 (s0_2 + 1)) > 50 then ((parse_parser_fail.f s0_0 s0_1 (wrap64 (s0_2 + 1)) s0_3 4).bind fun bt171 => (some (bt171.1, bt171.2.1, bt171.2.2))) else (some (s0_1, wrap64 (s0_2 + 1), s0_3))) = some (r1, r2, r3) := h; clear h
 by_cases c2 : (wrap64 (s0_2 + 1)) > 50
 ·rw [if_pos c2] at H
  have c2b0 : decide (50 < (wrap64 (s0_2 + 1))) = true := decide_eq_true c2; clear c2; replace H := Option.bind_eq_some_iff.mp H; obtain ⟨⟨t171, t172, t173⟩, A30, H⟩ := H; replace H : (some (t171, t172, t173)) = some (r1, r2, r3) := H; have A3 := am_ A30; clear A30; simp only [Option.some.injEq, Prod.mk.injEq] at H; obtain ⟨rfl, rfl, rfl⟩ := H; obtain ⟨ASz4_0, cSz4_0, HGz4, hgz4, HSz4_0⟩ := HI0.out; have hcz4_0 := cellS89_0 HGz4; have hcz4_1 := cellS89_1 HGz4; have hcz4_2 := cellS89_2 HGz4; have hcz4_3 := cellS89_3 HGz4; have hfz4_1 := blk_frozen HGz4 1; have hfz4_2 := blk_frozen HGz4 2; have hfz4_3 := blk_frozen HGz4 3; clear HGz4 hgz4
  go_enter Try.func151, Try.ntmps151
  go_wp2_with (first | ((with_reducible refine gate_callee (f := 82) rfl ?_); refine goesL_ (some 15) rfl rfl Try.func82 (by kernel_rfl) rfl #[.pointer (some ⟨g, 0, none⟩), .int .i64 4] rfl (by (try simp only [List.map_toArray, List.map_cons, List.map_nil]); first | done | rfl | (simp only [List.length_drop, List.length_take]; rfl)) ?_; (with_reducible refine (parse_parser_fail.calls g s0_0 s0_1 (wrap64 (s0_2 + 1)) s0_3 4 t171 t172 t173 w0 _ ?side1 ?side2 A3.out).mono ?_); (case side1 => repeat (first | (with_reducible first | exact HI0.out | apply IsS89.alloc | apply IsS89.drewN | apply IsS89.drew | apply IsS89.set_1 | apply IsS89.set_2 | apply IsS89.set_3) | exact HI0.out)); (case side2 => repeat (first | (with_reducible first | exact HB.out | apply below_alloc | apply pw_below_drewN | apply below_drew1 | refine below_set ?_ (IsS89.ge HI0.out)) | exact HB.out)); rintro e w5 ⟨rfl, hi, hb, hk⟩; refine ⟨_, rfl, ?_⟩; replace HK := am_ (KeepBut.trans (by repeat (first | (with_reducible first | exact HK.out | apply KeepBut.set_ | apply keep_drewN | apply keep_drew | apply keep_alloc) | exact HK.out)) hk (.inl rfl)); replace HI0 := am_ (hi); replace HB := am_ (hb); (try clear hb); (try clear hb2); (try clear hk); (try clear hi)))
  first | go_end0 | ((try simp only [Exit.inBlock, Exit.then]); refine bodyPost_ret (results_none rfl _ _ _) rfl ?_)
  exact ⟨ew_, by repeat (first | (with_reducible first | exact HI0.out | apply IsS89.alloc | apply IsS89.drewN | apply IsS89.drew | apply IsS89.set_1 | apply IsS89.set_2 | apply IsS89.set_3) | exact HI0.out), by repeat (first | (with_reducible first | exact HB.out | apply below_alloc | apply pw_below_drewN | apply below_drew1 | refine below_set ?_ (IsS89.ge HI0.out)) | exact HB.out), by repeat (first | (with_reducible first | exact HK.out | apply KeepBut.set_ | apply keep_drewN | apply keep_drew | apply keep_alloc) | exact HK.out)⟩
 ·rw [if_neg c2] at H
  have c2b0 : decide (50 < (wrap64 (s0_2 + 1))) = false := decide_eq_false c2; clear c2; simp only [Option.some.injEq, Prod.mk.injEq] at H; obtain ⟨rfl, rfl, rfl⟩ := H; obtain ⟨ASz6_0, cSz6_0, HGz6, hgz6, HSz6_0⟩ := HI0.out; have hcz6_0 := cellS89_0 HGz6; have hcz6_1 := cellS89_1 HGz6; have hcz6_2 := cellS89_2 HGz6; have hcz6_3 := cellS89_3 HGz6; have hfz6_1 := blk_frozen HGz6 1; have hfz6_2 := blk_frozen HGz6 2; have hfz6_3 := blk_frozen HGz6 3; clear HGz6 hgz6
  go_enter Try.func151, Try.ntmps151
  go_wp2
  first | go_end0 | ((try simp only [Exit.inBlock, Exit.then]); refine bodyPost_ret (results_none rfl _ _ _) rfl ?_)
  exact ⟨ew_, by repeat (first | (with_reducible first | exact HI0.out | apply IsS89.alloc | apply IsS89.drewN | apply IsS89.drew | apply IsS89.set_1 | apply IsS89.set_2 | apply IsS89.set_3) | exact HI0.out), by repeat (first | (with_reducible first | exact HB.out | apply below_alloc | apply pw_below_drewN | apply below_drew1 | refine below_set ?_ (IsS89.ge HI0.out)) | exact HB.out), by repeat (first | (with_reducible first | exact HK.out | apply KeepBut.set_ | apply keep_drewN | apply keep_drew | apply keep_alloc) | exact HK.out)⟩
def parse_parser_up.f (s0_0 : List (S91)) (s0_1 : Int) (s0_2 : Int) (s0_3 : Int) : Option (Int × Int × Int) := some (s0_1, wrap64 (s0_2 - 1), s0_3)
theorem parse_parser_up.calls (g : Nat) (s0_0 : List (S91)) (s0_1 : Int) (s0_2 : Int) (s0_3 : Int) (r1 : Int) (r2 : Int) (r3 : Int) (w0 w : World) (hI : IsS89 w0 w g s0_0 s0_1 s0_2 s0_3) (hB : Below w0.heap.size w0 w) (h : parse_parser_up.f s0_0 s0_1 s0_2 s0_3 = some (r1, r2, r3)) :
  Calls Try.prog 152 #[.pointer (some ⟨g, 0, none⟩)] w fun e w' => e = .returned (.tuple #[]) ∧ IsS89 w0 w' g s0_0 r1 r2 r3 ∧ Below w0.heap.size w0 w' ∧ KeepBut w w' g none := by
 have HI0 := am_ hI; have HK := am_ (KeepBut.refl w g none); have HL := am_ hB.size; clear hI; have HW0 := am_ hB.size; have HB := am_ hB; clear hB; have H : (some (s0_1, wrap64 (s0_2 - 1), s0_3)) = some (r1, r2, r3) := h; clear h; simp only [Option.some.injEq, Prod.mk.injEq] at H; obtain ⟨rfl, rfl, rfl⟩ := H; obtain ⟨ASz2_0, cSz2_0, HGz2, hgz2, HSz2_0⟩ := HI0.out; have hcz2_0 := cellS89_0 HGz2; have hcz2_1 := cellS89_1 HGz2; have hcz2_2 := cellS89_2 HGz2; have hcz2_3 := cellS89_3 HGz2; have hfz2_1 := blk_frozen HGz2 1; have hfz2_2 := blk_frozen HGz2 2; have hfz2_3 := blk_frozen HGz2 3; clear HGz2 hgz2
 go_enter Try.func152, Try.ntmps152
 go_wp2
 first | go_end0 | ((try simp only [Exit.inBlock, Exit.then]); refine bodyPost_ret (results_none rfl _ _ _) rfl ?_)
 exact ⟨ew_, by repeat (first | (with_reducible first | exact HI0.out | apply IsS89.alloc | apply IsS89.drewN | apply IsS89.drew | apply IsS89.set_1 | apply IsS89.set_2 | apply IsS89.set_3) | exact HI0.out), by repeat (first | (with_reducible first | exact HB.out | apply below_alloc | apply pw_below_drewN | apply below_drew1 | refine below_set ?_ (IsS89.ge HI0.out)) | exact HB.out), by repeat (first | (with_reducible first | exact HK.out | apply KeepBut.set_ | apply keep_drewN | apply keep_drew | apply keep_alloc) | exact HK.out)⟩
def tree_Val.f (a0_0 : Int) (a0_1 : Int) (a0_2 : ByteArray) : Option (Int × ByteArray × ByteArray × Int × Int × Int × Int × ByteArray × (List (S27))) := some (16, (⟨#[]⟩ : ByteArray), (⟨#[]⟩ : ByteArray), 0, 0, a0_0, a0_1, a0_2, ([] : List (S27)))
theorem tree_Val.calls (a0_0 : Int) (a0_1 : Int) (a0_2 : ByteArray) (r1 : Int) (r2 : ByteArray) (r3 : ByteArray) (r4 : Int) (r5 : Int) (r6 : Int) (r7 : Int) (r8 : ByteArray) (r9 : List (S27)) (w : World) (h : tree_Val.f a0_0 a0_1 a0_2 = some (r1, r2, r3, r4, r5, r6, r7, r8, r9)) :
  Calls Try.prog 187 #[.agg #[.int .i64 a0_0, .int .i64 a0_1, .string a0_2]] w fun e w' => ∃ v8_ : Value, e = .returned (.agg #[.int .i64 r1, .string r2, .string r3, .int .i64 r4, .int .i64 r5, .int .i64 r6, .int .i64 r7, .string r8, v8_]) ∧ Kd.R k27 27 w' w.heap.size (fun _ => True) v8_ r9 ∧ Below w.heap.size w w' := by
 have hu25 := Try.underlying25; have hu27 := Try.underlying27; have HB := am_ (Below.refl w.heap.size w); have H : (some (16, (⟨#[]⟩ : ByteArray), (⟨#[]⟩ : ByteArray), 0, 0, a0_0, a0_1, a0_2, ([] : List (S27)))) = some (r1, r2, r3, r4, r5, r6, r7, r8, r9) := h; clear h; simp only [Option.some.injEq, Prod.mk.injEq] at H; obtain ⟨rfl, rfl, rfl, rfl, rfl, rfl, rfl, rfl, rfl⟩ := H
 go_enter Try.func187, Try.ntmps187
 go_wp2_with (first | ((with_reducible refine gate_dst (N := 1) rfl ?_); refine box_event ?hg (N := 1) ?hd (cs := #[.int .i64 a0_0, .int .i64 a0_1, .string a0_2]) (t := 25) ?hr ?_; (case hd => rfl); (case hg => rfl); (case hr => first | (go_simp; done) | (go_simp; rfl)); intro gb174 hg w2 hbox hb; have BK174 := am_ (hbox); have GW174 := am_ ((by rw [hg]; exact (below_size (bl_)) : w.heap.size ≤ gb174)); have GE174 := am_ ((by rw [hg]; exact (below_size (bl_)) : w.heap.size ≤ gb174)); replace HB := am_ (below_step (bl_) hb); clear hb hbox hg) | ((with_reducible refine gate_dst (N := 2) rfl ?_); refine box_event ?hg (N := 2) ?hd (cs := #[.int .i64 0, .string (⟨#[]⟩ : ByteArray), .string (⟨#[]⟩ : ByteArray), .int .i64 0, .int .i64 0, .int .i64 0, .int .i64 0, .string (⟨#[]⟩ : ByteArray), .slice none 0 0]) (t := 27) ?hr ?_; (case hd => rfl); (case hg => rfl); (case hr => first | (go_simp; done) | (go_simp; rfl)); intro gb175 hg w3 hbox hb; have n0_ := am_ (blk_below (bk_ BK174.out) hb); have n1_ := am_ (below_step (bl_) hb); have n2_ := am_ (hbox); have n3_ := am_ ((by rw [hg]; exact (below_size (bl_)) : w.heap.size ≤ gb175)); have n4_ := am_ ((by rw [hg]; exact (below_size (bl_)) : w.heap.size ≤ gb175)); have n5_ := am_ ((by rw [hg]; exact Nat.ne_of_lt (blk_lt (g := gb174) (o := .cells #[.int .i64 a0_0, .int .i64 a0_1, .string a0_2] 25 (0, 0)) (bk_ BK174.out)) : gb174 ≠ gb175)); have n6_ := am_ ((by rw [hg]; exact Nat.ne_of_gt (blk_lt (g := gb174) (o := .cells #[.int .i64 a0_0, .int .i64 a0_1, .string a0_2] 25 (0, 0)) (bk_ BK174.out)) : gb175 ≠ gb174)); clear BK174; clear HB; have BK174 := n0_; have HB := n1_; have BK175 := n2_; have GW175 := n3_; have GE175 := n4_; have NB174_175 := n5_; have NB175_174 := n6_; clear n0_ n1_ n2_ n3_ n4_ n5_ n6_; clear hb hbox hg; have hnb4 := NB174_175.out; have hnc4 := NB175_174.out; obtain ⟨hcz5_0, hcz5_1, hcz5_2, hfz5_0, hfz5_1, hfz5_2⟩ := bw3_ BK174.out; obtain ⟨hcz6_0, hcz6_1, hcz6_2, hcz6_3, hcz6_4, hcz6_5, hcz6_6, hcz6_7, hcz6_8, hfz6_0, hfz6_1, hfz6_2, hfz6_3, hfz6_4, hfz6_5, hfz6_6, hfz6_7, hfz6_8⟩ := bw9_ BK175.out))
 refine bodyPost_ret (results_cell_row rfl _ _ gb175 27 #[.int .i64 16, .string (⟨#[]⟩ : ByteArray), .string (⟨#[]⟩ : ByteArray), .int .i64 0, .int .i64 0, .int .i64 a0_0, .int .i64 a0_1, .string a0_2, .slice none 0 0] (0, 0) _ rfl (by refine bp_ ?_; refine blk_put (cs := #[.int .i64 16, .string (⟨#[]⟩ : ByteArray), .string (⟨#[]⟩ : ByteArray), .int .i64 0, .int .i64 0, .int .i64 a0_0, .int .i64 a0_1, .string a0_2, .slice none 0 0]) ?_ 8 _ rfl; refine bp_ ?_; refine blk_put (cs := #[.int .i64 16, .string (⟨#[]⟩ : ByteArray), .string (⟨#[]⟩ : ByteArray), .int .i64 0, .int .i64 0, .int .i64 a0_0, .int .i64 a0_1, .string (⟨#[]⟩ : ByteArray), .slice none 0 0]) ?_ 7 _ rfl; refine bp_ ?_; refine blk_put (cs := #[.int .i64 16, .string (⟨#[]⟩ : ByteArray), .string (⟨#[]⟩ : ByteArray), .int .i64 0, .int .i64 0, .int .i64 a0_0, .int .i64 0, .string (⟨#[]⟩ : ByteArray), .slice none 0 0]) ?_ 6 _ rfl; refine bp_ ?_; refine blk_put (cs := #[.int .i64 16, .string (⟨#[]⟩ : ByteArray), .string (⟨#[]⟩ : ByteArray), .int .i64 0, .int .i64 0, .int .i64 0, .int .i64 0, .string (⟨#[]⟩ : ByteArray), .slice none 0 0]) ?_ 5 _ rfl; refine bp_ ?_; refine blk_put (cs := #[.int .i64 16, .string (⟨#[]⟩ : ByteArray), .string (⟨#[]⟩ : ByteArray), .int .i64 0, .int .i64 0, .int .i64 0, .int .i64 0, .string (⟨#[]⟩ : ByteArray), .slice none 0 0]) ?_ 4 _ rfl; refine bp_ ?_; refine blk_put (cs := #[.int .i64 16, .string (⟨#[]⟩ : ByteArray), .string (⟨#[]⟩ : ByteArray), .int .i64 0, .int .i64 0, .int .i64 0, .int .i64 0, .string (⟨#[]⟩ : ByteArray), .slice none 0 0]) ?_ 3 _ rfl; refine bp_ ?_; refine blk_put (cs := #[.int .i64 16, .string (⟨#[]⟩ : ByteArray), .string (⟨#[]⟩ : ByteArray), .int .i64 0, .int .i64 0, .int .i64 0, .int .i64 0, .string (⟨#[]⟩ : ByteArray), .slice none 0 0]) ?_ 2 _ rfl; refine bp_ ?_; refine blk_put (cs := #[.int .i64 16, .string (⟨#[]⟩ : ByteArray), .string (⟨#[]⟩ : ByteArray), .int .i64 0, .int .i64 0, .int .i64 0, .int .i64 0, .string (⟨#[]⟩ : ByteArray), .slice none 0 0]) ?_ 1 _ rfl; refine bp_ ?_; refine blk_put (cs := #[.int .i64 0, .string (⟨#[]⟩ : ByteArray), .string (⟨#[]⟩ : ByteArray), .int .i64 0, .int .i64 0, .int .i64 0, .int .i64 0, .string (⟨#[]⟩ : ByteArray), .slice none 0 0]) ?_ 0 _ rfl; refine bp_ ?_; exact BK175.out) Try.underlying27 rfl (by kernel_rfl)) rfl ?_; exact ⟨_, ew_, by first | exact Kd.R_nil _ _ _ _ _ | exact Kd.N_nil _ _ _ _ _ | exact Kd.V_nil _ _ _ _ _ | exact Kd.Q_nil _ _ _ _ _ | exact Kd.S_nil _ _ _ _ _, bl_⟩
def val_Int.f (a0 : Int) : Option (Int × Int × ByteArray) := some (1, a0, (⟨#[]⟩ : ByteArray))
theorem val_Int.calls (a0 : Int) (r1 : Int) (r2 : Int) (r3 : ByteArray) (w : World) (h : val_Int.f a0 = some (r1, r2, r3)) :
  Calls Try.prog 188 #[.int .i64 a0] w fun e w' => e = .returned (.agg #[.int .i64 r1, .int .i64 r2, .string r3]) ∧ Below w.heap.size w w' := by
 have hu25 := Try.underlying25; have HB := am_ (Below.refl w.heap.size w); have H : (some (1, a0, (⟨#[]⟩ : ByteArray))) = some (r1, r2, r3) := h; clear h; simp only [Option.some.injEq, Prod.mk.injEq] at H; obtain ⟨rfl, rfl, rfl⟩ := H
 go_enter Try.func188, Try.ntmps188
 go_wp2_with (first | ((with_reducible refine gate_dst (N := 2) rfl ?_); refine box_event ?hg (N := 2) ?hd (cs := #[.int .i64 0, .int .i64 0, .string (⟨#[]⟩ : ByteArray)]) (t := 25) ?hr ?_; (case hd => rfl); (case hg => rfl); (case hr => first | (go_simp; done) | (go_simp; rfl)); intro gb176 hg w2 hbox hb; have BK176 := am_ (hbox); have GW176 := am_ ((by rw [hg]; exact (below_size (bl_)) : w.heap.size ≤ gb176)); have GE176 := am_ ((by rw [hg]; exact (below_size (bl_)) : w.heap.size ≤ gb176)); replace HB := am_ (below_step (bl_) hb); clear hb hbox hg; obtain ⟨hcz3_0, hcz3_1, hcz3_2, hfz3_0, hfz3_1, hfz3_2⟩ := bw3_ BK176.out))
 refine bodyPost_ret (results_cell_row rfl _ _ gb176 25 #[.int .i64 1, .int .i64 a0, .string (⟨#[]⟩ : ByteArray)] (0, 0) _ rfl (by refine bp_ ?_; refine blk_put (cs := #[.int .i64 1, .int .i64 a0, .string (⟨#[]⟩ : ByteArray)]) ?_ 2 _ rfl; refine bp_ ?_; refine blk_put (cs := #[.int .i64 1, .int .i64 0, .string (⟨#[]⟩ : ByteArray)]) ?_ 1 _ rfl; refine bp_ ?_; refine blk_put (cs := #[.int .i64 0, .int .i64 0, .string (⟨#[]⟩ : ByteArray)]) ?_ 0 _ rfl; refine bp_ ?_; exact BK176.out) Try.underlying25 rfl (by kernel_rfl)) rfl ?_; exact ⟨ew_, bl_⟩
def val_Null.f  : Option (Int × Int × ByteArray) := some (0, 0, (⟨#[]⟩ : ByteArray))
theorem val_Null.calls  (r1 : Int) (r2 : Int) (r3 : ByteArray) (w : World) (h : val_Null.f  = some (r1, r2, r3)) :
  Calls Try.prog 190 #[] w fun e w' => e = .returned (.agg #[.int .i64 r1, .int .i64 r2, .string r3]) ∧ Below w.heap.size w w' := by
 have hu25 := Try.underlying25; have HB := am_ (Below.refl w.heap.size w); have H : (some (0, 0, (⟨#[]⟩ : ByteArray))) = some (r1, r2, r3) := h; clear h; simp only [Option.some.injEq, Prod.mk.injEq] at H; obtain ⟨rfl, rfl, rfl⟩ := H
 go_enter Try.func190, Try.ntmps190
 go_wp2_with (first | ((with_reducible refine gate_dst (N := 0) rfl ?_); refine box_event ?hg (N := 0) ?hd (cs := #[.int .i64 0, .int .i64 0, .string (⟨#[]⟩ : ByteArray)]) (t := 25) ?hr ?_; (case hd => rfl); (case hg => rfl); (case hr => first | (go_simp; done) | (go_simp; rfl)); intro gb177 hg w1 hbox hb; have BK177 := am_ (hbox); have GW177 := am_ ((by rw [hg]; exact (below_size (bl_)) : w.heap.size ≤ gb177)); have GE177 := am_ ((by rw [hg]; exact (below_size (bl_)) : w.heap.size ≤ gb177)); replace HB := am_ (below_step (bl_) hb); clear hb hbox hg; obtain ⟨hcz2_0, hcz2_1, hcz2_2, hfz2_0, hfz2_1, hfz2_2⟩ := bw3_ BK177.out))
 refine bodyPost_ret (results_cell_row rfl _ _ gb177 25 #[.int .i64 0, .int .i64 0, .string (⟨#[]⟩ : ByteArray)] (0, 0) _ rfl (by refine bp_ ?_; refine blk_put (cs := #[.int .i64 0, .int .i64 0, .string (⟨#[]⟩ : ByteArray)]) ?_ 2 _ rfl; refine bp_ ?_; refine blk_put (cs := #[.int .i64 0, .int .i64 0, .string (⟨#[]⟩ : ByteArray)]) ?_ 1 _ rfl; refine bp_ ?_; refine blk_put (cs := #[.int .i64 0, .int .i64 0, .string (⟨#[]⟩ : ByteArray)]) ?_ 0 _ rfl; refine bp_ ?_; exact BK177.out) Try.underlying25 rfl (by kernel_rfl)) rfl ?_; exact ⟨ew_, bl_⟩
def val_Text.f (a0 : ByteArray) : Option (Int × Int × ByteArray) := if (a0.size : Int) > 65536 then ((val_Null.f).bind fun bt179 => (some (bt179.1, bt179.2.1, bt179.2.2))) else (some (2, 0, a0))
theorem val_Text.calls (a0 : ByteArray) (r1 : Int) (r2 : Int) (r3 : ByteArray) (w : World) (h : val_Text.f a0 = some (r1, r2, r3)) :
  Calls Try.prog 189 #[.string a0] w fun e w' => e = .returned (.agg #[.int .i64 r1, .int .i64 r2, .string r3]) ∧ Below w.heap.size w w' := by
 have hu25 := Try.underlying25; have HB := am_ (Below.refl w.heap.size w); have H : (if (a0.size : Int) > 65536 then ((val_Null.f).bind fun bt179 => (some (bt179.1, bt179.2.1, bt179.2.2))) else (some (2, 0, a0))) = some (r1, r2, r3) := h; clear h
 by_cases c2 : (a0.size : Int) > 65536
 ·rw [if_pos c2] at H
  have c2b0 : decide (65536 < (a0.size : Int)) = true := decide_eq_true c2; have c2b1 : decide (65536 < a0.size) = true := decide_eq_true (by omega); clear c2; replace H := Option.bind_eq_some_iff.mp H; obtain ⟨⟨t179, t180, t181⟩, A30, H⟩ := H; replace H : (some (t179, t180, t181)) = some (r1, r2, r3) := H; have A3 := am_ A30; clear A30; simp only [Option.some.injEq, Prod.mk.injEq] at H; obtain ⟨rfl, rfl, rfl⟩ := H
  go_enter Try.func189, Try.ntmps189
  go_wp2_with (first | ((with_reducible refine gate_dst (N := 2) rfl ?_); refine box_event ?hg (N := 2) ?hd (cs := #[.int .i64 0, .int .i64 0, .string (⟨#[]⟩ : ByteArray)]) (t := 25) ?hr ?_; (case hd => rfl); (case hg => rfl); (case hr => first | (go_simp; done) | (go_simp; rfl)); intro gb178 hg w4 hbox hb; have BK178 := am_ (hbox); have GW178 := am_ ((by rw [hg]; exact (below_size (bl_)) : w.heap.size ≤ gb178)); have GE178 := am_ ((by rw [hg]; exact (below_size (bl_)) : w.heap.size ≤ gb178)); replace HB := am_ (below_step (bl_) hb); clear hb hbox hg) | ((with_reducible refine gate_callee (f := 190) rfl ?_); refine goesL_ (some 6) rfl rfl Try.func190 (by kernel_rfl) rfl #[] rfl (by (try simp only [List.map_toArray, List.map_cons, List.map_nil]); first | done | rfl | (simp only [List.length_drop, List.length_take]; rfl)) ?_; (with_reducible refine (val_Null.calls  t179 t180 t181 _ A3.out).mono ?_); rintro e w5 ⟨rfl, hb⟩; refine ⟨_, rfl, ?_⟩; replace BK178 := am_ (blk_below (bk_ BK178.out) hb); replace HB := am_ (below_step (bl_) hb); (try clear hb); (try clear hb2); (try clear hk); (try clear hi); obtain ⟨hcz6_0, hcz6_1, hcz6_2, hfz6_0, hfz6_1, hfz6_2⟩ := bw3_ BK178.out))
  refine bodyPost_ret (results_cell_row rfl _ _ gb178 25 #[.int .i64 t179, .int .i64 t180, .string t181] (0, 0) _ rfl (by refine bp_ ?_; refine blk_put (cs := #[.int .i64 t179, .int .i64 t180, .string (⟨#[]⟩ : ByteArray)]) ?_ 2 _ rfl; refine bp_ ?_; refine blk_put (cs := #[.int .i64 t179, .int .i64 0, .string (⟨#[]⟩ : ByteArray)]) ?_ 1 _ rfl; refine bp_ ?_; refine blk_put (cs := #[.int .i64 0, .int .i64 0, .string (⟨#[]⟩ : ByteArray)]) ?_ 0 _ rfl; refine bp_ ?_; exact BK178.out) Try.underlying25 rfl (by kernel_rfl)) rfl ?_; exact ⟨ew_, bl_⟩
 ·rw [if_neg c2] at H
  have c2b0 : decide (65536 < (a0.size : Int)) = false := decide_eq_false c2; have c2b1 : decide (65536 < a0.size) = false := decide_eq_false (by omega); clear c2; simp only [Option.some.injEq, Prod.mk.injEq] at H; obtain ⟨rfl, rfl, rfl⟩ := H
  go_enter Try.func189, Try.ntmps189
  go_wp2_with (first | ((with_reducible refine gate_dst (N := 2) rfl ?_); refine box_event ?hg (N := 2) ?hd (cs := #[.int .i64 0, .int .i64 0, .string (⟨#[]⟩ : ByteArray)]) (t := 25) ?hr ?_; (case hd => rfl); (case hg => rfl); (case hr => first | (go_simp; done) | (go_simp; rfl)); intro gb178 hg w7 hbox hb; have BK178 := am_ (hbox); have GW178 := am_ ((by rw [hg]; exact (below_size (bl_)) : w.heap.size ≤ gb178)); have GE178 := am_ ((by rw [hg]; exact (below_size (bl_)) : w.heap.size ≤ gb178)); replace HB := am_ (below_step (bl_) hb); clear hb hbox hg; obtain ⟨hcz8_0, hcz8_1, hcz8_2, hfz8_0, hfz8_1, hfz8_2⟩ := bw3_ BK178.out))
  refine bodyPost_ret (results_cell_row rfl _ _ gb178 25 #[.int .i64 2, .int .i64 0, .string a0] (0, 0) _ rfl (by refine bp_ ?_; refine blk_put (cs := #[.int .i64 2, .int .i64 0, .string (⟨#[]⟩ : ByteArray)]) ?_ 2 _ rfl; refine bp_ ?_; refine blk_put (cs := #[.int .i64 2, .int .i64 0, .string (⟨#[]⟩ : ByteArray)]) ?_ 1 _ rfl; refine bp_ ?_; refine blk_put (cs := #[.int .i64 0, .int .i64 0, .string (⟨#[]⟩ : ByteArray)]) ?_ 0 _ rfl; refine bp_ ?_; exact BK178.out) Try.underlying25 rfl (by kernel_rfl)) rfl ?_; exact ⟨ew_, bl_⟩
def tree_Col.f (a0 : ByteArray) (a1 : ByteArray) : Option (Int × ByteArray × ByteArray × Int × Int × Int × Int × ByteArray × (List (S27))) := some (15, a0, a1, 0, 0, 0, 0, (⟨#[]⟩ : ByteArray), ([] : List (S27)))
theorem tree_Col.calls (a0 : ByteArray) (a1 : ByteArray) (r1 : Int) (r2 : ByteArray) (r3 : ByteArray) (r4 : Int) (r5 : Int) (r6 : Int) (r7 : Int) (r8 : ByteArray) (r9 : List (S27)) (w : World) (h : tree_Col.f a0 a1 = some (r1, r2, r3, r4, r5, r6, r7, r8, r9)) :
  Calls Try.prog 195 #[.string a0, .string a1] w fun e w' => ∃ v8_ : Value, e = .returned (.agg #[.int .i64 r1, .string r2, .string r3, .int .i64 r4, .int .i64 r5, .int .i64 r6, .int .i64 r7, .string r8, v8_]) ∧ Kd.R k27 27 w' w.heap.size (fun _ => True) v8_ r9 ∧ Below w.heap.size w w' := by
 have hu27 := Try.underlying27; have HB := am_ (Below.refl w.heap.size w); have H : (some (15, a0, a1, 0, 0, 0, 0, (⟨#[]⟩ : ByteArray), ([] : List (S27)))) = some (r1, r2, r3, r4, r5, r6, r7, r8, r9) := h; clear h; simp only [Option.some.injEq, Prod.mk.injEq] at H; obtain ⟨rfl, rfl, rfl, rfl, rfl, rfl, rfl, rfl, rfl⟩ := H
 go_enter Try.func195, Try.ntmps195
 go_wp2_with (first | ((with_reducible refine gate_dst (N := 4) rfl ?_); refine box_event ?hg (N := 4) ?hd (cs := #[.int .i64 0, .string (⟨#[]⟩ : ByteArray), .string (⟨#[]⟩ : ByteArray), .int .i64 0, .int .i64 0, .int .i64 0, .int .i64 0, .string (⟨#[]⟩ : ByteArray), .slice none 0 0]) (t := 27) ?hr ?_; (case hd => rfl); (case hg => rfl); (case hr => first | (go_simp; done) | (go_simp; rfl)); intro gb182 hg w3 hbox hb; have BK182 := am_ (hbox); have GW182 := am_ ((by rw [hg]; exact (below_size (bl_)) : w.heap.size ≤ gb182)); have GE182 := am_ ((by rw [hg]; exact (below_size (bl_)) : w.heap.size ≤ gb182)); replace HB := am_ (below_step (bl_) hb); clear hb hbox hg; obtain ⟨hcz4_0, hcz4_1, hcz4_2, hcz4_3, hcz4_4, hcz4_5, hcz4_6, hcz4_7, hcz4_8, hfz4_0, hfz4_1, hfz4_2, hfz4_3, hfz4_4, hfz4_5, hfz4_6, hfz4_7, hfz4_8⟩ := bw9_ BK182.out))
 refine bodyPost_ret (results_cell_row rfl _ _ gb182 27 #[.int .i64 15, .string a0, .string a1, .int .i64 0, .int .i64 0, .int .i64 0, .int .i64 0, .string (⟨#[]⟩ : ByteArray), .slice none 0 0] (0, 0) _ rfl (by refine bp_ ?_; refine blk_put (cs := #[.int .i64 15, .string a0, .string a1, .int .i64 0, .int .i64 0, .int .i64 0, .int .i64 0, .string (⟨#[]⟩ : ByteArray), .slice none 0 0]) ?_ 8 _ rfl; refine bp_ ?_; refine blk_put (cs := #[.int .i64 15, .string a0, .string a1, .int .i64 0, .int .i64 0, .int .i64 0, .int .i64 0, .string (⟨#[]⟩ : ByteArray), .slice none 0 0]) ?_ 7 _ rfl; refine bp_ ?_; refine blk_put (cs := #[.int .i64 15, .string a0, .string a1, .int .i64 0, .int .i64 0, .int .i64 0, .int .i64 0, .string (⟨#[]⟩ : ByteArray), .slice none 0 0]) ?_ 6 _ rfl; refine bp_ ?_; refine blk_put (cs := #[.int .i64 15, .string a0, .string a1, .int .i64 0, .int .i64 0, .int .i64 0, .int .i64 0, .string (⟨#[]⟩ : ByteArray), .slice none 0 0]) ?_ 5 _ rfl; refine bp_ ?_; refine blk_put (cs := #[.int .i64 15, .string a0, .string a1, .int .i64 0, .int .i64 0, .int .i64 0, .int .i64 0, .string (⟨#[]⟩ : ByteArray), .slice none 0 0]) ?_ 4 _ rfl; refine bp_ ?_; refine blk_put (cs := #[.int .i64 15, .string a0, .string a1, .int .i64 0, .int .i64 0, .int .i64 0, .int .i64 0, .string (⟨#[]⟩ : ByteArray), .slice none 0 0]) ?_ 3 _ rfl; refine bp_ ?_; refine blk_put (cs := #[.int .i64 15, .string a0, .string (⟨#[]⟩ : ByteArray), .int .i64 0, .int .i64 0, .int .i64 0, .int .i64 0, .string (⟨#[]⟩ : ByteArray), .slice none 0 0]) ?_ 2 _ rfl; refine bp_ ?_; refine blk_put (cs := #[.int .i64 15, .string (⟨#[]⟩ : ByteArray), .string (⟨#[]⟩ : ByteArray), .int .i64 0, .int .i64 0, .int .i64 0, .int .i64 0, .string (⟨#[]⟩ : ByteArray), .slice none 0 0]) ?_ 1 _ rfl; refine bp_ ?_; refine blk_put (cs := #[.int .i64 0, .string (⟨#[]⟩ : ByteArray), .string (⟨#[]⟩ : ByteArray), .int .i64 0, .int .i64 0, .int .i64 0, .int .i64 0, .string (⟨#[]⟩ : ByteArray), .slice none 0 0]) ?_ 0 _ rfl; refine bp_ ?_; exact BK182.out) Try.underlying27 rfl (by kernel_rfl)) rfl ?_; exact ⟨_, ew_, by first | exact Kd.R_nil _ _ _ _ _ | exact Kd.N_nil _ _ _ _ _ | exact Kd.V_nil _ _ _ _ _ | exact Kd.Q_nil _ _ _ _ _ | exact Kd.S_nil _ _ _ _ _, bl_⟩
def w09_code.f (a0 : Int) : Option (Int) := some a0
theorem w09_code.calls (a0 : Int) (r : Int) (w : World) (h : w09_code.f a0 = some r) :
  Calls Try.prog 16 #[.int .i64 a0] w fun e w' => e = .returned (.int .i64 r) ∧ Drawn0 w w' := by
 have H : (some a0) = some r := h; clear h; obtain rfl := Option.some.inj H
 go_enter Try.func16, Try.ntmps16
 go_wp2
 go_ret
 exact ⟨rs_, by repeat (first | exact Drawn0.refl _ | apply Drawn0.step)⟩
def r07_Blank.f (a0 : Int) : Option (Bool) := if a0 = 32 then (some true) else (if a0 = 9 then (some true) else (if a0 = 10 then (some true) else (some (a0 == 13))))
theorem r07_Blank.calls (a0 : Int) (r : Bool) (w : World) (h : r07_Blank.f a0 = some r) :
  Calls Try.prog 83 #[.int .u8 a0] w fun e w' => e = .returned (.bool r) ∧ Drawn0 w w' := by
 have H : (if a0 = 32 then (some true) else (if a0 = 9 then (some true) else (if a0 = 10 then (some true) else (some (a0 == 13))))) = some r := h; clear h
 by_cases c2 : a0 = 32
 ·rw [if_pos c2] at H
  have c2b0 : (a0 == 32) = true := beq_iff_eq.mpr c2; have c2b1 : (a0 != 32) = false := bne_eq_false_iff_eq.mpr c2; clear c2; obtain rfl := Option.some.inj H
  go_enter Try.func83, Try.ntmps83
  go_wp2
  go_ret
  exact ⟨rs_, by repeat (first | exact Drawn0.refl _ | apply Drawn0.step)⟩
 ·rw [if_neg c2] at H
  have c2b0 : (a0 == 32) = false := beq_eq_false_iff_ne.mpr c2; have c2b1 : (a0 != 32) = true := bne_iff_ne.mpr c2
  by_cases c3 : a0 = 9
  ·rw [if_pos c3] at H
   have c3b0 : (a0 == 9) = true := beq_iff_eq.mpr c3; have c3b1 : (a0 != 9) = false := bne_eq_false_iff_eq.mpr c3; clear c3; obtain rfl := Option.some.inj H
   go_enter Try.func83, Try.ntmps83
   go_wp2
   go_ret
   exact ⟨rs_, by repeat (first | exact Drawn0.refl _ | apply Drawn0.step)⟩
  ·rw [if_neg c3] at H
   have c3b0 : (a0 == 9) = false := beq_eq_false_iff_ne.mpr c3; have c3b1 : (a0 != 9) = true := bne_iff_ne.mpr c3
   by_cases c4 : a0 = 10
   ·rw [if_pos c4] at H
    have c4b0 : (a0 == 10) = true := beq_iff_eq.mpr c4; have c4b1 : (a0 != 10) = false := bne_eq_false_iff_eq.mpr c4; clear c4; obtain rfl := Option.some.inj H
    go_enter Try.func83, Try.ntmps83
    go_wp2
    go_ret
    exact ⟨rs_, by repeat (first | exact Drawn0.refl _ | apply Drawn0.step)⟩
   ·rw [if_neg c4] at H
    have c4b0 : (a0 == 10) = false := beq_eq_false_iff_ne.mpr c4; have c4b1 : (a0 != 10) = true := bne_iff_ne.mpr c4; obtain rfl := Option.some.inj H
    go_enter Try.func83, Try.ntmps83
    go_wp2
    go_ret
    exact ⟨rs_, by repeat (first | exact Drawn0.refl _ | apply Drawn0.step)⟩
def r07_letter.f (a0 : Int) : Option (Bool) := if a0 = 95 then (some true) else (if a0 ≥ 97 then (some (decide (a0 ≤ 122))) else (some false))
theorem r07_letter.calls (a0 : Int) (r : Bool) (w : World) (h : r07_letter.f a0 = some r) :
  Calls Try.prog 84 #[.int .u8 a0] w fun e w' => e = .returned (.bool r) ∧ Drawn0 w w' := by
 have H : (if a0 = 95 then (some true) else (if a0 ≥ 97 then (some (decide (a0 ≤ 122))) else (some false))) = some r := h; clear h
 by_cases c2 : a0 = 95
 ·rw [if_pos c2] at H
  have c2b0 : (a0 == 95) = true := beq_iff_eq.mpr c2; have c2b1 : (a0 != 95) = false := bne_eq_false_iff_eq.mpr c2; clear c2; obtain rfl := Option.some.inj H
  go_enter Try.func84, Try.ntmps84
  go_wp2
  go_ret
  exact ⟨rs_, by repeat (first | exact Drawn0.refl _ | apply Drawn0.step)⟩
 ·rw [if_neg c2] at H
  have c2b0 : (a0 == 95) = false := beq_eq_false_iff_ne.mpr c2; have c2b1 : (a0 != 95) = true := bne_iff_ne.mpr c2
  by_cases c3 : a0 ≥ 97
  ·rw [if_pos c3] at H
   have c3b0 : decide (97 ≤ a0) = true := decide_eq_true c3; clear c3; obtain rfl := Option.some.inj H
   go_enter Try.func84, Try.ntmps84
   go_wp2
   go_ret
   exact ⟨rs_, by repeat (first | exact Drawn0.refl _ | apply Drawn0.step)⟩
  ·rw [if_neg c3] at H
   have c3b0 : decide (97 ≤ a0) = false := decide_eq_false c3; clear c3; obtain rfl := Option.some.inj H
   go_enter Try.func84, Try.ntmps84
   go_wp2
   go_ret
   exact ⟨rs_, by repeat (first | exact Drawn0.refl _ | apply Drawn0.step)⟩
def r07_digit.f (a0 : Int) : Option (Bool) := if a0 ≥ 48 then (some (decide (a0 ≤ 57))) else (some false)
theorem r07_digit.calls (a0 : Int) (r : Bool) (w : World) (h : r07_digit.f a0 = some r) :
  Calls Try.prog 85 #[.int .u8 a0] w fun e w' => e = .returned (.bool r) ∧ Drawn0 w w' := by
 have H : (if a0 ≥ 48 then (some (decide (a0 ≤ 57))) else (some false)) = some r := h; clear h
 by_cases c2 : a0 ≥ 48
 ·rw [if_pos c2] at H
  have c2b0 : decide (48 ≤ a0) = true := decide_eq_true c2; clear c2; obtain rfl := Option.some.inj H
  go_enter Try.func85, Try.ntmps85
  go_wp2
  go_ret
  exact ⟨rs_, by repeat (first | exact Drawn0.refl _ | apply Drawn0.step)⟩
 ·rw [if_neg c2] at H
  have c2b0 : decide (48 ≤ a0) = false := decide_eq_false c2; clear c2; obtain rfl := Option.some.inj H
  go_enter Try.func85, Try.ntmps85
  go_wp2
  go_ret
  exact ⟨rs_, by repeat (first | exact Drawn0.refl _ | apply Drawn0.step)⟩
def r05_Word.l0 : Nat → ByteArray → List ByteArray → Int → Option (Bool)
 | 0, _, _, _ => none
 | k + 1, x0, x3, x4 => if x4 < (x3.length : Int) then (if 0 ≤ x4 then (if (rdOf ByteArray.empty x3 x4).toList = x0.toList then (some true) else (r05_Word.l0 k x0 x3 (wrap64 (x4 + 1)))) else (none)) else (some false)
def r05_Word.f (k : Nat) (a0 : ByteArray) : Option (Bool) := r05_Word.l0 k a0 (([(⟨#[115, 101, 108, 101, 99, 116]⟩ : ByteArray), (⟨#[102, 114, 111, 109]⟩ : ByteArray), (⟨#[106, 111, 105, 110]⟩ : ByteArray), (⟨#[108, 101, 102, 116]⟩ : ByteArray), (⟨#[115, 101, 109, 105]⟩ : ByteArray), (⟨#[97, 110, 116, 105]⟩ : ByteArray), (⟨#[111, 110]⟩ : ByteArray), (⟨#[119, 104, 101, 114, 101]⟩ : ByteArray), (⟨#[103, 114, 111, 117, 112]⟩ : ByteArray), (⟨#[98, 121]⟩ : ByteArray), (⟨#[97, 115]⟩ : ByteArray), (⟨#[97, 110, 100]⟩ : ByteArray), (⟨#[111, 114]⟩ : ByteArray), (⟨#[110, 111, 116]⟩ : ByteArray), (⟨#[105, 115]⟩ : ByteArray), (⟨#[110, 117, 108, 108]⟩ : ByteArray), (⟨#[99, 111, 117, 110, 116]⟩ : ByteArray), (⟨#[115, 117, 109]⟩ : ByteArray), (⟨#[109, 105, 110]⟩ : ByteArray), (⟨#[109, 97, 120]⟩ : ByteArray)] : List ByteArray)) 0
theorem r05_Word.mono_l : ∀ k, (∀ y0 y1 y2, LeO (r05_Word.l0 k y0 y1 y2) (r05_Word.l0 (k + 1) y0 y1 y2))
 | 0 => fun _ _ _ r h => by simp [r05_Word.l0] at h
 | k + 1 => by
  have ih0 := r05_Word.mono_l k
  ·intro y0 y1 y2
   unfold r05_Word.l0
   repeat' first
   | (with_reducible exact ih0 _ _ _)
   | (with_reducible exact LeO.refl _)
   | (with_reducible exact LeO.none _)
   | (with_reducible refine LeO.ite ?_ ?_)
   | (with_reducible refine LeO.bind ?_ (fun _ => ?_))
   | exact ih0 _ _ _
   | exact LeO.none _
   | refine LeO.ite ?_ ?_
   | refine LeO.bind ?_ (fun _ => ?_)
theorem r05_Word.mono : ∀ a0 k, LeO (r05_Word.f k a0) (r05_Word.f (k + 1) a0) := by
 intro a0 k; have ih0 := r05_Word.mono_l k; unfold r05_Word.f
 repeat' first
   | (with_reducible exact ih0 _ _ _)
   | (with_reducible exact LeO.refl _)
   | (with_reducible exact LeO.none _)
   | (with_reducible refine LeO.ite ?_ ?_)
   | (with_reducible refine LeO.bind ?_ (fun _ => ?_))
   | exact ih0 _ _ _
   | exact LeO.none _
   | refine LeO.ite ?_ ?_
   | refine LeO.bind ?_ (fun _ => ?_)
theorem r05_Word.calls (k : Nat) (a0 : ByteArray) (r : Bool) (w : World) (h : r05_Word.f k a0 = some r) :
  Calls Try.prog 86 #[.string a0] w fun e w' => e = .returned (.bool r) ∧ Below w.heap.size w w' := by
 have HB := am_ (Below.refl w.heap.size w); have H : (r05_Word.l0 k a0 (([(⟨#[115, 101, 108, 101, 99, 116]⟩ : ByteArray), (⟨#[102, 114, 111, 109]⟩ : ByteArray), (⟨#[106, 111, 105, 110]⟩ : ByteArray), (⟨#[108, 101, 102, 116]⟩ : ByteArray), (⟨#[115, 101, 109, 105]⟩ : ByteArray), (⟨#[97, 110, 116, 105]⟩ : ByteArray), (⟨#[111, 110]⟩ : ByteArray), (⟨#[119, 104, 101, 114, 101]⟩ : ByteArray), (⟨#[103, 114, 111, 117, 112]⟩ : ByteArray), (⟨#[98, 121]⟩ : ByteArray), (⟨#[97, 115]⟩ : ByteArray), (⟨#[97, 110, 100]⟩ : ByteArray), (⟨#[111, 114]⟩ : ByteArray), (⟨#[110, 111, 116]⟩ : ByteArray), (⟨#[105, 115]⟩ : ByteArray), (⟨#[110, 117, 108, 108]⟩ : ByteArray), (⟨#[99, 111, 117, 110, 116]⟩ : ByteArray), (⟨#[115, 117, 109]⟩ : ByteArray), (⟨#[109, 105, 110]⟩ : ByteArray), (⟨#[109, 97, 120]⟩ : ByteArray)] : List ByteArray)) 0) = some r := h; clear h
 obtain ⟨y189, hy189⟩ : ∃ y_ : List ByteArray, y_ = (([(⟨#[115, 101, 108, 101, 99, 116]⟩ : ByteArray), (⟨#[102, 114, 111, 109]⟩ : ByteArray), (⟨#[106, 111, 105, 110]⟩ : ByteArray), (⟨#[108, 101, 102, 116]⟩ : ByteArray), (⟨#[115, 101, 109, 105]⟩ : ByteArray), (⟨#[97, 110, 116, 105]⟩ : ByteArray), (⟨#[111, 110]⟩ : ByteArray), (⟨#[119, 104, 101, 114, 101]⟩ : ByteArray), (⟨#[103, 114, 111, 117, 112]⟩ : ByteArray), (⟨#[98, 121]⟩ : ByteArray), (⟨#[97, 115]⟩ : ByteArray), (⟨#[97, 110, 100]⟩ : ByteArray), (⟨#[111, 114]⟩ : ByteArray), (⟨#[110, 111, 116]⟩ : ByteArray), (⟨#[105, 115]⟩ : ByteArray), (⟨#[110, 117, 108, 108]⟩ : ByteArray), (⟨#[99, 111, 117, 110, 116]⟩ : ByteArray), (⟨#[115, 117, 109]⟩ : ByteArray), (⟨#[109, 105, 110]⟩ : ByteArray), (⟨#[109, 97, 120]⟩ : ByteArray)] : List ByteArray)) := ⟨_, rfl⟩
 replace H : (r05_Word.l0 k a0 y189 0) = some r := by first | (rw [hy189]; with_reducible exact H) | (have H2_ := (Option.bind_some _ _).symm.trans H; rw [hy189]; with_reducible exact H2_) | (have H2_ := (Option.bind_some _ _).symm.trans H; with_reducible exact H2_) | with_reducible exact H | (rw [hy189]; exact H) | exact H
 have Ny189 := am_ hy189; clear hy189; have H' := am_ H; clear H
 go_enter Try.func86, Try.ntmps86
 go_wp2_with (first | ((with_reducible refine gate_dst (N := 5) rfl ?_); refine Kd.R_lit Kd.string _ 9 ?hg (N := 5) ?hd (xs := ([(⟨#[115, 101, 108, 101, 99, 116]⟩ : ByteArray), (⟨#[102, 114, 111, 109]⟩ : ByteArray), (⟨#[106, 111, 105, 110]⟩ : ByteArray), (⟨#[108, 101, 102, 116]⟩ : ByteArray), (⟨#[115, 101, 109, 105]⟩ : ByteArray), (⟨#[97, 110, 116, 105]⟩ : ByteArray), (⟨#[111, 110]⟩ : ByteArray), (⟨#[119, 104, 101, 114, 101]⟩ : ByteArray), (⟨#[103, 114, 111, 117, 112]⟩ : ByteArray), (⟨#[98, 121]⟩ : ByteArray), (⟨#[97, 115]⟩ : ByteArray), (⟨#[97, 110, 100]⟩ : ByteArray), (⟨#[111, 114]⟩ : ByteArray), (⟨#[110, 111, 116]⟩ : ByteArray), (⟨#[105, 115]⟩ : ByteArray), (⟨#[110, 117, 108, 108]⟩ : ByteArray), (⟨#[99, 111, 117, 110, 116]⟩ : ByteArray), (⟨#[115, 117, 109]⟩ : ByteArray), (⟨#[109, 105, 110]⟩ : ByteArray), (⟨#[109, 97, 120]⟩ : ByteArray)] : List ByteArray)) (inner := [.string (⟨#[115, 101, 108, 101, 99, 116]⟩ : ByteArray), .string (⟨#[102, 114, 111, 109]⟩ : ByteArray), .string (⟨#[106, 111, 105, 110]⟩ : ByteArray), .string (⟨#[108, 101, 102, 116]⟩ : ByteArray), .string (⟨#[115, 101, 109, 105]⟩ : ByteArray), .string (⟨#[97, 110, 116, 105]⟩ : ByteArray), .string (⟨#[111, 110]⟩ : ByteArray), .string (⟨#[119, 104, 101, 114, 101]⟩ : ByteArray), .string (⟨#[103, 114, 111, 117, 112]⟩ : ByteArray), .string (⟨#[98, 121]⟩ : ByteArray), .string (⟨#[97, 115]⟩ : ByteArray), .string (⟨#[97, 110, 100]⟩ : ByteArray), .string (⟨#[111, 114]⟩ : ByteArray), .string (⟨#[110, 111, 116]⟩ : ByteArray), .string (⟨#[105, 115]⟩ : ByteArray), .string (⟨#[110, 117, 108, 108]⟩ : ByteArray), .string (⟨#[99, 111, 117, 110, 116]⟩ : ByteArray), .string (⟨#[115, 117, 109]⟩ : ByteArray), .string (⟨#[109, 105, 110]⟩ : ByteArray), .string (⟨#[109, 97, 120]⟩ : ByteArray)]) (ok := fun _ => True) (okp := fun _ => True) ?hr ?hp (fun _ hk => hk) trivial (Below.refl _ _) (Nat.le_refl _) (by simp) ?_; (case hd => rfl); (case hg => rfl); (case hr => first | (go_simp; done) | (go_simp; rfl)); (case hp => exact (Reps.one (show Kd.M Kd.string _ _ _ (⟨#[115, 101, 108, 101, 99, 116]⟩ : ByteArray) [.string (⟨#[115, 101, 108, 101, 99, 116]⟩ : ByteArray)] from rfl) (Reps.one (show Kd.M Kd.string _ _ _ (⟨#[102, 114, 111, 109]⟩ : ByteArray) [.string (⟨#[102, 114, 111, 109]⟩ : ByteArray)] from rfl) (Reps.one (show Kd.M Kd.string _ _ _ (⟨#[106, 111, 105, 110]⟩ : ByteArray) [.string (⟨#[106, 111, 105, 110]⟩ : ByteArray)] from rfl) (Reps.one (show Kd.M Kd.string _ _ _ (⟨#[108, 101, 102, 116]⟩ : ByteArray) [.string (⟨#[108, 101, 102, 116]⟩ : ByteArray)] from rfl) (Reps.one (show Kd.M Kd.string _ _ _ (⟨#[115, 101, 109, 105]⟩ : ByteArray) [.string (⟨#[115, 101, 109, 105]⟩ : ByteArray)] from rfl) (Reps.one (show Kd.M Kd.string _ _ _ (⟨#[97, 110, 116, 105]⟩ : ByteArray) [.string (⟨#[97, 110, 116, 105]⟩ : ByteArray)] from rfl) (Reps.one (show Kd.M Kd.string _ _ _ (⟨#[111, 110]⟩ : ByteArray) [.string (⟨#[111, 110]⟩ : ByteArray)] from rfl) (Reps.one (show Kd.M Kd.string _ _ _ (⟨#[119, 104, 101, 114, 101]⟩ : ByteArray) [.string (⟨#[119, 104, 101, 114, 101]⟩ : ByteArray)] from rfl) (Reps.one (show Kd.M Kd.string _ _ _ (⟨#[103, 114, 111, 117, 112]⟩ : ByteArray) [.string (⟨#[103, 114, 111, 117, 112]⟩ : ByteArray)] from rfl) (Reps.one (show Kd.M Kd.string _ _ _ (⟨#[98, 121]⟩ : ByteArray) [.string (⟨#[98, 121]⟩ : ByteArray)] from rfl) (Reps.one (show Kd.M Kd.string _ _ _ (⟨#[97, 115]⟩ : ByteArray) [.string (⟨#[97, 115]⟩ : ByteArray)] from rfl) (Reps.one (show Kd.M Kd.string _ _ _ (⟨#[97, 110, 100]⟩ : ByteArray) [.string (⟨#[97, 110, 100]⟩ : ByteArray)] from rfl) (Reps.one (show Kd.M Kd.string _ _ _ (⟨#[111, 114]⟩ : ByteArray) [.string (⟨#[111, 114]⟩ : ByteArray)] from rfl) (Reps.one (show Kd.M Kd.string _ _ _ (⟨#[110, 111, 116]⟩ : ByteArray) [.string (⟨#[110, 111, 116]⟩ : ByteArray)] from rfl) (Reps.one (show Kd.M Kd.string _ _ _ (⟨#[105, 115]⟩ : ByteArray) [.string (⟨#[105, 115]⟩ : ByteArray)] from rfl) (Reps.one (show Kd.M Kd.string _ _ _ (⟨#[110, 117, 108, 108]⟩ : ByteArray) [.string (⟨#[110, 117, 108, 108]⟩ : ByteArray)] from rfl) (Reps.one (show Kd.M Kd.string _ _ _ (⟨#[99, 111, 117, 110, 116]⟩ : ByteArray) [.string (⟨#[99, 111, 117, 110, 116]⟩ : ByteArray)] from rfl) (Reps.one (show Kd.M Kd.string _ _ _ (⟨#[115, 117, 109]⟩ : ByteArray) [.string (⟨#[115, 117, 109]⟩ : ByteArray)] from rfl) (Reps.one (show Kd.M Kd.string _ _ _ (⟨#[109, 105, 110]⟩ : ByteArray) [.string (⟨#[109, 105, 110]⟩ : ByteArray)] from rfl) (Reps.one (show Kd.M Kd.string _ _ _ (⟨#[109, 97, 120]⟩ : ByteArray) [.string (⟨#[109, 97, 120]⟩ : ByteArray)] from rfl) (Reps.none _ _)))))))))))))))))))))); intro v190 w2 ho3 hb hg_ hnew_; clear hg_ hnew_; (first | rw [← Ny189.out] at ho3 | (simp only [Int.reduceToNat] at ho3; rw [← Ny189.out] at ho3)); have HO191 := am_ (Kd.R_lower ho3 (below_size (bl_))); replace HB := am_ (below_step (bl_) hb); clear hb ho3))
 go_loopg [4] k (fun kq v4 w' => ∃ (x4_1 : Int), v4 = .int .i64 x4_1 ∧ Aside0 (r05_Word.l0 kq a0 y189 x4_1 = some r) ∧ Aside0 (kq ≤ k) ∧ Aside0 (Kd.R Kd.string 9 w' w.heap.size (fun _ => True) v190 y189) ∧ Aside0 (Below w.heap.size w w'))
 case atStart => exact ⟨(0), (rs_), H', ⟨Nat.le_refl _⟩, ⟨kr_ HO191.out⟩, ⟨bl_⟩⟩
 case round =>
  clear H'; (try clear p2); obtain ⟨x4_1, rfl, HA, HK1, HO_3, HB⟩ := hrel
  cases gk with
  | zero => exact absurd HA.out (by simp [r05_Word.l0])
  | succ k1 =>
   have H := HA.out; clear HA; simp only [r05_Word.l0] at H
   by_cases c4 : x4_1 < (y189.length : Int)
   ·rw [if_pos c4] at H
    have c4b0 : decide (x4_1 < (y189.length : Int)) = true := decide_eq_true c4; clear c4
    by_cases c5 : 0 ≤ x4_1
    ·rw [if_pos c5] at H
     have c5b0 : decide (0 ≤ x4_1) = true := decide_eq_true c5; clear c5
     by_cases c6 : (rdOf ByteArray.empty y189 x4_1).toList = a0.toList
     ·rw [if_pos c6] at H
      have c6b0 : ((rdOf ByteArray.empty y189 x4_1).toList == a0.toList) = true := beq_iff_eq.mpr c6; have c6b1 : ((rdOf ByteArray.empty y189 x4_1).toList != a0.toList) = false := bne_eq_false_iff_eq.mpr c6; clear c6; obtain rfl := Option.some.inj H; obtain ⟨Ao7, co7, eo7⟩ := Kd.R_slice HO_3.out; subst eo7; have p192 : 0 ≤ (x4_1 : Int) := of_decide_eq_true (as_); have q192 : x4_1 < (y189.length : Int) := of_decide_eq_true (as_); obtain ⟨ad192, e192, hx192_0⟩ := Kd.at_string (Kd.R_reads' HO_3.out).2.2 x4_1 p192 q192; cases e192; replace p192 := eq_true p192; replace q192 := eq_true q192
      go_wp2
      go_ret
      exact ⟨ew_, bl_⟩
     ·rw [if_neg c6] at H
      have c6b0 : ((rdOf ByteArray.empty y189 x4_1).toList == a0.toList) = false := beq_eq_false_iff_ne.mpr c6; have c6b1 : ((rdOf ByteArray.empty y189 x4_1).toList != a0.toList) = true := bne_iff_ne.mpr c6; have H' := am_ H; clear H; obtain ⟨Ao8, co8, eo8⟩ := Kd.R_slice HO_3.out; subst eo8; have p192 : 0 ≤ (x4_1 : Int) := of_decide_eq_true (as_); have q192 : x4_1 < (y189.length : Int) := of_decide_eq_true (as_); obtain ⟨ad192, e192, hx192_0⟩ := Kd.at_string (Kd.R_reads' HO_3.out).2.2 x4_1 p192 q192; cases e192; replace p192 := eq_true p192; replace q192 := eq_true q192
      go_wp2
      go_roundg k1
      case measure => have := HK1.out; omega
      case rel => exact ⟨(wrap64 (x4_1 + 1)), (rs_), H', ⟨by have := HK1.out; omega⟩, ⟨kr_ HO_3.out⟩, ⟨bl_⟩⟩
    ·rw [if_neg c5] at H
     exact absurd H (by simp)
   ·rw [if_neg c4] at H
    have c4b0 : decide (x4_1 < (y189.length : Int)) = false := decide_eq_false c4; clear c4; obtain rfl := Option.some.inj H; obtain ⟨Ao9, co9, eo9⟩ := Kd.R_slice HO_3.out; subst eo9
    go_wp2
    go_ret
    exact ⟨ew_, bl_⟩
def r07_number.l0 : Nat → ByteArray → Int → Int → Option (Int × Bool)
 | 0, _, _, _ => none
 | k + 1, x0, x4, x5 => if x5 < (x0.size : Int) then (if 0 ≤ x5 then (if x4 > 922337203685477580 then (some (0, false)) else (if x4 = 922337203685477580 then (if (wrap64 ((wrap64 (bt x0 x5)) - 48)) > 7 then (some (0, false)) else (r07_number.l0 k x0 (wrap64 ((wrap64 (10 * x4)) + (wrap64 ((wrap64 (bt x0 x5)) - 48)))) (wrap64 (x5 + 1)))) else (r07_number.l0 k x0 (wrap64 ((wrap64 (10 * x4)) + (wrap64 ((wrap64 (bt x0 x5)) - 48)))) (wrap64 (x5 + 1))))) else (none)) else (some (x4, true))
def r07_number.f (k : Nat) (a0 : ByteArray) : Option (Int × Bool) := r07_number.l0 k a0 0 0
theorem r07_number.mono_l : ∀ k, (∀ y0 y1 y2, LeO (r07_number.l0 k y0 y1 y2) (r07_number.l0 (k + 1) y0 y1 y2))
 | 0 => fun _ _ _ r h => by simp [r07_number.l0] at h
 | k + 1 => by
  have ih0 := r07_number.mono_l k
  ·intro y0 y1 y2
   unfold r07_number.l0
   repeat' first
   | (with_reducible exact ih0 _ _ _)
   | (with_reducible exact LeO.refl _)
   | (with_reducible exact LeO.none _)
   | (with_reducible refine LeO.ite ?_ ?_)
   | (with_reducible refine LeO.bind ?_ (fun _ => ?_))
   | exact ih0 _ _ _
   | exact LeO.none _
   | refine LeO.ite ?_ ?_
   | refine LeO.bind ?_ (fun _ => ?_)
theorem r07_number.mono : ∀ a0 k, LeO (r07_number.f k a0) (r07_number.f (k + 1) a0) := by
 intro a0 k; have ih0 := r07_number.mono_l k; unfold r07_number.f
 repeat' first
   | (with_reducible exact ih0 _ _ _)
   | (with_reducible exact LeO.refl _)
   | (with_reducible exact LeO.none _)
   | (with_reducible refine LeO.ite ?_ ?_)
   | (with_reducible refine LeO.bind ?_ (fun _ => ?_))
   | exact ih0 _ _ _
   | exact LeO.none _
   | refine LeO.ite ?_ ?_
   | refine LeO.bind ?_ (fun _ => ?_)
theorem r07_number.calls (k : Nat) (a0 : ByteArray) (r1 : Int) (r2 : Bool) (w : World) (h : r07_number.f k a0 = some (r1, r2)) :
  Calls Try.prog 87 #[.string a0] w fun e w' => e = .returned (.tuple #[.int .i64 r1, .bool r2]) ∧ Drawn0 w w' := by
 have H : (r07_number.l0 k a0 0 0) = some (r1, r2) := h; clear h; have H' := am_ H; clear H
 go_enter Try.func87, Try.ntmps87
 go_wp2
 go_loopg [4, 5] k (fun kq v4 v5 w' => ∃ (x4_1 : Int) (x5_1 : Int), v4 = .int .i64 x4_1 ∧ v5 = .int .i64 x5_1 ∧ Aside0 (r07_number.l0 kq a0 x4_1 x5_1 = some (r1, r2)) ∧ Aside0 (kq ≤ k) ∧ Drawn0 w w')
 case atStart => exact ⟨(0), (0), (rs_), (rs_), H', ⟨Nat.le_refl _⟩, by repeat (first | exact Drawn0.refl _ | apply Drawn0.step)⟩
 case round =>
  clear H'; obtain ⟨x4_1, x5_1, rfl, rfl, HA, HK1, ⟨m1, rfl⟩⟩ := hrel
  cases gk with
  | zero => exact absurd HA.out (by simp [r07_number.l0])
  | succ k1 =>
   have H := HA.out; clear HA; simp only [r07_number.l0] at H
   by_cases c2 : x5_1 < (a0.size : Int)
   ·rw [if_pos c2] at H
    have c2b0 : decide (x5_1 < (a0.size : Int)) = true := decide_eq_true c2; clear c2
    by_cases c3 : 0 ≤ x5_1
    ·rw [if_pos c3] at H
     have c3b0 : decide (0 ≤ x5_1) = true := decide_eq_true c3; clear c3
     by_cases c5 : x4_1 > 922337203685477580
     ·rw [if_pos c5] at H
      have c5b0 : decide (922337203685477580 < x4_1) = true := decide_eq_true c5; clear c5; simp only [Option.some.injEq, Prod.mk.injEq] at H; obtain ⟨rfl, rfl⟩ := H; have p4 : 0 ≤ (x5_1 : Int) := of_decide_eq_true (as_); have q4 : x5_1 < (a0.size : Int) := of_decide_eq_true (as_); have hx4 := bt_at a0 x5_1; replace p4 := eq_true p4; replace q4 := eq_true q4
      go_wp2
      go_ret2
      exact ⟨rs_, by repeat (first | exact Drawn0.refl _ | apply Drawn0.step)⟩
     ·rw [if_neg c5] at H
      have c5b0 : decide (922337203685477580 < x4_1) = false := decide_eq_false c5; clear c5
      by_cases c6 : x4_1 = 922337203685477580
      ·rw [if_pos c6] at H
       have c6b0 : (x4_1 == 922337203685477580) = true := beq_iff_eq.mpr c6; have c6b1 : (x4_1 != 922337203685477580) = false := bne_eq_false_iff_eq.mpr c6; clear c6
       by_cases c7 : (wrap64 ((wrap64 (bt a0 x5_1)) - 48)) > 7
       ·rw [if_pos c7] at H
        have c7b0 : decide (7 < (wrap64 ((wrap64 (bt a0 x5_1)) - 48))) = true := decide_eq_true c7; clear c7; simp only [Option.some.injEq, Prod.mk.injEq] at H; obtain ⟨rfl, rfl⟩ := H; have p4 : 0 ≤ (x5_1 : Int) := of_decide_eq_true (as_); have q4 : x5_1 < (a0.size : Int) := of_decide_eq_true (as_); have hx4 := bt_at a0 x5_1; replace p4 := eq_true p4; replace q4 := eq_true q4
        go_wp2
        go_ret2
        exact ⟨rs_, by repeat (first | exact Drawn0.refl _ | apply Drawn0.step)⟩
       ·rw [if_neg c7] at H
        have c7b0 : decide (7 < (wrap64 ((wrap64 (bt a0 x5_1)) - 48))) = false := decide_eq_false c7; clear c7; have H' := am_ H; clear H; have p4 : 0 ≤ (x5_1 : Int) := of_decide_eq_true (as_); have q4 : x5_1 < (a0.size : Int) := of_decide_eq_true (as_); have hx4 := bt_at a0 x5_1; replace p4 := eq_true p4; replace q4 := eq_true q4
        go_wp2
        go_roundg k1
        case measure => have := HK1.out; omega
        case rel => exact ⟨(wrap64 ((wrap64 (10 * x4_1)) + (wrap64 ((wrap64 (bt a0 x5_1)) - 48)))), (wrap64 (x5_1 + 1)), (rs_), (rs_), H', ⟨by have := HK1.out; omega⟩, by repeat (first | exact Drawn0.refl _ | apply Drawn0.step)⟩
      ·rw [if_neg c6] at H
       have c6b0 : (x4_1 == 922337203685477580) = false := beq_eq_false_iff_ne.mpr c6; have c6b1 : (x4_1 != 922337203685477580) = true := bne_iff_ne.mpr c6; have H' := am_ H; clear H; have p4 : 0 ≤ (x5_1 : Int) := of_decide_eq_true (as_); have q4 : x5_1 < (a0.size : Int) := of_decide_eq_true (as_); have hx4 := bt_at a0 x5_1; replace p4 := eq_true p4; replace q4 := eq_true q4
       go_wp2
       go_roundg k1
       case measure => have := HK1.out; omega
       case rel => exact ⟨(wrap64 ((wrap64 (10 * x4_1)) + (wrap64 ((wrap64 (bt a0 x5_1)) - 48)))), (wrap64 (x5_1 + 1)), (rs_), (rs_), H', ⟨by have := HK1.out; omega⟩, by repeat (first | exact Drawn0.refl _ | apply Drawn0.step)⟩
    ·rw [if_neg c3] at H
     exact absurd H (by simp)
   ·rw [if_neg c2] at H
    have c2b0 : decide (x5_1 < (a0.size : Int)) = false := decide_eq_false c2; clear c2; simp only [Option.some.injEq, Prod.mk.injEq] at H; obtain ⟨rfl, rfl⟩ := H
    go_wp2
    go_ret2
    exact ⟨rs_, by repeat (first | exact Drawn0.refl _ | apply Drawn0.step)⟩
mutual
def r07_text.l0 : Nat → ByteArray → Int → Int → ByteArray → Int → Option (Int × ByteArray × Int × Int × Int × Int)
 | 0, _, _, _, _, _ => none
 | k + 1, x0, x1, x2, x9, x10 => if x10 < (x0.size : Int) then (if 0 ≤ x10 then (if (bt x0 x10) = 39 then (if (wrap64 (x10 + 1)) < (x0.size : Int) then (if 0 ≤ (wrap64 (x10 + 1)) then (r07_text.j1 k x0 x1 x2 x9 x10 ((bt x0 (wrap64 (x10 + 1))) == 39)) else (none)) else (r07_text.j1 k x0 x1 x2 x9 x10 false)) else (if x10 ≤ (wrap64 (x10 + 1)) then (if (wrap64 (x10 + 1)) ≤ (x0.size : Int) then (if x9.size + (x0.extract (x10 : Int).toNat ((wrap64 (x10 + 1)) : Int).toNat).size ≤ 9223372036854775807 then (r07_text.l0 k x0 x1 x2 (x9 ++ (x0.extract (x10 : Int).toNat ((wrap64 (x10 + 1)) : Int).toNat)) (wrap64 (x10 + 1))) else (none)) else (none)) else (none))) else (none)) else (some (0, (⟨#[]⟩ : ByteArray), 0, 0, x1, 1))
def r07_text.j1 : Nat → ByteArray → Int → Int → ByteArray → Int → Bool → Option (Int × ByteArray × Int × Int × Int × Int)
 | 0, _, _, _, _, _, _ => none
 | k + 1, x0, x1, x2, x9, x10, x41 => if x41 = true then (if x9.size + 1 ≤ 9223372036854775807 then (r07_text.l0 k x0 x1 x2 (x9 ++ (⟨#[39]⟩ : ByteArray)) (wrap64 (x10 + 2))) else (none)) else (if (x9.size : Int) > 65536 then (some (0, (⟨#[]⟩ : ByteArray), 0, 0, x1, 4)) else (some (4, x9, 0, x2, wrap64 (x10 + 1), 0)))
end
def r07_text.f (k : Nat) (a0 : ByteArray) (a1 : Int) (a2 : Int) : Option (Int × ByteArray × Int × Int × Int × Int) := r07_text.l0 k a0 a1 a2 (⟨#[]⟩ : ByteArray) (wrap64 (a2 + 1))
theorem r07_text.mono_l : ∀ k, (∀ y0 y1 y2 y3 y4, LeO (r07_text.l0 k y0 y1 y2 y3 y4) (r07_text.l0 (k + 1) y0 y1 y2 y3 y4)) ∧ (∀ y0 y1 y2 y3 y4 y5, LeO (r07_text.j1 k y0 y1 y2 y3 y4 y5) (r07_text.j1 (k + 1) y0 y1 y2 y3 y4 y5))
 | 0 => ⟨fun _ _ _ _ _ r h => by simp [r07_text.l0] at h, fun _ _ _ _ _ _ r h => by simp [r07_text.j1] at h⟩
 | k + 1 => by
  obtain ⟨ih0, ih1⟩ := r07_text.mono_l k; refine ⟨?_, ?_⟩
  ·intro y0 y1 y2 y3 y4
   unfold r07_text.l0
   repeat' first
   | (with_reducible exact ih0 _ _ _ _ _)
   | (with_reducible exact ih1 _ _ _ _ _ _)
   | (with_reducible exact LeO.refl _)
   | (with_reducible exact LeO.none _)
   | (with_reducible refine LeO.ite ?_ ?_)
   | (with_reducible refine LeO.bind ?_ (fun _ => ?_))
   | exact ih0 _ _ _ _ _
   | exact ih1 _ _ _ _ _ _
   | exact LeO.none _
   | refine LeO.ite ?_ ?_
   | refine LeO.bind ?_ (fun _ => ?_)
  ·intro y0 y1 y2 y3 y4 y5
   unfold r07_text.j1
   repeat' first
   | (with_reducible exact ih0 _ _ _ _ _)
   | (with_reducible exact ih1 _ _ _ _ _ _)
   | (with_reducible exact LeO.refl _)
   | (with_reducible exact LeO.none _)
   | (with_reducible refine LeO.ite ?_ ?_)
   | (with_reducible refine LeO.bind ?_ (fun _ => ?_))
   | exact ih0 _ _ _ _ _
   | exact ih1 _ _ _ _ _ _
   | exact LeO.none _
   | refine LeO.ite ?_ ?_
   | refine LeO.bind ?_ (fun _ => ?_)
theorem r07_text.mono : ∀ a0 a1 a2 k, LeO (r07_text.f k a0 a1 a2) (r07_text.f (k + 1) a0 a1 a2) := by
 intro a0 a1 a2 k; obtain ⟨ih0, ih1⟩ := r07_text.mono_l k; unfold r07_text.f
 repeat' first
   | (with_reducible exact ih0 _ _ _ _ _)
   | (with_reducible exact ih1 _ _ _ _ _ _)
   | (with_reducible exact LeO.refl _)
   | (with_reducible exact LeO.none _)
   | (with_reducible refine LeO.ite ?_ ?_)
   | (with_reducible refine LeO.bind ?_ (fun _ => ?_))
   | exact ih0 _ _ _ _ _
   | exact ih1 _ _ _ _ _ _
   | exact LeO.none _
   | refine LeO.ite ?_ ?_
   | refine LeO.bind ?_ (fun _ => ?_)
theorem r07_text.calls (k : Nat) (a0 : ByteArray) (a1 : Int) (a2 : Int) (r1 : Int) (r2 : ByteArray) (r3 : Int) (r4 : Int) (r5 : Int) (r6 : Int) (w : World) (h : r07_text.f k a0 a1 a2 = some (r1, r2, r3, r4, r5, r6)) :
  Calls Try.prog 88 #[.string a0, .int .i64 a1, .int .i64 a2] w fun e w' => e = .returned (.tuple #[.agg #[.int .i64 r1, .string r2, .int .i64 r3, .int .i64 r4], .int .i64 r5, .int .i64 r6]) ∧ Below w.heap.size w w' := by
 have hu91 := Try.underlying91; have HB := am_ (Below.refl w.heap.size w); have H : (r07_text.l0 k a0 a1 a2 (⟨#[]⟩ : ByteArray) (wrap64 (a2 + 1))) = some (r1, r2, r3, r4, r5, r6) := h; clear h; have H' := am_ H; clear H
 go_enter Try.func88, Try.ntmps88
 go_wp2_with (first | ((with_reducible refine gate_dst (N := 6) rfl ?_); refine box_event ?hg (N := 6) ?hd (cs := #[.int .i64 0, .string (⟨#[]⟩ : ByteArray), .int .i64 0, .int .i64 0]) (t := 91) ?hr ?_; (case hd => rfl); (case hg => rfl); (case hr => first | (go_simp; done) | (go_simp; rfl)); intro gb193 hg w4 hbox hb; have BK193 := am_ (hbox); have GW193 := am_ ((by rw [hg]; exact (below_size (bl_)) : w.heap.size ≤ gb193)); have GE193 := am_ ((by rw [hg]; exact (below_size (bl_)) : w.heap.size ≤ gb193)); replace HB := am_ (below_step (bl_) hb); clear hb hbox hg))
 go_loopg [9, 10] k (fun kq v9 v10 w' => ∃ (x9_1 : ByteArray) (x10_1 : Int) (x194000_1 : Int) (x194001_1 : ByteArray) (x194002_1 : Int) (x194003_1 : Int), v9 = .string x9_1 ∧ v10 = .int .i64 x10_1 ∧ Aside0 (r07_text.l0 kq a0 a1 a2 x9_1 x10_1 = some (r1, r2, r3, r4, r5, r6)) ∧ Aside0 (kq ≤ k) ∧ Aside0 (w'.heap[gb193]? = some (.cells #[.int .i64 x194000_1, .string x194001_1, .int .i64 x194002_1, .int .i64 x194003_1] 91 (0, 0))) ∧ Aside0 (Below w.heap.size w w'))
 case atStart => exact ⟨((⟨#[]⟩ : ByteArray)), (wrap64 (a2 + 1)), (0), ((⟨#[]⟩ : ByteArray)), (0), (0), (rs_), (rs_), H', ⟨Nat.le_refl _⟩, ⟨bk_ BK193.out⟩, ⟨bl_⟩⟩
 case round =>
  clear H'; (try clear p2); obtain ⟨x9_1, x10_1, x194000_1, x194001_1, x194002_1, x194003_1, rfl, rfl, HA, HK1, BK193, HB⟩ := hrel
  cases gk with
  | zero => exact absurd HA.out (by simp [r07_text.l0])
  | succ k1 =>
   have H := HA.out; clear HA; simp only [r07_text.l0] at H
   by_cases c5 : x10_1 < (a0.size : Int)
   ·rw [if_pos c5] at H
    have c5b0 : decide (x10_1 < (a0.size : Int)) = true := decide_eq_true c5; clear c5
    by_cases c6 : 0 ≤ x10_1
    ·rw [if_pos c6] at H
     have c6b0 : decide (0 ≤ x10_1) = true := decide_eq_true c6; clear c6
     by_cases c8 : (bt a0 x10_1) = 39
     ·rw [if_pos c8] at H
      have c8b0 : ((bt a0 x10_1) == 39) = true := beq_iff_eq.mpr c8; have c8b1 : ((bt a0 x10_1) != 39) = false := bne_eq_false_iff_eq.mpr c8; clear c8; have HC9 := am_ H; clear H; have p7 : 0 ≤ (x10_1 : Int) := of_decide_eq_true (as_); have q7 : x10_1 < (a0.size : Int) := of_decide_eq_true (as_); have hx7 := bt_at a0 x10_1; replace p7 := eq_true p7; replace q7 := eq_true q7
      go_upto_region 7 with (fail)
      go_cut [41] (fun v41 wc => ∃ (kq : Nat) (x41_8 : Bool), v41 = .bool x41_8 ∧ Aside0 (r07_text.j1 kq a0 a1 a2 x9_1 x10_1 x41_8 = some (r1, r2, r3, r4, r5, r6)) ∧ Aside0 (kq ≤ k1) ∧ Aside0 (wc.heap[gb193]? = some (.cells #[.int .i64 x194000_1, .string x194001_1, .int .i64 x194002_1, .int .i64 x194003_1] 91 (0, 0))) ∧ Aside0 (Below w.heap.size w wc))
      case first =>
       have H := HC9.out; clear HC9
       by_cases c10 : (wrap64 (x10_1 + 1)) < (a0.size : Int)
       ·rw [if_pos c10] at H
        have c10b0 : decide ((wrap64 (x10_1 + 1)) < (a0.size : Int)) = true := decide_eq_true c10; clear c10; (first | rw [c10b0] | (simp only [i64_w, i32_w]; rw [c10b0]) | skip)
        obtain ⟨ji11, hji11⟩ : ∃ j_ : Int, (wrap64 (x10_1 + 1)) = j_ := ⟨_, rfl⟩
        replace H : (if 0 ≤ (ji11) then (r07_text.j1 k1 a0 a1 a2 x9_1 x10_1 ((bt a0 (ji11)) == 39)) else (none)) = some (r1, r2, r3, r4, r5, r6) := by first | (rw [hji11] at H; exact H) | (simp only [hji11] at H ⊢; exact H)
        (try rw [hji11] at c10b0); have hji11w : (IntKind.i64.wrap (x10_1 + 1)) = ji11 := (i64_w _).trans hji11
        by_cases c12 : 0 ≤ (ji11)
        ·rw [if_pos c12] at H
         have c12b0 : decide (0 ≤ (ji11)) = true := decide_eq_true c12; clear c12; have H' := am_ H; clear H; have p13 : 0 ≤ ((ji11) : Int) := of_decide_eq_true (as_); have q13 : (ji11) < (a0.size : Int) := of_decide_eq_true (as_); have hx13 := bt_at a0 (ji11); replace p13 := eq_true p13; replace q13 := eq_true q13
         go_wp2
         go_meet
         case rel => exact ⟨_, (((bt a0 (ji11)) == 39)), (by first | rfl | (simp; done) | (simp only [← hji11] <;> (first | rfl | simp)) | (simp [*]; done)), H', ⟨by have := HK1.out; first | omega | exact Nat.le_refl _⟩, ⟨bk_ BK193.out⟩, ⟨bl_⟩⟩
        ·rw [if_neg c12] at H
         exact absurd H (by simp)
       ·rw [if_neg c10] at H
        have c10b0 : decide ((wrap64 (x10_1 + 1)) < (a0.size : Int)) = false := decide_eq_false c10; clear c10; (first | rw [c10b0] | (simp only [i64_w, i32_w]; rw [c10b0]) | skip); have H' := am_ H; clear H
        go_wp2
        go_meet
        case rel => exact ⟨_, (false), (rs_), H', ⟨by have := HK1.out; first | omega | exact Nat.le_refl _⟩, ⟨bk_ BK193.out⟩, ⟨bl_⟩⟩
      case rest =>
       clear HC9; (try clear c1); (try clear p1); (try clear q1); (try clear hx1); (try clear p2); (try clear c5); (try clear c5b0); (try clear c6); (try clear c6b0); (try clear p6); (try clear p7); (try clear q7); (try clear hx7); (try clear c8); (try clear c8b0); (try clear c8b1); (try clear c10); (try clear c10b0); (try clear c12); (try clear c12b0); (try clear p13); (try clear q13); (try clear hx13); (try clear p13); (try clear p2); (try clear p7); (try clear q13); (try clear q7); obtain ⟨kq, x41_8, rfl, HA, HJ8, BK193, HB⟩ := hcut
       cases kq with
       | zero => exact absurd HA.out (by simp [r07_text.j1])
       | succ kj8 =>
        have H := HA.out; clear HA; simp only [r07_text.j1] at H
        by_cases c14 : x41_8 = true
        ·subst c14
         have H1 : (if x9_1.size + 1 ≤ 9223372036854775807 then (r07_text.l0 kj8 a0 a1 a2 (x9_1 ++ (⟨#[39]⟩ : ByteArray)) (wrap64 (x10_1 + 2))) else (none)) = some (r1, r2, r3, r4, r5, r6) := by rw [if_pos rfl] at H; exact H
         clear H; have H := H1; clear H1
         by_cases c15 : x9_1.size + 1 ≤ 9223372036854775807
         ·rw [if_pos c15] at H
          have c15b0 := eq_true c15; have c15b1 : decide (x9_1.size + 1 ≤ 9223372036854775807) = true := decide_eq_true c15
          try have c15b2 : (9223372036854775807 < x9_1.size + 1) = False := eq_false (Nat.not_lt.2 c15)
          have H' := am_ H; clear H
          go_wp2
          go_roundg kj8
          case measure => have := HK1.out; have := HJ8.out; omega
          case rel => exact ⟨(x9_1 ++ (⟨#[39]⟩ : ByteArray)), (wrap64 (x10_1 + 2)), (x194000_1), (x194001_1), (x194002_1), (x194003_1), (rs_), (rs_), H', ⟨by have := HK1.out; have := HJ8.out; omega⟩, ⟨bk_ BK193.out⟩, ⟨bl_⟩⟩
         ·rw [if_neg c15] at H
          exact absurd H (by simp)
        ·replace c14 := Bool.eq_false_iff.mpr c14
         subst c14
         have H1 : (if (x9_1.size : Int) > 65536 then (some (0, (⟨#[]⟩ : ByteArray), 0, 0, a1, 4)) else (some (4, x9_1, 0, a2, wrap64 (x10_1 + 1), 0))) = some (r1, r2, r3, r4, r5, r6) := by rw [if_neg (show ¬ (false = true) by decide)] at H; exact H
         clear H; have H := H1; clear H1
         by_cases c16 : (x9_1.size : Int) > 65536
         ·rw [if_pos c16] at H
          have c16b0 : decide (65536 < (x9_1.size : Int)) = true := decide_eq_true c16; have c16b1 : decide (65536 < x9_1.size) = true := decide_eq_true (by omega); clear c16; simp only [Option.some.injEq, Prod.mk.injEq] at H; obtain ⟨rfl, rfl, rfl, rfl, rfl, rfl⟩ := H; obtain ⟨hcz17_0, hcz17_1, hcz17_2, hcz17_3, hfz17_0, hfz17_1, hfz17_2, hfz17_3⟩ := bw4_ BK193.out
          go_wp2
          refine bodyPost_ret (results_ctt rfl _ _ gb193 91 #[.int .i64 0, .string (⟨#[]⟩ : ByteArray), .int .i64 0, .int .i64 0] (0, 0) _ rfl (by refine bp_ ?_; refine blk_put (cs := #[.int .i64 0, .string (⟨#[]⟩ : ByteArray), .int .i64 0, .int .i64 x194003_1]) ?_ 3 _ rfl; refine bp_ ?_; refine blk_put (cs := #[.int .i64 0, .string (⟨#[]⟩ : ByteArray), .int .i64 x194002_1, .int .i64 x194003_1]) ?_ 2 _ rfl; refine bp_ ?_; refine blk_put (cs := #[.int .i64 0, .string x194001_1, .int .i64 x194002_1, .int .i64 x194003_1]) ?_ 1 _ rfl; refine bp_ ?_; refine blk_put (cs := #[.int .i64 x194000_1, .string x194001_1, .int .i64 x194002_1, .int .i64 x194003_1]) ?_ 0 _ rfl; refine bp_ ?_; exact BK193.out) Try.underlying91 rfl (by kernel_rfl)) rfl ?_; exact ⟨ew_, bl_⟩
         ·rw [if_neg c16] at H
          have c16b0 : decide (65536 < (x9_1.size : Int)) = false := decide_eq_false c16; have c16b1 : decide (65536 < x9_1.size) = false := decide_eq_false (by omega); clear c16; simp only [Option.some.injEq, Prod.mk.injEq] at H; obtain ⟨rfl, rfl, rfl, rfl, rfl, rfl⟩ := H; obtain ⟨hcz18_0, hcz18_1, hcz18_2, hcz18_3, hfz18_0, hfz18_1, hfz18_2, hfz18_3⟩ := bw4_ BK193.out
          go_wp2
          refine bodyPost_ret (results_ctt rfl _ _ gb193 91 #[.int .i64 4, .string x9_1, .int .i64 0, .int .i64 a2] (0, 0) _ rfl (by refine bp_ ?_; refine blk_put (cs := #[.int .i64 4, .string x9_1, .int .i64 0, .int .i64 x194003_1]) ?_ 3 _ rfl; refine bp_ ?_; refine blk_put (cs := #[.int .i64 4, .string x9_1, .int .i64 x194002_1, .int .i64 x194003_1]) ?_ 2 _ rfl; refine bp_ ?_; refine blk_put (cs := #[.int .i64 4, .string x194001_1, .int .i64 x194002_1, .int .i64 x194003_1]) ?_ 1 _ rfl; refine bp_ ?_; refine blk_put (cs := #[.int .i64 x194000_1, .string x194001_1, .int .i64 x194002_1, .int .i64 x194003_1]) ?_ 0 _ rfl; refine bp_ ?_; exact BK193.out) Try.underlying91 rfl (by kernel_rfl)) rfl ?_; exact ⟨ew_, bl_⟩
     ·rw [if_neg c8] at H
      have c8b0 : ((bt a0 x10_1) == 39) = false := beq_eq_false_iff_ne.mpr c8; have c8b1 : ((bt a0 x10_1) != 39) = true := bne_iff_ne.mpr c8; have c19b0 := eq_true (of_decide_eq_true (as_) : 0 ≤ x10_1)
      by_cases c20 : x10_1 ≤ (wrap64 (x10_1 + 1))
      ·rw [if_pos c20] at H
       have c20b0 := eq_true c20; have c20b1 : decide (x10_1 ≤ (wrap64 (x10_1 + 1))) = true := decide_eq_true c20
       by_cases c21 : (wrap64 (x10_1 + 1)) ≤ (a0.size : Int)
       ·rw [if_pos c21] at H
        have c21b0 := eq_true c21; have c21b1 : decide ((wrap64 (x10_1 + 1)) ≤ (a0.size : Int)) = true := decide_eq_true c21
        by_cases c22 : x9_1.size + (a0.extract (x10_1 : Int).toNat ((wrap64 (x10_1 + 1)) : Int).toNat).size ≤ 9223372036854775807
        ·rw [if_pos c22] at H
         have c22b0 := eq_true c22; have c22b1 : decide (x9_1.size + (a0.extract (x10_1 : Int).toNat ((wrap64 (x10_1 + 1)) : Int).toNat).size ≤ 9223372036854775807) = true := decide_eq_true c22
         try have c22b2 : (9223372036854775807 < x9_1.size + (a0.extract (x10_1 : Int).toNat ((wrap64 (x10_1 + 1)) : Int).toNat).size) = False := eq_false (Nat.not_lt.2 c22)
         have H' := am_ H; clear H; have p7 : 0 ≤ (x10_1 : Int) := of_decide_eq_true (as_); have q7 : x10_1 < (a0.size : Int) := of_decide_eq_true (as_); have hx7 := bt_at a0 x10_1; replace p7 := eq_true p7; replace q7 := eq_true q7
         go_wp2
         go_roundg k1
         case measure => have := HK1.out; omega
         case rel => exact ⟨(x9_1 ++ (a0.extract (x10_1 : Int).toNat ((wrap64 (x10_1 + 1)) : Int).toNat)), (wrap64 (x10_1 + 1)), (x194000_1), (x194001_1), (x194002_1), (x194003_1), (rs_), (rs_), H', ⟨by have := HK1.out; omega⟩, ⟨bk_ BK193.out⟩, ⟨bl_⟩⟩
        ·rw [if_neg c22] at H
         exact absurd H (by simp)
       ·rw [if_neg c21] at H
        exact absurd H (by simp)
      ·rw [if_neg c20] at H
       exact absurd H (by simp)
    ·rw [if_neg c6] at H
     exact absurd H (by simp)
   ·rw [if_neg c5] at H
    have c5b0 : decide (x10_1 < (a0.size : Int)) = false := decide_eq_false c5; clear c5; simp only [Option.some.injEq, Prod.mk.injEq] at H; obtain ⟨rfl, rfl, rfl, rfl, rfl, rfl⟩ := H; obtain ⟨hcz23_0, hcz23_1, hcz23_2, hcz23_3, hfz23_0, hfz23_1, hfz23_2, hfz23_3⟩ := bw4_ BK193.out
    go_wp2
    refine bodyPost_ret (results_ctt rfl _ _ gb193 91 #[.int .i64 0, .string (⟨#[]⟩ : ByteArray), .int .i64 0, .int .i64 0] (0, 0) _ rfl (by refine bp_ ?_; refine blk_put (cs := #[.int .i64 0, .string (⟨#[]⟩ : ByteArray), .int .i64 0, .int .i64 x194003_1]) ?_ 3 _ rfl; refine bp_ ?_; refine blk_put (cs := #[.int .i64 0, .string (⟨#[]⟩ : ByteArray), .int .i64 x194002_1, .int .i64 x194003_1]) ?_ 2 _ rfl; refine bp_ ?_; refine blk_put (cs := #[.int .i64 0, .string x194001_1, .int .i64 x194002_1, .int .i64 x194003_1]) ?_ 1 _ rfl; refine bp_ ?_; refine blk_put (cs := #[.int .i64 x194000_1, .string x194001_1, .int .i64 x194002_1, .int .i64 x194003_1]) ?_ 0 _ rfl; refine bp_ ?_; exact BK193.out) Try.underlying91 rfl (by kernel_rfl)) rfl ?_; exact ⟨ew_, bl_⟩
end Go.Proofs.Ytcfgjaggccnoaaa.PParseSmall
namespace Go.Proofs.Ytcfgjaggccnoaaa.PParseSmall
open Go.RowKit Go.Proofs.YtcfgjaggccnoaaaW.PrintWords Go.Proofs.YtcfgjaggccnoaaaW.PrintLast Go.Proofs.YtcfgjaggccnoaaaW.PrintMore
attribute [local go_sem] max2_int min2_int max_two min_two max_three min_three max_four min_four
set_option linter.unusedVariables false
set_option maxHeartbeats 8000000
set_option linter.unusedSimpArgs false
set_option maxRecDepth 100000
def r07_Sign.l0 : Nat → ByteArray → Int → List ByteArray → Int → Option (ByteArray)
 | 0, _, _, _, _ => none
 | k + 1, x0, x1, x5, x6 => if x6 < (x5.length : Int) then (if x1 ≥ 0 then (if 0 ≤ x6 then (if x1 ≤ (wrap64 ((x0.size : Int) - ((rdOf ByteArray.empty x5 x6).size : Int))) then (if 0 ≤ x1 then (if x1 ≤ (wrap64 (x1 + ((rdOf ByteArray.empty x5 x6).size : Int))) then (if (wrap64 (x1 + ((rdOf ByteArray.empty x5 x6).size : Int))) ≤ (x0.size : Int) then (if (x0.extract (x1 : Int).toNat ((wrap64 (x1 + ((rdOf ByteArray.empty x5 x6).size : Int))) : Int).toNat).toList = (rdOf ByteArray.empty x5 x6).toList then (some (rdOf ByteArray.empty x5 x6)) else (r07_Sign.l0 k x0 x1 x5 (wrap64 (x6 + 1)))) else (none)) else (none)) else (none)) else (r07_Sign.l0 k x0 x1 x5 (wrap64 (x6 + 1)))) else (none)) else (r07_Sign.l0 k x0 x1 x5 (wrap64 (x6 + 1)))) else (some (⟨#[]⟩ : ByteArray))
def r07_Sign.f (k : Nat) (a0 : ByteArray) (a1 : Int) : Option (ByteArray) := r07_Sign.l0 k a0 a1 (([(⟨#[60, 62]⟩ : ByteArray), (⟨#[60, 61]⟩ : ByteArray), (⟨#[62, 61]⟩ : ByteArray), (⟨#[40]⟩ : ByteArray), (⟨#[41]⟩ : ByteArray), (⟨#[44]⟩ : ByteArray), (⟨#[46]⟩ : ByteArray), (⟨#[42]⟩ : ByteArray), (⟨#[43]⟩ : ByteArray), (⟨#[45]⟩ : ByteArray), (⟨#[61]⟩ : ByteArray), (⟨#[60]⟩ : ByteArray), (⟨#[62]⟩ : ByteArray)] : List ByteArray)) 0
theorem r07_Sign.mono_l : ∀ k, (∀ y0 y1 y2 y3, LeO (r07_Sign.l0 k y0 y1 y2 y3) (r07_Sign.l0 (k + 1) y0 y1 y2 y3))
 | 0 => fun _ _ _ _ r h => by simp [r07_Sign.l0] at h
 | k + 1 => by
  have ih0 := r07_Sign.mono_l k
  ·intro y0 y1 y2 y3
   unfold r07_Sign.l0
   repeat' first
   | (with_reducible exact ih0 _ _ _ _)
   | (with_reducible exact LeO.refl _)
   | (with_reducible exact LeO.none _)
   | (with_reducible refine LeO.ite ?_ ?_)
   | (with_reducible refine LeO.bind ?_ (fun _ => ?_))
   | exact ih0 _ _ _ _
   | exact LeO.none _
   | refine LeO.ite ?_ ?_
   | refine LeO.bind ?_ (fun _ => ?_)
theorem r07_Sign.mono : ∀ a0 a1 k, LeO (r07_Sign.f k a0 a1) (r07_Sign.f (k + 1) a0 a1) := by
 intro a0 a1 k; have ih0 := r07_Sign.mono_l k; unfold r07_Sign.f
 repeat' first
   | (with_reducible exact ih0 _ _ _ _)
   | (with_reducible exact LeO.refl _)
   | (with_reducible exact LeO.none _)
   | (with_reducible refine LeO.ite ?_ ?_)
   | (with_reducible refine LeO.bind ?_ (fun _ => ?_))
   | exact ih0 _ _ _ _
   | exact LeO.none _
   | refine LeO.ite ?_ ?_
   | refine LeO.bind ?_ (fun _ => ?_)
theorem r07_Sign.calls (k : Nat) (a0 : ByteArray) (a1 : Int) (r : ByteArray) (w : World) (h : r07_Sign.f k a0 a1 = some r) :
  Calls Try.prog 89 #[.string a0, .int .i64 a1] w fun e w' => e = .returned (.string r) ∧ Below w.heap.size w w' := by
 have HB := am_ (Below.refl w.heap.size w); have H : (r07_Sign.l0 k a0 a1 (([(⟨#[60, 62]⟩ : ByteArray), (⟨#[60, 61]⟩ : ByteArray), (⟨#[62, 61]⟩ : ByteArray), (⟨#[40]⟩ : ByteArray), (⟨#[41]⟩ : ByteArray), (⟨#[44]⟩ : ByteArray), (⟨#[46]⟩ : ByteArray), (⟨#[42]⟩ : ByteArray), (⟨#[43]⟩ : ByteArray), (⟨#[45]⟩ : ByteArray), (⟨#[61]⟩ : ByteArray), (⟨#[60]⟩ : ByteArray), (⟨#[62]⟩ : ByteArray)] : List ByteArray)) 0) = some r := h; clear h
 obtain ⟨y194, hy194⟩ : ∃ y_ : List ByteArray, y_ = (([(⟨#[60, 62]⟩ : ByteArray), (⟨#[60, 61]⟩ : ByteArray), (⟨#[62, 61]⟩ : ByteArray), (⟨#[40]⟩ : ByteArray), (⟨#[41]⟩ : ByteArray), (⟨#[44]⟩ : ByteArray), (⟨#[46]⟩ : ByteArray), (⟨#[42]⟩ : ByteArray), (⟨#[43]⟩ : ByteArray), (⟨#[45]⟩ : ByteArray), (⟨#[61]⟩ : ByteArray), (⟨#[60]⟩ : ByteArray), (⟨#[62]⟩ : ByteArray)] : List ByteArray)) := ⟨_, rfl⟩
 replace H : (r07_Sign.l0 k a0 a1 y194 0) = some r := by first | (rw [hy194]; with_reducible exact H) | (have H2_ := (Option.bind_some _ _).symm.trans H; rw [hy194]; with_reducible exact H2_) | (have H2_ := (Option.bind_some _ _).symm.trans H; with_reducible exact H2_) | with_reducible exact H | (rw [hy194]; exact H) | exact H
 have Ny194 := am_ hy194; clear hy194; have H' := am_ H; clear H
 go_enter Try.func89, Try.ntmps89
 go_wp2_with (first | ((with_reducible refine gate_dst (N := 7) rfl ?_); (try (refine gate_guard (by rfl) ?_; dsimp only)); refine Kd.R_lit Kd.string _ 9 ?hg (N := 7) ?hd (xs := ([(⟨#[60, 62]⟩ : ByteArray), (⟨#[60, 61]⟩ : ByteArray), (⟨#[62, 61]⟩ : ByteArray), (⟨#[40]⟩ : ByteArray), (⟨#[41]⟩ : ByteArray), (⟨#[44]⟩ : ByteArray), (⟨#[46]⟩ : ByteArray), (⟨#[42]⟩ : ByteArray), (⟨#[43]⟩ : ByteArray), (⟨#[45]⟩ : ByteArray), (⟨#[61]⟩ : ByteArray), (⟨#[60]⟩ : ByteArray), (⟨#[62]⟩ : ByteArray)] : List ByteArray)) (inner := [.string (⟨#[60, 62]⟩ : ByteArray), .string (⟨#[60, 61]⟩ : ByteArray), .string (⟨#[62, 61]⟩ : ByteArray), .string (⟨#[40]⟩ : ByteArray), .string (⟨#[41]⟩ : ByteArray), .string (⟨#[44]⟩ : ByteArray), .string (⟨#[46]⟩ : ByteArray), .string (⟨#[42]⟩ : ByteArray), .string (⟨#[43]⟩ : ByteArray), .string (⟨#[45]⟩ : ByteArray), .string (⟨#[61]⟩ : ByteArray), .string (⟨#[60]⟩ : ByteArray), .string (⟨#[62]⟩ : ByteArray)]) (ok := fun _ => True) (okp := fun _ => True) ?hr ?hp (fun _ hk => hk) trivial (Below.refl _ _) (Nat.le_refl _) (by simp) ?_; (case hd => rfl); (case hg => rfl); (case hr => first | (go_simp; done) | (go_simp; rfl)); (case hp => exact (Reps.one (show Kd.M Kd.string _ _ _ (⟨#[60, 62]⟩ : ByteArray) [.string (⟨#[60, 62]⟩ : ByteArray)] from rfl) (Reps.one (show Kd.M Kd.string _ _ _ (⟨#[60, 61]⟩ : ByteArray) [.string (⟨#[60, 61]⟩ : ByteArray)] from rfl) (Reps.one (show Kd.M Kd.string _ _ _ (⟨#[62, 61]⟩ : ByteArray) [.string (⟨#[62, 61]⟩ : ByteArray)] from rfl) (Reps.one (show Kd.M Kd.string _ _ _ (⟨#[40]⟩ : ByteArray) [.string (⟨#[40]⟩ : ByteArray)] from rfl) (Reps.one (show Kd.M Kd.string _ _ _ (⟨#[41]⟩ : ByteArray) [.string (⟨#[41]⟩ : ByteArray)] from rfl) (Reps.one (show Kd.M Kd.string _ _ _ (⟨#[44]⟩ : ByteArray) [.string (⟨#[44]⟩ : ByteArray)] from rfl) (Reps.one (show Kd.M Kd.string _ _ _ (⟨#[46]⟩ : ByteArray) [.string (⟨#[46]⟩ : ByteArray)] from rfl) (Reps.one (show Kd.M Kd.string _ _ _ (⟨#[42]⟩ : ByteArray) [.string (⟨#[42]⟩ : ByteArray)] from rfl) (Reps.one (show Kd.M Kd.string _ _ _ (⟨#[43]⟩ : ByteArray) [.string (⟨#[43]⟩ : ByteArray)] from rfl) (Reps.one (show Kd.M Kd.string _ _ _ (⟨#[45]⟩ : ByteArray) [.string (⟨#[45]⟩ : ByteArray)] from rfl) (Reps.one (show Kd.M Kd.string _ _ _ (⟨#[61]⟩ : ByteArray) [.string (⟨#[61]⟩ : ByteArray)] from rfl) (Reps.one (show Kd.M Kd.string _ _ _ (⟨#[60]⟩ : ByteArray) [.string (⟨#[60]⟩ : ByteArray)] from rfl) (Reps.one (show Kd.M Kd.string _ _ _ (⟨#[62]⟩ : ByteArray) [.string (⟨#[62]⟩ : ByteArray)] from rfl) (Reps.none _ _))))))))))))))); intro v195 w3 ho4 hb hg_ hnew_; clear hg_ hnew_; (first | rw [← Ny194.out] at ho4 | (simp only [Int.reduceToNat] at ho4; rw [← Ny194.out] at ho4)); have HO196 := am_ (Kd.R_lower ho4 (below_size (bl_))); replace HB := am_ (below_step (bl_) hb); clear hb ho4))
 repeat (go_quiet (first | ((with_reducible refine gate_dst (N := 7) rfl ?_); (try (refine gate_guard (by rfl) ?_; dsimp only)); refine Kd.R_lit Kd.string _ 9 ?hg (N := 7) ?hd (xs := ([(⟨#[60, 62]⟩ : ByteArray), (⟨#[60, 61]⟩ : ByteArray), (⟨#[62, 61]⟩ : ByteArray), (⟨#[40]⟩ : ByteArray), (⟨#[41]⟩ : ByteArray), (⟨#[44]⟩ : ByteArray), (⟨#[46]⟩ : ByteArray), (⟨#[42]⟩ : ByteArray), (⟨#[43]⟩ : ByteArray), (⟨#[45]⟩ : ByteArray), (⟨#[61]⟩ : ByteArray), (⟨#[60]⟩ : ByteArray), (⟨#[62]⟩ : ByteArray)] : List ByteArray)) (inner := [.string (⟨#[60, 62]⟩ : ByteArray), .string (⟨#[60, 61]⟩ : ByteArray), .string (⟨#[62, 61]⟩ : ByteArray), .string (⟨#[40]⟩ : ByteArray), .string (⟨#[41]⟩ : ByteArray), .string (⟨#[44]⟩ : ByteArray), .string (⟨#[46]⟩ : ByteArray), .string (⟨#[42]⟩ : ByteArray), .string (⟨#[43]⟩ : ByteArray), .string (⟨#[45]⟩ : ByteArray), .string (⟨#[61]⟩ : ByteArray), .string (⟨#[60]⟩ : ByteArray), .string (⟨#[62]⟩ : ByteArray)]) (ok := fun _ => True) (okp := fun _ => True) ?hr ?hp (fun _ hk => hk) trivial (Below.refl _ _) (Nat.le_refl _) (by simp) ?_; (case hd => rfl); (case hg => rfl); (case hr => first | (go_simp; done) | (go_simp; rfl)); (case hp => exact (Reps.one (show Kd.M Kd.string _ _ _ (⟨#[60, 62]⟩ : ByteArray) [.string (⟨#[60, 62]⟩ : ByteArray)] from rfl) (Reps.one (show Kd.M Kd.string _ _ _ (⟨#[60, 61]⟩ : ByteArray) [.string (⟨#[60, 61]⟩ : ByteArray)] from rfl) (Reps.one (show Kd.M Kd.string _ _ _ (⟨#[62, 61]⟩ : ByteArray) [.string (⟨#[62, 61]⟩ : ByteArray)] from rfl) (Reps.one (show Kd.M Kd.string _ _ _ (⟨#[40]⟩ : ByteArray) [.string (⟨#[40]⟩ : ByteArray)] from rfl) (Reps.one (show Kd.M Kd.string _ _ _ (⟨#[41]⟩ : ByteArray) [.string (⟨#[41]⟩ : ByteArray)] from rfl) (Reps.one (show Kd.M Kd.string _ _ _ (⟨#[44]⟩ : ByteArray) [.string (⟨#[44]⟩ : ByteArray)] from rfl) (Reps.one (show Kd.M Kd.string _ _ _ (⟨#[46]⟩ : ByteArray) [.string (⟨#[46]⟩ : ByteArray)] from rfl) (Reps.one (show Kd.M Kd.string _ _ _ (⟨#[42]⟩ : ByteArray) [.string (⟨#[42]⟩ : ByteArray)] from rfl) (Reps.one (show Kd.M Kd.string _ _ _ (⟨#[43]⟩ : ByteArray) [.string (⟨#[43]⟩ : ByteArray)] from rfl) (Reps.one (show Kd.M Kd.string _ _ _ (⟨#[45]⟩ : ByteArray) [.string (⟨#[45]⟩ : ByteArray)] from rfl) (Reps.one (show Kd.M Kd.string _ _ _ (⟨#[61]⟩ : ByteArray) [.string (⟨#[61]⟩ : ByteArray)] from rfl) (Reps.one (show Kd.M Kd.string _ _ _ (⟨#[60]⟩ : ByteArray) [.string (⟨#[60]⟩ : ByteArray)] from rfl) (Reps.one (show Kd.M Kd.string _ _ _ (⟨#[62]⟩ : ByteArray) [.string (⟨#[62]⟩ : ByteArray)] from rfl) (Reps.none _ _))))))))))))))); intro v195 w3 ho4 hb hg_ hnew_; clear hg_ hnew_; (first | rw [← Ny194.out] at ho4 | (simp only [Int.reduceToNat] at ho4; rw [← Ny194.out] at ho4)); have HO196 := am_ (Kd.R_lower ho4 (below_size (bl_))); replace HB := am_ (below_step (bl_) hb); clear hb ho4)); try go_wp2_with (first | ((with_reducible refine gate_dst (N := 7) rfl ?_); (try (refine gate_guard (by rfl) ?_; dsimp only)); refine Kd.R_lit Kd.string _ 9 ?hg (N := 7) ?hd (xs := ([(⟨#[60, 62]⟩ : ByteArray), (⟨#[60, 61]⟩ : ByteArray), (⟨#[62, 61]⟩ : ByteArray), (⟨#[40]⟩ : ByteArray), (⟨#[41]⟩ : ByteArray), (⟨#[44]⟩ : ByteArray), (⟨#[46]⟩ : ByteArray), (⟨#[42]⟩ : ByteArray), (⟨#[43]⟩ : ByteArray), (⟨#[45]⟩ : ByteArray), (⟨#[61]⟩ : ByteArray), (⟨#[60]⟩ : ByteArray), (⟨#[62]⟩ : ByteArray)] : List ByteArray)) (inner := [.string (⟨#[60, 62]⟩ : ByteArray), .string (⟨#[60, 61]⟩ : ByteArray), .string (⟨#[62, 61]⟩ : ByteArray), .string (⟨#[40]⟩ : ByteArray), .string (⟨#[41]⟩ : ByteArray), .string (⟨#[44]⟩ : ByteArray), .string (⟨#[46]⟩ : ByteArray), .string (⟨#[42]⟩ : ByteArray), .string (⟨#[43]⟩ : ByteArray), .string (⟨#[45]⟩ : ByteArray), .string (⟨#[61]⟩ : ByteArray), .string (⟨#[60]⟩ : ByteArray), .string (⟨#[62]⟩ : ByteArray)]) (ok := fun _ => True) (okp := fun _ => True) ?hr ?hp (fun _ hk => hk) trivial (Below.refl _ _) (Nat.le_refl _) (by simp) ?_; (case hd => rfl); (case hg => rfl); (case hr => first | (go_simp; done) | (go_simp; rfl)); (case hp => exact (Reps.one (show Kd.M Kd.string _ _ _ (⟨#[60, 62]⟩ : ByteArray) [.string (⟨#[60, 62]⟩ : ByteArray)] from rfl) (Reps.one (show Kd.M Kd.string _ _ _ (⟨#[60, 61]⟩ : ByteArray) [.string (⟨#[60, 61]⟩ : ByteArray)] from rfl) (Reps.one (show Kd.M Kd.string _ _ _ (⟨#[62, 61]⟩ : ByteArray) [.string (⟨#[62, 61]⟩ : ByteArray)] from rfl) (Reps.one (show Kd.M Kd.string _ _ _ (⟨#[40]⟩ : ByteArray) [.string (⟨#[40]⟩ : ByteArray)] from rfl) (Reps.one (show Kd.M Kd.string _ _ _ (⟨#[41]⟩ : ByteArray) [.string (⟨#[41]⟩ : ByteArray)] from rfl) (Reps.one (show Kd.M Kd.string _ _ _ (⟨#[44]⟩ : ByteArray) [.string (⟨#[44]⟩ : ByteArray)] from rfl) (Reps.one (show Kd.M Kd.string _ _ _ (⟨#[46]⟩ : ByteArray) [.string (⟨#[46]⟩ : ByteArray)] from rfl) (Reps.one (show Kd.M Kd.string _ _ _ (⟨#[42]⟩ : ByteArray) [.string (⟨#[42]⟩ : ByteArray)] from rfl) (Reps.one (show Kd.M Kd.string _ _ _ (⟨#[43]⟩ : ByteArray) [.string (⟨#[43]⟩ : ByteArray)] from rfl) (Reps.one (show Kd.M Kd.string _ _ _ (⟨#[45]⟩ : ByteArray) [.string (⟨#[45]⟩ : ByteArray)] from rfl) (Reps.one (show Kd.M Kd.string _ _ _ (⟨#[61]⟩ : ByteArray) [.string (⟨#[61]⟩ : ByteArray)] from rfl) (Reps.one (show Kd.M Kd.string _ _ _ (⟨#[60]⟩ : ByteArray) [.string (⟨#[60]⟩ : ByteArray)] from rfl) (Reps.one (show Kd.M Kd.string _ _ _ (⟨#[62]⟩ : ByteArray) [.string (⟨#[62]⟩ : ByteArray)] from rfl) (Reps.none _ _))))))))))))))); intro v195 w3 ho4 hb hg_ hnew_; clear hg_ hnew_; (first | rw [← Ny194.out] at ho4 | (simp only [Int.reduceToNat] at ho4; rw [← Ny194.out] at ho4)); have HO196 := am_ (Kd.R_lower ho4 (below_size (bl_))); replace HB := am_ (below_step (bl_) hb); clear hb ho4)))
 go_loopg [6] k (fun kq v6 w' => ∃ (x6_1 : Int), v6 = .int .i64 x6_1 ∧ Aside0 (r07_Sign.l0 kq a0 a1 y194 x6_1 = some r) ∧ Aside0 (kq ≤ k) ∧ Aside0 (Kd.R Kd.string 9 w' w.heap.size (fun _ => True) v195 y194) ∧ Aside0 (Below w.heap.size w w'))
 case atStart => exact ⟨(0), (rs_), H', ⟨Nat.le_refl _⟩, ⟨kr_ HO196.out⟩, ⟨bl_⟩⟩
 case round =>
  clear H'; (try clear p2); obtain ⟨x6_1, rfl, HA, HK1, HO_5, HB⟩ := hrel
  cases gk with
  | zero => exact absurd HA.out (by simp [r07_Sign.l0])
  | succ k1 =>
   have H := HA.out; clear HA; simp only [r07_Sign.l0] at H
   by_cases c5 : x6_1 < (y194.length : Int)
   ·rw [if_pos c5] at H
    have c5b0 : decide (x6_1 < (y194.length : Int)) = true := decide_eq_true c5; clear c5
    by_cases c6 : a1 ≥ 0
    ·rw [if_pos c6] at H
     have c6b0 : decide (0 ≤ a1) = true := decide_eq_true c6; clear c6
     by_cases c7 : 0 ≤ x6_1
     ·rw [if_pos c7] at H
      have c7b0 : decide (0 ≤ x6_1) = true := decide_eq_true c7; clear c7
      by_cases c8 : a1 ≤ (wrap64 ((a0.size : Int) - ((rdOf ByteArray.empty y194 x6_1).size : Int)))
      ·rw [if_pos c8] at H
       have c8b0 : decide (a1 ≤ (wrap64 ((a0.size : Int) - ((rdOf ByteArray.empty y194 x6_1).size : Int)))) = true := decide_eq_true c8; clear c8
       by_cases c9 : 0 ≤ a1
       ·rw [if_pos c9] at H
        have c9b0 := eq_true c9; have c9b1 : decide (0 ≤ a1) = true := decide_eq_true c9; clear c9
        by_cases c10 : a1 ≤ (wrap64 (a1 + ((rdOf ByteArray.empty y194 x6_1).size : Int)))
        ·rw [if_pos c10] at H
         have c10b0 := eq_true c10; have c10b1 : decide (a1 ≤ (wrap64 (a1 + ((rdOf ByteArray.empty y194 x6_1).size : Int)))) = true := decide_eq_true c10
         by_cases c11 : (wrap64 (a1 + ((rdOf ByteArray.empty y194 x6_1).size : Int))) ≤ (a0.size : Int)
         ·rw [if_pos c11] at H
          have c11b0 := eq_true c11; have c11b1 : decide ((wrap64 (a1 + ((rdOf ByteArray.empty y194 x6_1).size : Int))) ≤ (a0.size : Int)) = true := decide_eq_true c11
          by_cases c12 : (a0.extract (a1 : Int).toNat ((wrap64 (a1 + ((rdOf ByteArray.empty y194 x6_1).size : Int))) : Int).toNat).toList = (rdOf ByteArray.empty y194 x6_1).toList
          ·rw [if_pos c12] at H
           have c12b0 : ((a0.extract (a1 : Int).toNat ((wrap64 (a1 + ((rdOf ByteArray.empty y194 x6_1).size : Int))) : Int).toNat).toList == (rdOf ByteArray.empty y194 x6_1).toList) = true := beq_iff_eq.mpr c12; have c12b1 : ((a0.extract (a1 : Int).toNat ((wrap64 (a1 + ((rdOf ByteArray.empty y194 x6_1).size : Int))) : Int).toNat).toList != (rdOf ByteArray.empty y194 x6_1).toList) = false := bne_eq_false_iff_eq.mpr c12; clear c12; obtain rfl := Option.some.inj H; obtain ⟨Ao13, co13, eo13⟩ := Kd.R_slice HO_5.out; subst eo13; have p197 : 0 ≤ (x6_1 : Int) := of_decide_eq_true (as_); have q197 : x6_1 < (y194.length : Int) := of_decide_eq_true (as_); obtain ⟨ad197, e197, hx197_0⟩ := Kd.at_string (Kd.R_reads' HO_5.out).2.2 x6_1 p197 q197; cases e197; replace p197 := eq_true p197; replace q197 := eq_true q197; have p198 : 0 ≤ (x6_1 : Int) := of_decide_eq_true (as_); have q198 : x6_1 < (y194.length : Int) := of_decide_eq_true (as_); obtain ⟨ad198, e198, hx198_0⟩ := Kd.at_string (Kd.R_reads' HO_5.out).2.2 x6_1 p198 q198; obtain rfl : ad197 = ad198 := (by injection e198); replace p198 := eq_true p198; replace q198 := eq_true q198; have p199 : 0 ≤ (x6_1 : Int) := of_decide_eq_true (as_); have q199 : x6_1 < (y194.length : Int) := of_decide_eq_true (as_); obtain ⟨ad199, e199, hx199_0⟩ := Kd.at_string (Kd.R_reads' HO_5.out).2.2 x6_1 p199 q199; obtain rfl : ad197 = ad199 := (by injection e199); replace p199 := eq_true p199; replace q199 := eq_true q199; have p200 : 0 ≤ (x6_1 : Int) := of_decide_eq_true (as_); have q200 : x6_1 < (y194.length : Int) := of_decide_eq_true (as_); obtain ⟨ad200, e200, hx200_0⟩ := Kd.at_string (Kd.R_reads' HO_5.out).2.2 x6_1 p200 q200; obtain rfl : ad197 = ad200 := (by injection e200); replace p200 := eq_true p200; replace q200 := eq_true q200
           go_wp2
           repeat (go_quiet (fail); try go_wp2)
           go_ret
           exact ⟨ew_, bl_⟩
          ·rw [if_neg c12] at H
           have c12b0 : ((a0.extract (a1 : Int).toNat ((wrap64 (a1 + ((rdOf ByteArray.empty y194 x6_1).size : Int))) : Int).toNat).toList == (rdOf ByteArray.empty y194 x6_1).toList) = false := beq_eq_false_iff_ne.mpr c12; have c12b1 : ((a0.extract (a1 : Int).toNat ((wrap64 (a1 + ((rdOf ByteArray.empty y194 x6_1).size : Int))) : Int).toNat).toList != (rdOf ByteArray.empty y194 x6_1).toList) = true := bne_iff_ne.mpr c12; have H' := am_ H; clear H; obtain ⟨Ao14, co14, eo14⟩ := Kd.R_slice HO_5.out; subst eo14; have p197 : 0 ≤ (x6_1 : Int) := of_decide_eq_true (as_); have q197 : x6_1 < (y194.length : Int) := of_decide_eq_true (as_); obtain ⟨ad197, e197, hx197_0⟩ := Kd.at_string (Kd.R_reads' HO_5.out).2.2 x6_1 p197 q197; cases e197; replace p197 := eq_true p197; replace q197 := eq_true q197; have p198 : 0 ≤ (x6_1 : Int) := of_decide_eq_true (as_); have q198 : x6_1 < (y194.length : Int) := of_decide_eq_true (as_); obtain ⟨ad198, e198, hx198_0⟩ := Kd.at_string (Kd.R_reads' HO_5.out).2.2 x6_1 p198 q198; obtain rfl : ad197 = ad198 := (by injection e198); replace p198 := eq_true p198; replace q198 := eq_true q198; have p199 : 0 ≤ (x6_1 : Int) := of_decide_eq_true (as_); have q199 : x6_1 < (y194.length : Int) := of_decide_eq_true (as_); obtain ⟨ad199, e199, hx199_0⟩ := Kd.at_string (Kd.R_reads' HO_5.out).2.2 x6_1 p199 q199; obtain rfl : ad197 = ad199 := (by injection e199); replace p199 := eq_true p199; replace q199 := eq_true q199
           go_wp2
           repeat (go_quiet (fail); try go_wp2)
           go_roundg k1
           case measure => have := HK1.out; omega
           case rel => exact ⟨(wrap64 (x6_1 + 1)), (rs_), H', ⟨by have := HK1.out; omega⟩, ⟨kr_ HO_5.out⟩, ⟨bl_⟩⟩
         ·rw [if_neg c11] at H
          exact absurd H (by simp)
        ·rw [if_neg c10] at H
         exact absurd H (by simp)
       ·rw [if_neg c9] at H
        exact absurd H (by simp)
      ·rw [if_neg c8] at H
       have c8b0 : decide (a1 ≤ (wrap64 ((a0.size : Int) - ((rdOf ByteArray.empty y194 x6_1).size : Int)))) = false := decide_eq_false c8; clear c8; have H' := am_ H; clear H; obtain ⟨Ao15, co15, eo15⟩ := Kd.R_slice HO_5.out; subst eo15; have p197 : 0 ≤ (x6_1 : Int) := of_decide_eq_true (as_); have q197 : x6_1 < (y194.length : Int) := of_decide_eq_true (as_); obtain ⟨ad197, e197, hx197_0⟩ := Kd.at_string (Kd.R_reads' HO_5.out).2.2 x6_1 p197 q197; cases e197; replace p197 := eq_true p197; replace q197 := eq_true q197
       go_wp2
       repeat (go_quiet (fail); try go_wp2)
       go_roundg k1
       case measure => have := HK1.out; omega
       case rel => exact ⟨(wrap64 (x6_1 + 1)), (rs_), H', ⟨by have := HK1.out; omega⟩, ⟨kr_ HO_5.out⟩, ⟨bl_⟩⟩
     ·rw [if_neg c7] at H
      exact absurd H (by simp)
    ·rw [if_neg c6] at H
     have c6b0 : decide (0 ≤ a1) = false := decide_eq_false c6; clear c6; have H' := am_ H; clear H; obtain ⟨Ao16, co16, eo16⟩ := Kd.R_slice HO_5.out; subst eo16
     go_wp2
     repeat (go_quiet (fail); try go_wp2)
     go_roundg k1
     case measure => have := HK1.out; omega
     case rel => exact ⟨(wrap64 (x6_1 + 1)), (rs_), H', ⟨by have := HK1.out; omega⟩, ⟨kr_ HO_5.out⟩, ⟨bl_⟩⟩
   ·rw [if_neg c5] at H
    have c5b0 : decide (x6_1 < (y194.length : Int)) = false := decide_eq_false c5; clear c5; obtain rfl := Option.some.inj H; obtain ⟨Ao17, co17, eo17⟩ := Kd.R_slice HO_5.out; subst eo17
    go_wp2
    repeat (go_quiet (fail); try go_wp2)
    go_ret
    exact ⟨ew_, bl_⟩
end Go.Proofs.Ytcfgjaggccnoaaa.PParseSmall
namespace Go.Proofs.Ytcfgjaggccnoaaa.PParseSmall
open Go.RowKit Go.Proofs.YtcfgjaggccnoaaaW.PrintWords Go.Proofs.YtcfgjaggccnoaaaW.PrintLast Go.Proofs.YtcfgjaggccnoaaaW.PrintMore
attribute [local go_sem] max2_int min2_int max_two min_two max_three min_three max_four min_four
set_option linter.unusedVariables false
set_option maxHeartbeats 8000000
set_option linter.unusedSimpArgs false
set_option maxRecDepth 100000
mutual
def r07_One.j0 : Nat → ByteArray → Int → Option (Int × ByteArray × Int × Int × Int × Int)
 | 0, _, _ => none
 | k + 1, x0, x1 => if x1 > (x0.size : Int) then (r07_One.j1 k x0 (x0.size : Int)) else (r07_One.j1 k x0 x1)
def r07_One.j1 : Nat → ByteArray → Int → Option (Int × ByteArray × Int × Int × Int × Int)
 | 0, _, _ => none
 | k + 1, x0, x1 => r07_One.l0 k x0 x1 x1
def r07_One.j3 : Nat → ByteArray → Int → Int → Option (Int × ByteArray × Int × Int × Int × Int)
 | 0, _, _, _ => none
 | k + 1, x0, x1, x7 => if x7 = (x0.size : Int) then (some (0, (⟨#[]⟩ : ByteArray), 0, x7, x7, 0)) else (if 0 ≤ x7 then (if x7 < (x0.size : Int) then ((r07_letter.f (bt x0 x7)).bind fun t203 => (if t203 = true then (r07_One.l1 k x0 x1 x7 x7) else ((r07_digit.f (bt x0 x7)).bind fun t207 => (if t207 = true then (r07_One.l2 k x0 x1 x7 x7) else (if (bt x0 x7) = 39 then ((r07_text.f k x0 x1 x7).bind fun bt212 => (some (bt212.1, bt212.2.1, bt212.2.2.1, bt212.2.2.2.1, bt212.2.2.2.2.1, bt212.2.2.2.2.2))) else ((r07_Sign.f k x0 x7).bind fun t218 => (if t218.toList = ([] : List UInt8) then (some (0, (⟨#[]⟩ : ByteArray), 0, 0, x1, 1)) else (some (5, t218, 0, x7, wrap64 (x7 + (t218.size : Int)), 0))))))))) else (none)) else (none))
def r07_One.j5 : Nat → ByteArray → Int → Int → Int → Option (Int × ByteArray × Int × Int × Int × Int)
 | 0, _, _, _, _ => none
 | k + 1, x0, x1, x7, x8 => if (wrap64 (x8 - x7)) > 32 then (some (0, (⟨#[]⟩ : ByteArray), 0, 0, x1, 1)) else (if 0 ≤ x7 then (if x7 ≤ x8 then (if x8 ≤ (x0.size : Int) then ((r05_Word.f k (x0.extract (x7 : Int).toNat (x8 : Int).toNat)).bind fun t206 => (if t206 = true then (some (2, x0.extract (x7 : Int).toNat (x8 : Int).toNat, 0, x7, x8, 0)) else (some (1, x0.extract (x7 : Int).toNat (x8 : Int).toNat, 0, x7, x8, 0)))) else (none)) else (none)) else (none))
def r07_One.l1 : Nat → ByteArray → Int → Int → Int → Option (Int × ByteArray × Int × Int × Int × Int)
 | 0, _, _, _, _ => none
 | k + 1, x0, x1, x7, x8 => if x8 < (x0.size : Int) then (if 0 ≤ x8 then ((r07_letter.f (bt x0 x8)).bind fun t204 => (if t204 = true then (r07_One.l1 k x0 x1 x7 (wrap64 (x8 + 1))) else ((r07_digit.f (bt x0 x8)).bind fun t205 => (if t205 = true then (r07_One.l1 k x0 x1 x7 (wrap64 (x8 + 1))) else (r07_One.j5 k x0 x1 x7 x8))))) else (none)) else (r07_One.j5 k x0 x1 x7 x8)
def r07_One.j7 : Nat → ByteArray → Int → Int → Int → Option (Int × ByteArray × Int × Int × Int × Int)
 | 0, _, _, _, _ => none
 | k + 1, x0, x1, x7, x8 => if 0 ≤ x7 then (if x7 ≤ x8 then (if x8 ≤ (x0.size : Int) then ((r07_number.f k (x0.extract (x7 : Int).toNat (x8 : Int).toNat)).bind fun bt209 => (if bt209.2 = true then (if x8 < (x0.size : Int) then (if 0 ≤ x8 then ((r07_letter.f (bt x0 x8)).bind fun t211 => (if t211 = true then (some (0, (⟨#[]⟩ : ByteArray), 0, 0, x1, 1)) else (some (3, x0.extract (x7 : Int).toNat (x8 : Int).toNat, bt209.1, x7, x8, 0)))) else (none)) else (some (3, x0.extract (x7 : Int).toNat (x8 : Int).toNat, bt209.1, x7, x8, 0))) else (some (0, (⟨#[]⟩ : ByteArray), 0, 0, x1, 1)))) else (none)) else (none)) else (none)
def r07_One.l2 : Nat → ByteArray → Int → Int → Int → Option (Int × ByteArray × Int × Int × Int × Int)
 | 0, _, _, _, _ => none
 | k + 1, x0, x1, x7, x8 => if x8 < (x0.size : Int) then (if 0 ≤ x8 then ((r07_digit.f (bt x0 x8)).bind fun t208 => (if t208 = true then (r07_One.l2 k x0 x1 x7 (wrap64 (x8 + 1))) else (r07_One.j7 k x0 x1 x7 x8))) else (none)) else (r07_One.j7 k x0 x1 x7 x8)
def r07_One.l0 : Nat → ByteArray → Int → Int → Option (Int × ByteArray × Int × Int × Int × Int)
 | 0, _, _, _ => none
 | k + 1, x0, x1, x7 => if x7 < (x0.size : Int) then (if 0 ≤ x7 then ((r07_Blank.f (bt x0 x7)).bind fun t202 => (if t202 = true then (r07_One.l0 k x0 x1 (wrap64 (x7 + 1))) else (r07_One.j3 k x0 x1 x7))) else (none)) else (r07_One.j3 k x0 x1 x7)
end
def r07_One.f (k : Nat) (a0 : ByteArray) (a1 : Int) : Option (Int × ByteArray × Int × Int × Int × Int) := if a1 < 0 then (r07_One.j0 k a0 0) else (r07_One.j0 k a0 a1)
theorem r07_One.mono_l : ∀ k, (∀ y0 y1, LeO (r07_One.j0 k y0 y1) (r07_One.j0 (k + 1) y0 y1)) ∧ (∀ y0 y1, LeO (r07_One.j1 k y0 y1) (r07_One.j1 (k + 1) y0 y1)) ∧ (∀ y0 y1 y2, LeO (r07_One.j3 k y0 y1 y2) (r07_One.j3 (k + 1) y0 y1 y2)) ∧ (∀ y0 y1 y2 y3, LeO (r07_One.j5 k y0 y1 y2 y3) (r07_One.j5 (k + 1) y0 y1 y2 y3)) ∧ (∀ y0 y1 y2 y3, LeO (r07_One.l1 k y0 y1 y2 y3) (r07_One.l1 (k + 1) y0 y1 y2 y3)) ∧ (∀ y0 y1 y2 y3, LeO (r07_One.j7 k y0 y1 y2 y3) (r07_One.j7 (k + 1) y0 y1 y2 y3)) ∧ (∀ y0 y1 y2 y3, LeO (r07_One.l2 k y0 y1 y2 y3) (r07_One.l2 (k + 1) y0 y1 y2 y3)) ∧ (∀ y0 y1 y2, LeO (r07_One.l0 k y0 y1 y2) (r07_One.l0 (k + 1) y0 y1 y2))
 | 0 => ⟨fun _ _ r h => by simp [r07_One.j0] at h, fun _ _ r h => by simp [r07_One.j1] at h, fun _ _ _ r h => by simp [r07_One.j3] at h, fun _ _ _ _ r h => by simp [r07_One.j5] at h, fun _ _ _ _ r h => by simp [r07_One.l1] at h, fun _ _ _ _ r h => by simp [r07_One.j7] at h, fun _ _ _ _ r h => by simp [r07_One.l2] at h, fun _ _ _ r h => by simp [r07_One.l0] at h⟩
 | k + 1 => by
  obtain ⟨ih0, ih1, ih2, ih3, ih4, ih5, ih6, ih7⟩ := r07_One.mono_l k; refine ⟨?_, ?_, ?_, ?_, ?_, ?_, ?_, ?_⟩
  ·intro y0 y1
   unfold r07_One.j0
   repeat' first
   | (with_reducible exact ih0 _ _)
   | (with_reducible exact ih1 _ _)
   | (with_reducible exact ih2 _ _ _)
   | (with_reducible exact ih3 _ _ _ _)
   | (with_reducible exact ih4 _ _ _ _)
   | (with_reducible exact ih5 _ _ _ _)
   | (with_reducible exact ih6 _ _ _ _)
   | (with_reducible exact ih7 _ _ _)
   | (with_reducible exact r05_Word.mono _ _)
   | (with_reducible exact r07_Sign.mono _ _ _)
   | (with_reducible exact r07_number.mono _ _)
   | (with_reducible exact r07_text.mono _ _ _ _)
   | (with_reducible exact LeO.refl _)
   | (with_reducible exact LeO.none _)
   | (with_reducible refine LeO.ite ?_ ?_)
   | (with_reducible refine LeO.bind ?_ (fun _ => ?_))
   | exact ih0 _ _
   | exact ih1 _ _
   | exact ih2 _ _ _
   | exact ih3 _ _ _ _
   | exact ih4 _ _ _ _
   | exact ih5 _ _ _ _
   | exact ih6 _ _ _ _
   | exact ih7 _ _ _
   | exact r05_Word.mono _ _
   | exact r07_Sign.mono _ _ _
   | exact r07_number.mono _ _
   | exact r07_text.mono _ _ _ _
   | exact LeO.none _
   | refine LeO.ite ?_ ?_
   | refine LeO.bind ?_ (fun _ => ?_)
  ·intro y0 y1
   unfold r07_One.j1
   repeat' first
   | (with_reducible exact ih0 _ _)
   | (with_reducible exact ih1 _ _)
   | (with_reducible exact ih2 _ _ _)
   | (with_reducible exact ih3 _ _ _ _)
   | (with_reducible exact ih4 _ _ _ _)
   | (with_reducible exact ih5 _ _ _ _)
   | (with_reducible exact ih6 _ _ _ _)
   | (with_reducible exact ih7 _ _ _)
   | (with_reducible exact r05_Word.mono _ _)
   | (with_reducible exact r07_Sign.mono _ _ _)
   | (with_reducible exact r07_number.mono _ _)
   | (with_reducible exact r07_text.mono _ _ _ _)
   | (with_reducible exact LeO.refl _)
   | (with_reducible exact LeO.none _)
   | (with_reducible refine LeO.ite ?_ ?_)
   | (with_reducible refine LeO.bind ?_ (fun _ => ?_))
   | exact ih0 _ _
   | exact ih1 _ _
   | exact ih2 _ _ _
   | exact ih3 _ _ _ _
   | exact ih4 _ _ _ _
   | exact ih5 _ _ _ _
   | exact ih6 _ _ _ _
   | exact ih7 _ _ _
   | exact r05_Word.mono _ _
   | exact r07_Sign.mono _ _ _
   | exact r07_number.mono _ _
   | exact r07_text.mono _ _ _ _
   | exact LeO.none _
   | refine LeO.ite ?_ ?_
   | refine LeO.bind ?_ (fun _ => ?_)
  ·intro y0 y1 y2
   unfold r07_One.j3
   repeat' first
   | (with_reducible exact ih0 _ _)
   | (with_reducible exact ih1 _ _)
   | (with_reducible exact ih2 _ _ _)
   | (with_reducible exact ih3 _ _ _ _)
   | (with_reducible exact ih4 _ _ _ _)
   | (with_reducible exact ih5 _ _ _ _)
   | (with_reducible exact ih6 _ _ _ _)
   | (with_reducible exact ih7 _ _ _)
   | (with_reducible exact r05_Word.mono _ _)
   | (with_reducible exact r07_Sign.mono _ _ _)
   | (with_reducible exact r07_number.mono _ _)
   | (with_reducible exact r07_text.mono _ _ _ _)
   | (with_reducible exact LeO.refl _)
   | (with_reducible exact LeO.none _)
   | (with_reducible refine LeO.ite ?_ ?_)
   | (with_reducible refine LeO.bind ?_ (fun _ => ?_))
   | exact ih0 _ _
   | exact ih1 _ _
   | exact ih2 _ _ _
   | exact ih3 _ _ _ _
   | exact ih4 _ _ _ _
   | exact ih5 _ _ _ _
   | exact ih6 _ _ _ _
   | exact ih7 _ _ _
   | exact r05_Word.mono _ _
   | exact r07_Sign.mono _ _ _
   | exact r07_number.mono _ _
   | exact r07_text.mono _ _ _ _
   | exact LeO.none _
   | refine LeO.ite ?_ ?_
   | refine LeO.bind ?_ (fun _ => ?_)
  ·intro y0 y1 y2 y3
   unfold r07_One.j5
   repeat' first
   | (with_reducible exact ih0 _ _)
   | (with_reducible exact ih1 _ _)
   | (with_reducible exact ih2 _ _ _)
   | (with_reducible exact ih3 _ _ _ _)
   | (with_reducible exact ih4 _ _ _ _)
   | (with_reducible exact ih5 _ _ _ _)
   | (with_reducible exact ih6 _ _ _ _)
   | (with_reducible exact ih7 _ _ _)
   | (with_reducible exact r05_Word.mono _ _)
   | (with_reducible exact r07_Sign.mono _ _ _)
   | (with_reducible exact r07_number.mono _ _)
   | (with_reducible exact r07_text.mono _ _ _ _)
   | (with_reducible exact LeO.refl _)
   | (with_reducible exact LeO.none _)
   | (with_reducible refine LeO.ite ?_ ?_)
   | (with_reducible refine LeO.bind ?_ (fun _ => ?_))
   | exact ih0 _ _
   | exact ih1 _ _
   | exact ih2 _ _ _
   | exact ih3 _ _ _ _
   | exact ih4 _ _ _ _
   | exact ih5 _ _ _ _
   | exact ih6 _ _ _ _
   | exact ih7 _ _ _
   | exact r05_Word.mono _ _
   | exact r07_Sign.mono _ _ _
   | exact r07_number.mono _ _
   | exact r07_text.mono _ _ _ _
   | exact LeO.none _
   | refine LeO.ite ?_ ?_
   | refine LeO.bind ?_ (fun _ => ?_)
  ·intro y0 y1 y2 y3
   unfold r07_One.l1
   repeat' first
   | (with_reducible exact ih0 _ _)
   | (with_reducible exact ih1 _ _)
   | (with_reducible exact ih2 _ _ _)
   | (with_reducible exact ih3 _ _ _ _)
   | (with_reducible exact ih4 _ _ _ _)
   | (with_reducible exact ih5 _ _ _ _)
   | (with_reducible exact ih6 _ _ _ _)
   | (with_reducible exact ih7 _ _ _)
   | (with_reducible exact r05_Word.mono _ _)
   | (with_reducible exact r07_Sign.mono _ _ _)
   | (with_reducible exact r07_number.mono _ _)
   | (with_reducible exact r07_text.mono _ _ _ _)
   | (with_reducible exact LeO.refl _)
   | (with_reducible exact LeO.none _)
   | (with_reducible refine LeO.ite ?_ ?_)
   | (with_reducible refine LeO.bind ?_ (fun _ => ?_))
   | exact ih0 _ _
   | exact ih1 _ _
   | exact ih2 _ _ _
   | exact ih3 _ _ _ _
   | exact ih4 _ _ _ _
   | exact ih5 _ _ _ _
   | exact ih6 _ _ _ _
   | exact ih7 _ _ _
   | exact r05_Word.mono _ _
   | exact r07_Sign.mono _ _ _
   | exact r07_number.mono _ _
   | exact r07_text.mono _ _ _ _
   | exact LeO.none _
   | refine LeO.ite ?_ ?_
   | refine LeO.bind ?_ (fun _ => ?_)
  ·intro y0 y1 y2 y3
   unfold r07_One.j7
   repeat' first
   | (with_reducible exact ih0 _ _)
   | (with_reducible exact ih1 _ _)
   | (with_reducible exact ih2 _ _ _)
   | (with_reducible exact ih3 _ _ _ _)
   | (with_reducible exact ih4 _ _ _ _)
   | (with_reducible exact ih5 _ _ _ _)
   | (with_reducible exact ih6 _ _ _ _)
   | (with_reducible exact ih7 _ _ _)
   | (with_reducible exact r05_Word.mono _ _)
   | (with_reducible exact r07_Sign.mono _ _ _)
   | (with_reducible exact r07_number.mono _ _)
   | (with_reducible exact r07_text.mono _ _ _ _)
   | (with_reducible exact LeO.refl _)
   | (with_reducible exact LeO.none _)
   | (with_reducible refine LeO.ite ?_ ?_)
   | (with_reducible refine LeO.bind ?_ (fun _ => ?_))
   | exact ih0 _ _
   | exact ih1 _ _
   | exact ih2 _ _ _
   | exact ih3 _ _ _ _
   | exact ih4 _ _ _ _
   | exact ih5 _ _ _ _
   | exact ih6 _ _ _ _
   | exact ih7 _ _ _
   | exact r05_Word.mono _ _
   | exact r07_Sign.mono _ _ _
   | exact r07_number.mono _ _
   | exact r07_text.mono _ _ _ _
   | exact LeO.none _
   | refine LeO.ite ?_ ?_
   | refine LeO.bind ?_ (fun _ => ?_)
  ·intro y0 y1 y2 y3
   unfold r07_One.l2
   repeat' first
   | (with_reducible exact ih0 _ _)
   | (with_reducible exact ih1 _ _)
   | (with_reducible exact ih2 _ _ _)
   | (with_reducible exact ih3 _ _ _ _)
   | (with_reducible exact ih4 _ _ _ _)
   | (with_reducible exact ih5 _ _ _ _)
   | (with_reducible exact ih6 _ _ _ _)
   | (with_reducible exact ih7 _ _ _)
   | (with_reducible exact r05_Word.mono _ _)
   | (with_reducible exact r07_Sign.mono _ _ _)
   | (with_reducible exact r07_number.mono _ _)
   | (with_reducible exact r07_text.mono _ _ _ _)
   | (with_reducible exact LeO.refl _)
   | (with_reducible exact LeO.none _)
   | (with_reducible refine LeO.ite ?_ ?_)
   | (with_reducible refine LeO.bind ?_ (fun _ => ?_))
   | exact ih0 _ _
   | exact ih1 _ _
   | exact ih2 _ _ _
   | exact ih3 _ _ _ _
   | exact ih4 _ _ _ _
   | exact ih5 _ _ _ _
   | exact ih6 _ _ _ _
   | exact ih7 _ _ _
   | exact r05_Word.mono _ _
   | exact r07_Sign.mono _ _ _
   | exact r07_number.mono _ _
   | exact r07_text.mono _ _ _ _
   | exact LeO.none _
   | refine LeO.ite ?_ ?_
   | refine LeO.bind ?_ (fun _ => ?_)
  ·intro y0 y1 y2
   unfold r07_One.l0
   repeat' first
   | (with_reducible exact ih0 _ _)
   | (with_reducible exact ih1 _ _)
   | (with_reducible exact ih2 _ _ _)
   | (with_reducible exact ih3 _ _ _ _)
   | (with_reducible exact ih4 _ _ _ _)
   | (with_reducible exact ih5 _ _ _ _)
   | (with_reducible exact ih6 _ _ _ _)
   | (with_reducible exact ih7 _ _ _)
   | (with_reducible exact r05_Word.mono _ _)
   | (with_reducible exact r07_Sign.mono _ _ _)
   | (with_reducible exact r07_number.mono _ _)
   | (with_reducible exact r07_text.mono _ _ _ _)
   | (with_reducible exact LeO.refl _)
   | (with_reducible exact LeO.none _)
   | (with_reducible refine LeO.ite ?_ ?_)
   | (with_reducible refine LeO.bind ?_ (fun _ => ?_))
   | exact ih0 _ _
   | exact ih1 _ _
   | exact ih2 _ _ _
   | exact ih3 _ _ _ _
   | exact ih4 _ _ _ _
   | exact ih5 _ _ _ _
   | exact ih6 _ _ _ _
   | exact ih7 _ _ _
   | exact r05_Word.mono _ _
   | exact r07_Sign.mono _ _ _
   | exact r07_number.mono _ _
   | exact r07_text.mono _ _ _ _
   | exact LeO.none _
   | refine LeO.ite ?_ ?_
   | refine LeO.bind ?_ (fun _ => ?_)
theorem r07_One.mono : ∀ a0 a1 k, LeO (r07_One.f k a0 a1) (r07_One.f (k + 1) a0 a1) := by
 intro a0 a1 k; obtain ⟨ih0, ih1, ih2, ih3, ih4, ih5, ih6, ih7⟩ := r07_One.mono_l k; unfold r07_One.f
 repeat' first
   | (with_reducible exact ih0 _ _)
   | (with_reducible exact ih1 _ _)
   | (with_reducible exact ih2 _ _ _)
   | (with_reducible exact ih3 _ _ _ _)
   | (with_reducible exact ih4 _ _ _ _)
   | (with_reducible exact ih5 _ _ _ _)
   | (with_reducible exact ih6 _ _ _ _)
   | (with_reducible exact ih7 _ _ _)
   | (with_reducible exact r05_Word.mono _ _)
   | (with_reducible exact r07_Sign.mono _ _ _)
   | (with_reducible exact r07_number.mono _ _)
   | (with_reducible exact r07_text.mono _ _ _ _)
   | (with_reducible exact LeO.refl _)
   | (with_reducible exact LeO.none _)
   | (with_reducible refine LeO.ite ?_ ?_)
   | (with_reducible refine LeO.bind ?_ (fun _ => ?_))
   | exact ih0 _ _
   | exact ih1 _ _
   | exact ih2 _ _ _
   | exact ih3 _ _ _ _
   | exact ih4 _ _ _ _
   | exact ih5 _ _ _ _
   | exact ih6 _ _ _ _
   | exact ih7 _ _ _
   | exact r05_Word.mono _ _
   | exact r07_Sign.mono _ _ _
   | exact r07_number.mono _ _
   | exact r07_text.mono _ _ _ _
   | exact LeO.none _
   | refine LeO.ite ?_ ?_
   | refine LeO.bind ?_ (fun _ => ?_)
end Go.Proofs.Ytcfgjaggccnoaaa.PParseSmall
