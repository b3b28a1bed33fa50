-- Written by wip/pack.py, a program of mine: the texts that this law stands on, as far as it uses them; Lean checks it.
import Derived.Test.YtcfgjaggccnoaaaProg
import Derived.Below
import Derived.Deep.Draws
import Derived.Deep.AppendLies
import Derived.Maps.AppendAt
import Derived.OwnWalk
import Derived.Laws.BytesArg
import Derived.Laws.MakeOwn
import Derived.Laws.OwnMore
import Derived.Deep.OwnRows
import Derived.Tactics
import Derived.Lib.ConvBytes
import Derived.Laws.Slices
import Derived.WalkKit
import Derived.KernelRfl
import Derived.RowKit3
import Derived.Deep.LoopGhost
import Derived.Deep.QuietTactic
import Derived.BigQuiet
import Derived.WideLaws
import Derived.Deep.DeepCutAuto
import Derived.Deep.CutBlock
import Derived.Deep.RegionHeld3
import Derived.Laws.Rows
import Derived.Lib.AppendStr
import Derived.ArgAppend
import Derived.Laws.IdiomCopy
import Derived.RowKit
import Derived.OrdersHeld
import Derived.Laws.BitsLemmas
import Derived.Laws.StructEq
import Derived.Laws.DeepStrings4
import Derived.Laws.RangeAny
import Derived.Laws.RangeString
import Derived.Lib.Hide
import Derived.LoopTactic
import Derived.Lib.SliceRun
import Derived.Test.YtcfgjaggccnoaaaZParseExprs1
namespace Go.Proofs.Ytcfgjaggccnoaaa.PParseSmall
open Go.RowKit Go.Proofs.YtcfgjaggccnoaaaW.PrintWords Go.Proofs.YtcfgjaggccnoaaaW.PrintLast Go.Proofs.YtcfgjaggccnoaaaW.PrintMore
attribute [local go_sem] max2_int min2_int max_two min_two max_three min_three max_four min_four
set_option linter.unusedVariables false
set_option maxHeartbeats 8000000
set_option linter.unusedSimpArgs false
set_option maxRecDepth 100000
theorem r07_One.calls (k : Nat) (a0 : ByteArray) (a1 : Int) (r1 : Int) (r2 : ByteArray) (r3 : Int) (r4 : Int) (r5 : Int) (r6 : Int) (w : World) (h : r07_One.f k a0 a1 = some (r1, r2, r3, r4, r5, r6)) :
  Calls Try.prog 44 #[.string a0, .int .i64 a1] w fun e w' => e = .returned (.tuple #[.agg #[.int .i64 r1, .string r2, .int .i64 r3, .int .i64 r4], .int .i64 r5, .int .i64 r6]) ∧ Below w.heap.size w w' := by
 have hu91 := Try.underlying91; have HB := am_ (Below.refl w.heap.size w); have H : (if a1 < 0 then (r07_One.j0 k a0 0) else (r07_One.j0 k a0 a1)) = some (r1, r2, r3, r4, r5, r6) := h; clear h; have HC3 := am_ H; clear H
 go_enter Try.func44, Try.ntmps44
 go_upto_if 13 with (first | ((with_reducible refine gate_dst (N := 4) rfl ?_); (try (refine gate_guard (by rfl) ?_; dsimp only)); refine box_event ?hg (N := 4) ?hd (cs := #[.int .i64 0, .string (⟨#[]⟩ : ByteArray), .int .i64 0, .int .i64 0]) (t := 91) ?hr ?_; (case hd => rfl); (case hg => rfl); (case hr => first | (go_simp; done) | (go_simp; rfl)); intro gb201 hg w4 hbox hb; have BK201 := am_ (hbox); have GW201 := am_ ((by rw [hg]; exact (below_size (bl_)) : w.heap.size ≤ gb201)); have GE201 := am_ ((by rw [hg]; exact (below_size (bl_)) : w.heap.size ≤ gb201)); replace HB := am_ (below_step (bl_) hb); clear hb hbox hg))
 (try simp only [Act.put, sa_, sz_, ss_])
 go_cut [1] (fun v1 wc => ∃ (kq : Nat) (x1_2 : Int), v1 = .int .i64 x1_2 ∧ Aside0 (r07_One.j0 kq a0 x1_2 = some (r1, r2, r3, r4, r5, r6)) ∧ Aside0 (kq ≤ k) ∧ Aside0 (wc.heap[gb201]? = some (.cells #[.int .i64 0, .string (⟨#[]⟩ : ByteArray), .int .i64 0, .int .i64 0] 91 (0, 0))) ∧ Aside0 (Below w.heap.size w wc))
 case first =>
  have H := HC3.out; clear HC3
  by_cases c5 : a1 < 0
  ·rw [if_pos c5] at H
   have c5b0 : decide (a1 < 0) = true := decide_eq_true c5; clear c5; (first | rw [c5b0] | (simp only [i64_w, i32_w]; rw [c5b0]) | skip); have H' := am_ H; clear H
   go_wp2
   go_meet
   case rel => exact ⟨_, (0), (rs_), H', ⟨by first | omega | exact Nat.le_refl _⟩, ⟨bk_ BK201.out⟩, ⟨bl_⟩⟩
  ·rw [if_neg c5] at H
   have c5b0 : decide (a1 < 0) = false := decide_eq_false c5; clear c5; (first | rw [c5b0] | (simp only [i64_w, i32_w]; rw [c5b0]) | skip); have H' := am_ H; clear H
   go_wp2
   go_meet
   case rel => exact ⟨_, (a1), (rs_), H', ⟨by first | omega | exact Nat.le_refl _⟩, ⟨bk_ BK201.out⟩, ⟨bl_⟩⟩
 case rest =>
  clear HC3; (try clear p2); (try clear c4); (try clear c5); (try clear c5b0); obtain ⟨kq, x1_2, rfl, HA, HJ2, BK201, HB⟩ := hcut
  cases kq with
  | zero => exact absurd HA.out (by simp [r07_One.j0])
  | succ kj2 =>
   have H := HA.out; clear HA; simp only [r07_One.j0] at H; have HC6 := am_ H; clear H
   go_upto_if 17 with (fail)
   go_cut [1] (fun v1 wc => ∃ (kq : Nat) (x1_5 : Int), v1 = .int .i64 x1_5 ∧ Aside0 (r07_One.j1 kq a0 x1_5 = some (r1, r2, r3, r4, r5, r6)) ∧ Aside0 (kq ≤ kj2) ∧ Aside0 (wc.heap[gb201]? = some (.cells #[.int .i64 0, .string (⟨#[]⟩ : ByteArray), .int .i64 0, .int .i64 0] 91 (0, 0))) ∧ Aside0 (Below w.heap.size w wc))
   case first =>
    have H := HC6.out; clear HC6
    by_cases c7 : x1_2 > (a0.size : Int)
    ·rw [if_pos c7] at H
     have c7b0 : decide ((a0.size : Int) < x1_2) = true := decide_eq_true c7; clear c7; (first | rw [c7b0] | (simp only [i64_w, i32_w]; rw [c7b0]) | skip); have H' := am_ H; clear H
     go_wp2
     go_meet
     case rel => exact ⟨_, ((a0.size : Int)), (rs_), H', ⟨by have := HJ2.out; first | omega | exact Nat.le_refl _⟩, ⟨bk_ BK201.out⟩, ⟨bl_⟩⟩
    ·rw [if_neg c7] at H
     have c7b0 : decide ((a0.size : Int) < x1_2) = false := decide_eq_false c7; clear c7; (first | rw [c7b0] | (simp only [i64_w, i32_w]; rw [c7b0]) | skip); have H' := am_ H; clear H
     go_wp2
     go_meet
     case rel => exact ⟨_, (x1_2), (rs_), H', ⟨by have := HJ2.out; first | omega | exact Nat.le_refl _⟩, ⟨bk_ BK201.out⟩, ⟨bl_⟩⟩
   case rest =>
    clear HC6; (try clear p2); (try clear c4); (try clear c5); (try clear c5b0); (try clear c7); (try clear c7b0); (try clear p2); obtain ⟨kq, x1_5, rfl, HA, HJ5, BK201, HB⟩ := hcut
    cases kq with
    | zero => exact absurd HA.out (by simp [r07_One.j1])
    | succ kj5 =>
     have H := HA.out; clear HA; simp only [r07_One.j1] at H; have HC8 := am_ H; clear H
     go_upto_block 0 with (fail)
     go_cut [7] (fun v7 wc => ∃ (kq : Nat) (x7_7 : Int), v7 = .int .i64 x7_7 ∧ Aside0 (r07_One.j3 kq a0 x1_5 x7_7 = some (r1, r2, r3, r4, r5, r6)) ∧ Aside0 (kq ≤ kj5) ∧ Aside0 (wc.heap[gb201]? = some (.cells #[.int .i64 0, .string (⟨#[]⟩ : ByteArray), .int .i64 0, .int .i64 0] 91 (0, 0))) ∧ Aside0 (Below w.heap.size w wc))
     case first =>
      have H := HC8.out; clear HC8; have H' := am_ H; clear H
      go_wp2
      go_loopg [7] kj5 (fun kq v7 w' => ∃ (x7_3 : Int), v7 = .int .i64 x7_3 ∧ Aside0 (r07_One.l0 kq a0 x1_5 x7_3 = some (r1, r2, r3, r4, r5, r6)) ∧ Aside0 (kq ≤ kj5) ∧ Aside0 (w'.heap[gb201]? = some (.cells #[.int .i64 0, .string (⟨#[]⟩ : ByteArray), .int .i64 0, .int .i64 0] 91 (0, 0))) ∧ Aside0 (Below w.heap.size w w'))
      case atStart => exact ⟨(x1_5), (rs_), H', ⟨Nat.le_refl _⟩, ⟨bk_ BK201.out⟩, ⟨bl_⟩⟩
      case round =>
       clear H'; (try clear p2); (try clear c4); (try clear c5); (try clear c5b0); (try clear c7); (try clear c7b0); (try clear p2); obtain ⟨x7_3, rfl, HA, HK3, BK201, HB⟩ := hrel
       cases gk with
       | zero => exact absurd HA.out (by simp [r07_One.l0])
       | succ k3 =>
        have H := HA.out; clear HA; simp only [r07_One.l0] at H
        by_cases c9 : x7_3 < (a0.size : Int)
        ·rw [if_pos c9] at H
         have c9b0 : decide (x7_3 < (a0.size : Int)) = true := decide_eq_true c9; clear c9; (first | rw [c9b0] | (simp only [i64_w, i32_w]; rw [c9b0]) | skip)
         by_cases c10 : 0 ≤ x7_3
         ·rw [if_pos c10] at H
          have c10b0 : decide (0 ≤ x7_3) = true := decide_eq_true c10; clear c10; replace H := Option.bind_eq_some_iff.mp H; obtain ⟨t202, A120, H⟩ := H; replace H : (if t202 = true then (r07_One.l0 k3 a0 x1_5 (wrap64 (x7_3 + 1))) else (r07_One.j3 k3 a0 x1_5 x7_3)) = some (r1, r2, r3, r4, r5, r6) := H; have A12 := am_ A120; clear A120
          by_cases c13 : t202 = true
          ·subst c13
           have H1 : (r07_One.l0 k3 a0 x1_5 (wrap64 (x7_3 + 1))) = some (r1, r2, r3, r4, r5, r6) := by rw [if_pos rfl] at H; exact H
           clear H; have H := H1; clear H1; have H' := am_ H; clear H; have p11 : 0 ≤ (x7_3 : Int) := of_decide_eq_true (as_); have q11 : x7_3 < (a0.size : Int) := of_decide_eq_true (as_); have hx11 := bt_at a0 x7_3; replace p11 := eq_true p11; replace q11 := eq_true q11
           go_wp2_with (first | (go_at_call 83; (with_reducible refine (r07_Blank.calls (bt a0 x7_3) true _ A12.out).mono ?_); rintro e w' ⟨rfl, ⟨nd, rfl⟩⟩))
           go_roundg k3
           case measure => have := HJ2.out; have := HJ5.out; have := HK3.out; omega
           case rel => exact ⟨(wrap64 (x7_3 + 1)), (rs_), H', ⟨by have := HJ2.out; have := HJ5.out; have := HK3.out; omega⟩, ⟨bk_ BK201.out⟩, ⟨bl_⟩⟩
          ·replace c13 := Bool.eq_false_iff.mpr c13
           subst c13
           have H1 : (r07_One.j3 k3 a0 x1_5 x7_3) = some (r1, r2, r3, r4, r5, r6) := by rw [if_neg (show ¬ (false = true) by decide)] at H; exact H
           clear H; have H := H1; clear H1; have H' := am_ H; clear H; have p11 : 0 ≤ (x7_3 : Int) := of_decide_eq_true (as_); have q11 : x7_3 < (a0.size : Int) := of_decide_eq_true (as_); have hx11 := bt_at a0 x7_3; replace p11 := eq_true p11; replace q11 := eq_true q11
           go_wp2_with (first | (go_at_call 83; (with_reducible refine (r07_Blank.calls (bt a0 x7_3) false _ A12.out).mono ?_); rintro e w' ⟨rfl, ⟨nd, rfl⟩⟩))
           go_meet
           case rel => exact ⟨_, (x7_3), (rs_), H', ⟨by have := HJ2.out; have := HJ5.out; have := HK3.out; first | omega | exact Nat.le_refl _⟩, ⟨bk_ BK201.out⟩, ⟨bl_⟩⟩
         ·rw [if_neg c10] at H
          exact absurd H (by simp)
        ·rw [if_neg c9] at H
         have c9b0 : decide (x7_3 < (a0.size : Int)) = false := decide_eq_false c9; clear c9; (first | rw [c9b0] | (simp only [i64_w, i32_w]; rw [c9b0]) | skip); have H' := am_ H; clear H
         go_wp2
         go_meet
         case rel => exact ⟨_, (x7_3), (rs_), H', ⟨by have := HJ2.out; have := HJ5.out; have := HK3.out; first | omega | exact Nat.le_refl _⟩, ⟨bk_ BK201.out⟩, ⟨bl_⟩⟩
     case rest =>
      clear HC8; (try clear c1); (try clear p1); (try clear q1); (try clear hx1); (try clear p2); (try clear c4); (try clear c5); (try clear c5b0); (try clear p6); (try clear c7); (try clear c7b0); (try clear c9); (try clear c9b0); (try clear c10); (try clear c10b0); (try clear p11); (try clear q11); (try clear hx11); (try clear c13); (try clear p11); (try clear p2); (try clear q11); obtain ⟨kq, x7_7, rfl, HA, HJ7, BK201, HB⟩ := hcut
      cases kq with
      | zero => exact absurd HA.out (by simp [r07_One.j3])
      | succ kj7 =>
       have H := HA.out; clear HA; simp only [r07_One.j3] at H
       by_cases c14 : x7_7 = (a0.size : Int)
       ·rw [if_pos c14] at H
        have c14b0 : (x7_7 == (a0.size : Int)) = true := beq_iff_eq.mpr c14; have c14b1 : (x7_7 != (a0.size : Int)) = false := bne_eq_false_iff_eq.mpr c14; clear c14; simp only [Option.some.injEq, Prod.mk.injEq] at H; obtain ⟨rfl, rfl, rfl, rfl, rfl, rfl⟩ := H; obtain ⟨hcz15_0, hcz15_1, hcz15_2, hcz15_3, hfz15_0, hfz15_1, hfz15_2, hfz15_3⟩ := bw4_ BK201.out
        go_wp2
        refine bodyPost_ret (results_ctt rfl _ _ gb201 91 #[.int .i64 0, .string (⟨#[]⟩ : ByteArray), .int .i64 0, .int .i64 x7_7] (0, 0) _ rfl (by refine bp_ ?_; refine blk_put (cs := #[.int .i64 0, .string (⟨#[]⟩ : ByteArray), .int .i64 0, .int .i64 0]) ?_ 3 _ rfl; refine bp_ ?_; refine blk_put (cs := #[.int .i64 0, .string (⟨#[]⟩ : ByteArray), .int .i64 0, .int .i64 0]) ?_ 2 _ rfl; refine bp_ ?_; refine blk_put (cs := #[.int .i64 0, .string (⟨#[]⟩ : ByteArray), .int .i64 0, .int .i64 0]) ?_ 1 _ rfl; refine bp_ ?_; refine blk_put (cs := #[.int .i64 0, .string (⟨#[]⟩ : ByteArray), .int .i64 0, .int .i64 0]) ?_ 0 _ rfl; refine bp_ ?_; exact BK201.out) Try.underlying91 rfl (by kernel_rfl)) rfl ?_; exact ⟨ew_, bl_⟩
       ·rw [if_neg c14] at H
        have c14b0 : (x7_7 == (a0.size : Int)) = false := beq_eq_false_iff_ne.mpr c14; have c14b1 : (x7_7 != (a0.size : Int)) = true := bne_iff_ne.mpr c14
        by_cases c16 : 0 ≤ x7_7
        ·rw [if_pos c16] at H
         have c16b0 : decide (0 ≤ x7_7) = true := decide_eq_true c16; clear c16
         by_cases c17 : x7_7 < (a0.size : Int)
         ·rw [if_pos c17] at H
          have c17b0 : decide (x7_7 < (a0.size : Int)) = true := decide_eq_true c17; clear c17; replace H := Option.bind_eq_some_iff.mp H; obtain ⟨t203, A190, H⟩ := H; replace H : (if t203 = true then (r07_One.l1 kj7 a0 x1_5 x7_7 x7_7) else ((r07_digit.f (bt a0 x7_7)).bind fun t207 => (if t207 = true then (r07_One.l2 kj7 a0 x1_5 x7_7 x7_7) else (if (bt a0 x7_7) = 39 then ((r07_text.f kj7 a0 x1_5 x7_7).bind fun bt212 => (some (bt212.1, bt212.2.1, bt212.2.2.1, bt212.2.2.2.1, bt212.2.2.2.2.1, bt212.2.2.2.2.2))) else ((r07_Sign.f kj7 a0 x7_7).bind fun t218 => (if t218.toList = ([] : List UInt8) then (some (0, (⟨#[]⟩ : ByteArray), 0, 0, x1_5, 1)) else (some (5, t218, 0, x7_7, wrap64 (x7_7 + (t218.size : Int)), 0)))))))) = some (r1, r2, r3, r4, r5, r6) := H; have A19 := am_ A190; clear A190
          by_cases c20 : t203 = true
          ·subst c20
           have H1 : (r07_One.l1 kj7 a0 x1_5 x7_7 x7_7) = some (r1, r2, r3, r4, r5, r6) := by rw [if_pos rfl] at H; exact H
           clear H; have H := H1; clear H1; have HC21 := am_ H; clear H; have p18 : 0 ≤ (x7_7 : Int) := of_decide_eq_true (as_); have q18 : x7_7 < (a0.size : Int) := of_decide_eq_true (as_); have hx18 := bt_at a0 x7_7; replace p18 := eq_true p18; replace q18 := eq_true q18
           go_upto_block 2 with (first | ((with_reducible refine gate_callee (f := 84) rfl ?_); refine goesL_ (some 44) rfl rfl Try.func84 (by kernel_rfl) rfl #[.int .u8 (bt a0 x7_7)] rfl (by (try simp only [List.map_toArray, List.map_cons, List.map_nil]); first | done | rfl | (simp only [List.length_drop, List.length_take]; rfl)) ?_; (with_reducible refine (r07_letter.calls (bt a0 x7_7) true _ A19.out).mono ?_); rintro e w' ⟨rfl, ⟨nd, rfl⟩⟩; refine ⟨_, rfl, ?_⟩))
           (try simp only [Act.put, sa_, sz_, ss_])
           go_cut [8] (fun v8 wc => ∃ (kq : Nat) (x8_20 : Int), v8 = .int .i64 x8_20 ∧ Aside0 (r07_One.j5 kq a0 x1_5 x7_7 x8_20 = some (r1, r2, r3, r4, r5, r6)) ∧ Aside0 (kq ≤ kj7) ∧ Aside0 (wc.heap[gb201]? = some (.cells #[.int .i64 0, .string (⟨#[]⟩ : ByteArray), .int .i64 0, .int .i64 0] 91 (0, 0))) ∧ Aside0 (Below w.heap.size w wc))
           case first =>
            have H := HC21.out; clear HC21; have H' := am_ H; clear H
            go_wp2
            go_loopg [8] kj7 (fun kq v8 w' => ∃ (x8_4 : Int), v8 = .int .i64 x8_4 ∧ Aside0 (r07_One.l1 kq a0 x1_5 x7_7 x8_4 = some (r1, r2, r3, r4, r5, r6)) ∧ Aside0 (kq ≤ kj7) ∧ Aside0 (w'.heap[gb201]? = some (.cells #[.int .i64 0, .string (⟨#[]⟩ : ByteArray), .int .i64 0, .int .i64 0] 91 (0, 0))) ∧ Aside0 (Below w.heap.size w w'))
            case atStart => exact ⟨(x7_7), (rs_), H', ⟨Nat.le_refl _⟩, ⟨bk_ BK201.out⟩, ⟨bl_⟩⟩
            case round =>
             clear H'; (try clear c1); (try clear p1); (try clear q1); (try clear hx1); (try clear c2); (try clear p2); (try clear c4); (try clear c5); (try clear c5b0); (try clear p6); (try clear c7); (try clear c7b0); (try clear c8); (try clear c9); (try clear c9b0); (try clear c10); (try clear c10b0); (try clear p11); (try clear q11); (try clear hx11); (try clear c13); (try clear c14); (try clear c14b0); (try clear c14b1); (try clear c16); (try clear c16b0); (try clear c17); (try clear c17b0); (try clear p18); (try clear q18); (try clear hx18); (try clear c20); (try clear hcz15_0); (try clear hcz15_1); (try clear hcz15_2); (try clear hcz15_3); (try clear hfz15_0); (try clear hfz15_1); (try clear hfz15_2); (try clear hfz15_3); (try clear p1); (try clear p11); (try clear p18); (try clear p2); (try clear p6); (try clear q1); (try clear q11); (try clear q18); obtain ⟨x8_4, rfl, HA, HK4, BK201, HB⟩ := hrel
             cases gk with
             | zero => exact absurd HA.out (by simp [r07_One.l1])
             | succ k4 =>
              have H := HA.out; clear HA; simp only [r07_One.l1] at H
              by_cases c22 : x8_4 < (a0.size : Int)
              ·rw [if_pos c22] at H
               have c22b0 : decide (x8_4 < (a0.size : Int)) = true := decide_eq_true c22; clear c22; (first | rw [c22b0] | (simp only [i64_w, i32_w]; rw [c22b0]) | skip)
               by_cases c23 : 0 ≤ x8_4
               ·rw [if_pos c23] at H
                have c23b0 : decide (0 ≤ x8_4) = true := decide_eq_true c23; clear c23; replace H := Option.bind_eq_some_iff.mp H; obtain ⟨t204, A250, H⟩ := H; replace H : (if t204 = true then (r07_One.l1 k4 a0 x1_5 x7_7 (wrap64 (x8_4 + 1))) else ((r07_digit.f (bt a0 x8_4)).bind fun t205 => (if t205 = true then (r07_One.l1 k4 a0 x1_5 x7_7 (wrap64 (x8_4 + 1))) else (r07_One.j5 k4 a0 x1_5 x7_7 x8_4)))) = some (r1, r2, r3, r4, r5, r6) := H; have A25 := am_ A250; clear A250
                by_cases c26 : t204 = true
                ·subst c26
                 have H1 : (r07_One.l1 k4 a0 x1_5 x7_7 (wrap64 (x8_4 + 1))) = some (r1, r2, r3, r4, r5, r6) := by rw [if_pos rfl] at H; exact H
                 clear H; have H := H1; clear H1; have H' := am_ H; clear H; have p24 : 0 ≤ (x8_4 : Int) := of_decide_eq_true (as_); have q24 : x8_4 < (a0.size : Int) := of_decide_eq_true (as_); have hx24 := bt_at a0 x8_4; replace p24 := eq_true p24; replace q24 := eq_true q24
                 go_wp2_with (first | (go_at_call 84; (with_reducible refine (r07_letter.calls (bt a0 x8_4) true _ A25.out).mono ?_); rintro e w' ⟨rfl, ⟨nd, rfl⟩⟩))
                 go_roundg k4
                 case measure => have := HJ2.out; have := HJ5.out; have := HJ7.out; have := HK4.out; omega
                 case rel => exact ⟨(wrap64 (x8_4 + 1)), (rs_), H', ⟨by have := HJ2.out; have := HJ5.out; have := HJ7.out; have := HK4.out; omega⟩, ⟨bk_ BK201.out⟩, ⟨bl_⟩⟩
                ·replace c26 := Bool.eq_false_iff.mpr c26
                 subst c26
                 have H1 : ((r07_digit.f (bt a0 x8_4)).bind fun t205 => (if t205 = true then (r07_One.l1 k4 a0 x1_5 x7_7 (wrap64 (x8_4 + 1))) else (r07_One.j5 k4 a0 x1_5 x7_7 x8_4))) = some (r1, r2, r3, r4, r5, r6) := by rw [if_neg (show ¬ (false = true) by decide)] at H; exact H
                 clear H; have H := H1; clear H1; replace H := Option.bind_eq_some_iff.mp H; obtain ⟨t205, A280, H⟩ := H; replace H : (if t205 = true then (r07_One.l1 k4 a0 x1_5 x7_7 (wrap64 (x8_4 + 1))) else (r07_One.j5 k4 a0 x1_5 x7_7 x8_4)) = some (r1, r2, r3, r4, r5, r6) := H; have A28 := am_ A280; clear A280
                 by_cases c29 : t205 = true
                 ·subst c29
                  have H1 : (r07_One.l1 k4 a0 x1_5 x7_7 (wrap64 (x8_4 + 1))) = some (r1, r2, r3, r4, r5, r6) := by rw [if_pos rfl] at H; exact H
                  clear H; have H := H1; clear H1; have H' := am_ H; clear H; have p24 : 0 ≤ (x8_4 : Int) := of_decide_eq_true (as_); have q24 : x8_4 < (a0.size : Int) := of_decide_eq_true (as_); have hx24 := bt_at a0 x8_4; replace p24 := eq_true p24; replace q24 := eq_true q24
                  go_wp2_with (first | (go_at_call 84; (with_reducible refine (r07_letter.calls (bt a0 x8_4) false _ A25.out).mono ?_); rintro e w' ⟨rfl, ⟨nd, rfl⟩⟩; have p27 : 0 ≤ (x8_4 : Int) := of_decide_eq_true (as_); have q27 : x8_4 < (a0.size : Int) := of_decide_eq_true (as_); have hx27 := bt_at a0 x8_4; replace p27 := eq_true p27; replace q27 := eq_true q27) | (go_at_call 85; (with_reducible refine (r07_digit.calls (bt a0 x8_4) true _ A28.out).mono ?_); rintro e w' ⟨rfl, ⟨nd, rfl⟩⟩))
                  go_roundg k4
                  case measure => have := HJ2.out; have := HJ5.out; have := HJ7.out; have := HK4.out; omega
                  case rel => exact ⟨(wrap64 (x8_4 + 1)), (rs_), H', ⟨by have := HJ2.out; have := HJ5.out; have := HJ7.out; have := HK4.out; omega⟩, ⟨bk_ BK201.out⟩, ⟨bl_⟩⟩
                 ·replace c29 := Bool.eq_false_iff.mpr c29
                  subst c29
                  have H1 : (r07_One.j5 k4 a0 x1_5 x7_7 x8_4) = some (r1, r2, r3, r4, r5, r6) := by rw [if_neg (show ¬ (false = true) by decide)] at H; exact H
                  clear H; have H := H1; clear H1; have H' := am_ H; clear H; have p24 : 0 ≤ (x8_4 : Int) := of_decide_eq_true (as_); have q24 : x8_4 < (a0.size : Int) := of_decide_eq_true (as_); have hx24 := bt_at a0 x8_4; replace p24 := eq_true p24; replace q24 := eq_true q24
                  go_wp2_with (first | (go_at_call 84; (with_reducible refine (r07_letter.calls (bt a0 x8_4) false _ A25.out).mono ?_); rintro e w' ⟨rfl, ⟨nd, rfl⟩⟩; have p27 : 0 ≤ (x8_4 : Int) := of_decide_eq_true (as_); have q27 : x8_4 < (a0.size : Int) := of_decide_eq_true (as_); have hx27 := bt_at a0 x8_4; replace p27 := eq_true p27; replace q27 := eq_true q27) | (go_at_call 85; (with_reducible refine (r07_digit.calls (bt a0 x8_4) false _ A28.out).mono ?_); rintro e w' ⟨rfl, ⟨nd, rfl⟩⟩))
                  go_meet
                  case rel => exact ⟨_, (x8_4), (rs_), H', ⟨by have := HJ2.out; have := HJ5.out; have := HJ7.out; have := HK4.out; first | omega | exact Nat.le_refl _⟩, ⟨bk_ BK201.out⟩, ⟨bl_⟩⟩
               ·rw [if_neg c23] at H
                exact absurd H (by simp)
              ·rw [if_neg c22] at H
               have c22b0 : decide (x8_4 < (a0.size : Int)) = false := decide_eq_false c22; clear c22; (first | rw [c22b0] | (simp only [i64_w, i32_w]; rw [c22b0]) | skip); have H' := am_ H; clear H
               go_wp2
               go_meet
               case rel => exact ⟨_, (x8_4), (rs_), H', ⟨by have := HJ2.out; have := HJ5.out; have := HJ7.out; have := HK4.out; first | omega | exact Nat.le_refl _⟩, ⟨bk_ BK201.out⟩, ⟨bl_⟩⟩
           case rest =>
            clear HC21; (try clear c1); (try clear p1); (try clear q1); (try clear hx1); (try clear c2); (try clear p2); (try clear q2); (try clear hx2); (try clear c4); (try clear c5); (try clear c5b0); (try clear p6); (try clear c7); (try clear c7b0); (try clear c8); (try clear c9); (try clear c9b0); (try clear c10); (try clear c10b0); (try clear p11); (try clear q11); (try clear hx11); (try clear c13); (try clear c14); (try clear c14b0); (try clear c14b1); (try clear c16); (try clear c16b0); (try clear c17); (try clear c17b0); (try clear p18); (try clear q18); (try clear hx18); (try clear c20); (try clear c22); (try clear c22b0); (try clear c23); (try clear c23b0); (try clear p24); (try clear q24); (try clear hx24); (try clear c26); (try clear p27); (try clear q27); (try clear hx27); (try clear c29); (try clear hcz15_0); (try clear hcz15_1); (try clear hcz15_2); (try clear hcz15_3); (try clear hfz15_0); (try clear hfz15_1); (try clear hfz15_2); (try clear hfz15_3); (try clear p1); (try clear p11); (try clear p18); (try clear p2); (try clear p24); (try clear p27); (try clear p6); (try clear q1); (try clear q11); (try clear q18); (try clear q24); (try clear q27); obtain ⟨kq, x8_20, rfl, HA, HJ20, BK201, HB⟩ := hcut
            cases kq with
            | zero => exact absurd HA.out (by simp [r07_One.j5])
            | succ kj20 =>
             have H := HA.out; clear HA; simp only [r07_One.j5] at H
             by_cases c30 : (wrap64 (x8_20 - x7_7)) > 32
             ·rw [if_pos c30] at H
              have c30b0 : decide (32 < (wrap64 (x8_20 - x7_7))) = true := decide_eq_true c30; clear c30; simp only [Option.some.injEq, Prod.mk.injEq] at H; obtain ⟨rfl, rfl, rfl, rfl, rfl, rfl⟩ := H; obtain ⟨hcz31_0, hcz31_1, hcz31_2, hcz31_3, hfz31_0, hfz31_1, hfz31_2, hfz31_3⟩ := bw4_ BK201.out
              go_wp2
              refine bodyPost_ret (results_ctt rfl _ _ gb201 91 #[.int .i64 0, .string (⟨#[]⟩ : ByteArray), .int .i64 0, .int .i64 0] (0, 0) _ rfl (by refine bp_ ?_; refine blk_put (cs := #[.int .i64 0, .string (⟨#[]⟩ : ByteArray), .int .i64 0, .int .i64 0]) ?_ 3 _ rfl; refine bp_ ?_; refine blk_put (cs := #[.int .i64 0, .string (⟨#[]⟩ : ByteArray), .int .i64 0, .int .i64 0]) ?_ 2 _ rfl; refine bp_ ?_; refine blk_put (cs := #[.int .i64 0, .string (⟨#[]⟩ : ByteArray), .int .i64 0, .int .i64 0]) ?_ 1 _ rfl; refine bp_ ?_; refine blk_put (cs := #[.int .i64 0, .string (⟨#[]⟩ : ByteArray), .int .i64 0, .int .i64 0]) ?_ 0 _ rfl; refine bp_ ?_; exact BK201.out) Try.underlying91 rfl (by kernel_rfl)) rfl ?_; exact ⟨ew_, bl_⟩
             ·rw [if_neg c30] at H
              have c30b0 : decide (32 < (wrap64 (x8_20 - x7_7))) = false := decide_eq_false c30; clear c30
              by_cases c32 : 0 ≤ x7_7
              ·rw [if_pos c32] at H
               have c32b0 := eq_true c32; have c32b1 : decide (0 ≤ x7_7) = true := decide_eq_true c32; clear c32
               by_cases c33 : x7_7 ≤ x8_20
               ·rw [if_pos c33] at H
                have c33b0 := eq_true c33; have c33b1 : decide (x7_7 ≤ x8_20) = true := decide_eq_true c33; clear c33
                by_cases c34 : x8_20 ≤ (a0.size : Int)
                ·rw [if_pos c34] at H
                 have c34b0 := eq_true c34; have c34b1 : decide (x8_20 ≤ (a0.size : Int)) = true := decide_eq_true c34; clear c34; replace H := Option.bind_eq_some_iff.mp H; obtain ⟨t206, A350, H⟩ := H; replace H : (if t206 = true then (some (2, a0.extract (x7_7 : Int).toNat (x8_20 : Int).toNat, 0, x7_7, x8_20, 0)) else (some (1, a0.extract (x7_7 : Int).toNat (x8_20 : Int).toNat, 0, x7_7, x8_20, 0))) = some (r1, r2, r3, r4, r5, r6) := H; have A35 := am_ A350; clear A350
                 by_cases c36 : t206 = true
                 ·subst c36
                  have H1 : (some (2, a0.extract (x7_7 : Int).toNat (x8_20 : Int).toNat, 0, x7_7, x8_20, 0)) = some (r1, r2, r3, r4, r5, r6) := by rw [if_pos rfl] at H; exact H
                  clear H; have H := H1; clear H1; have c37b0 := eq_true (of_decide_eq_true (as_) : 0 ≤ x7_7); have c38b0 := eq_true (of_decide_eq_true (as_) : x7_7 ≤ x8_20); have c39b0 := eq_true (of_decide_eq_true (as_) : x8_20 ≤ (a0.size : Int)); simp only [Option.some.injEq, Prod.mk.injEq] at H; obtain ⟨rfl, rfl, rfl, rfl, rfl, rfl⟩ := H
                  go_wp2_with (first | ((with_reducible refine gate_callee (f := 86) rfl ?_); refine goesL_ (some 73) rfl rfl Try.func86 (by kernel_rfl) rfl #[.string (a0.extract (x7_7 : Int).toNat (x8_20 : Int).toNat)] rfl (by (try simp only [List.map_toArray, List.map_cons, List.map_nil]); first | done | rfl | (simp only [List.length_drop, List.length_take]; rfl)) ?_; (with_reducible refine (r05_Word.calls kj20 (a0.extract (x7_7 : Int).toNat (x8_20 : Int).toNat) true _ A35.out).mono ?_); rintro e w40 ⟨rfl, hb⟩; refine ⟨_, rfl, ?_⟩; replace BK201 := am_ (blk_below (bk_ BK201.out) hb); replace HB := am_ (below_step (bl_) hb); (try clear hb); (try clear hb2); (try clear hk); (try clear hi); obtain ⟨hcz41_0, hcz41_1, hcz41_2, hcz41_3, hfz41_0, hfz41_1, hfz41_2, hfz41_3⟩ := bw4_ BK201.out))
                  refine bodyPost_ret (results_ctt rfl _ _ gb201 91 #[.int .i64 2, .string (a0.extract (x7_7 : Int).toNat (x8_20 : Int).toNat), .int .i64 0, .int .i64 x7_7] (0, 0) _ rfl (by refine bp_ ?_; refine blk_put (cs := #[.int .i64 2, .string (a0.extract (x7_7 : Int).toNat (x8_20 : Int).toNat), .int .i64 0, .int .i64 0]) ?_ 3 _ rfl; refine bp_ ?_; refine blk_put (cs := #[.int .i64 2, .string (a0.extract (x7_7 : Int).toNat (x8_20 : Int).toNat), .int .i64 0, .int .i64 0]) ?_ 2 _ rfl; refine bp_ ?_; refine blk_put (cs := #[.int .i64 2, .string (⟨#[]⟩ : ByteArray), .int .i64 0, .int .i64 0]) ?_ 1 _ rfl; refine bp_ ?_; refine blk_put (cs := #[.int .i64 0, .string (⟨#[]⟩ : ByteArray), .int .i64 0, .int .i64 0]) ?_ 0 _ rfl; refine bp_ ?_; exact BK201.out) Try.underlying91 rfl (by kernel_rfl)) rfl ?_; exact ⟨ew_, bl_⟩
                 ·replace c36 := Bool.eq_false_iff.mpr c36
                  subst c36
                  have H1 : (some (1, a0.extract (x7_7 : Int).toNat (x8_20 : Int).toNat, 0, x7_7, x8_20, 0)) = some (r1, r2, r3, r4, r5, r6) := by rw [if_neg (show ¬ (false = true) by decide)] at H; exact H
                  clear H; have H := H1; clear H1; have c42b0 := eq_true (of_decide_eq_true (as_) : 0 ≤ x7_7); have c43b0 := eq_true (of_decide_eq_true (as_) : x7_7 ≤ x8_20); have c44b0 := eq_true (of_decide_eq_true (as_) : x8_20 ≤ (a0.size : Int)); simp only [Option.some.injEq, Prod.mk.injEq] at H; obtain ⟨rfl, rfl, rfl, rfl, rfl, rfl⟩ := H
                  go_wp2_with (first | ((with_reducible refine gate_callee (f := 86) rfl ?_); refine goesL_ (some 73) rfl rfl Try.func86 (by kernel_rfl) rfl #[.string (a0.extract (x7_7 : Int).toNat (x8_20 : Int).toNat)] rfl (by (try simp only [List.map_toArray, List.map_cons, List.map_nil]); first | done | rfl | (simp only [List.length_drop, List.length_take]; rfl)) ?_; (with_reducible refine (r05_Word.calls kj20 (a0.extract (x7_7 : Int).toNat (x8_20 : Int).toNat) false _ A35.out).mono ?_); rintro e w45 ⟨rfl, hb⟩; refine ⟨_, rfl, ?_⟩; replace BK201 := am_ (blk_below (bk_ BK201.out) hb); replace HB := am_ (below_step (bl_) hb); (try clear hb); (try clear hb2); (try clear hk); (try clear hi); obtain ⟨hcz46_0, hcz46_1, hcz46_2, hcz46_3, hfz46_0, hfz46_1, hfz46_2, hfz46_3⟩ := bw4_ BK201.out))
                  refine bodyPost_ret (results_ctt rfl _ _ gb201 91 #[.int .i64 1, .string (a0.extract (x7_7 : Int).toNat (x8_20 : Int).toNat), .int .i64 0, .int .i64 x7_7] (0, 0) _ rfl (by refine bp_ ?_; refine blk_put (cs := #[.int .i64 1, .string (a0.extract (x7_7 : Int).toNat (x8_20 : Int).toNat), .int .i64 0, .int .i64 0]) ?_ 3 _ rfl; refine bp_ ?_; refine blk_put (cs := #[.int .i64 1, .string (a0.extract (x7_7 : Int).toNat (x8_20 : Int).toNat), .int .i64 0, .int .i64 0]) ?_ 2 _ rfl; refine bp_ ?_; refine blk_put (cs := #[.int .i64 1, .string (⟨#[]⟩ : ByteArray), .int .i64 0, .int .i64 0]) ?_ 1 _ rfl; refine bp_ ?_; refine blk_put (cs := #[.int .i64 0, .string (⟨#[]⟩ : ByteArray), .int .i64 0, .int .i64 0]) ?_ 0 _ rfl; refine bp_ ?_; exact BK201.out) Try.underlying91 rfl (by kernel_rfl)) rfl ?_; exact ⟨ew_, bl_⟩
                ·rw [if_neg c34] at H
                 exact absurd H (by simp)
               ·rw [if_neg c33] at H
                exact absurd H (by simp)
              ·rw [if_neg c32] at H
               exact absurd H (by simp)
          ·replace c20 := Bool.eq_false_iff.mpr c20
           subst c20
           have H1 : ((r07_digit.f (bt a0 x7_7)).bind fun t207 => (if t207 = true then (r07_One.l2 kj7 a0 x1_5 x7_7 x7_7) else (if (bt a0 x7_7) = 39 then ((r07_text.f kj7 a0 x1_5 x7_7).bind fun bt212 => (some (bt212.1, bt212.2.1, bt212.2.2.1, bt212.2.2.2.1, bt212.2.2.2.2.1, bt212.2.2.2.2.2))) else ((r07_Sign.f kj7 a0 x7_7).bind fun t218 => (if t218.toList = ([] : List UInt8) then (some (0, (⟨#[]⟩ : ByteArray), 0, 0, x1_5, 1)) else (some (5, t218, 0, x7_7, wrap64 (x7_7 + (t218.size : Int)), 0))))))) = some (r1, r2, r3, r4, r5, r6) := by rw [if_neg (show ¬ (false = true) by decide)] at H; exact H
           clear H; have H := H1; clear H1; replace H := Option.bind_eq_some_iff.mp H; obtain ⟨t207, A480, H⟩ := H; replace H : (if t207 = true then (r07_One.l2 kj7 a0 x1_5 x7_7 x7_7) else (if (bt a0 x7_7) = 39 then ((r07_text.f kj7 a0 x1_5 x7_7).bind fun bt212 => (some (bt212.1, bt212.2.1, bt212.2.2.1, bt212.2.2.2.1, bt212.2.2.2.2.1, bt212.2.2.2.2.2))) else ((r07_Sign.f kj7 a0 x7_7).bind fun t218 => (if t218.toList = ([] : List UInt8) then (some (0, (⟨#[]⟩ : ByteArray), 0, 0, x1_5, 1)) else (some (5, t218, 0, x7_7, wrap64 (x7_7 + (t218.size : Int)), 0)))))) = some (r1, r2, r3, r4, r5, r6) := H; have A48 := am_ A480; clear A480
           by_cases c49 : t207 = true
           ·subst c49
            have H1 : (r07_One.l2 kj7 a0 x1_5 x7_7 x7_7) = some (r1, r2, r3, r4, r5, r6) := by rw [if_pos rfl] at H; exact H
            clear H; have H := H1; clear H1; have HC50 := am_ H; clear H; have p18 : 0 ≤ (x7_7 : Int) := of_decide_eq_true (as_); have q18 : x7_7 < (a0.size : Int) := of_decide_eq_true (as_); have hx18 := bt_at a0 x7_7; replace p18 := eq_true p18; replace q18 := eq_true q18
            go_upto_block 4 with (first | ((with_reducible refine gate_callee (f := 84) rfl ?_); refine goesL_ (some 44) rfl rfl Try.func84 (by kernel_rfl) rfl #[.int .u8 (bt a0 x7_7)] rfl (by (try simp only [List.map_toArray, List.map_cons, List.map_nil]); first | done | rfl | (simp only [List.length_drop, List.length_take]; rfl)) ?_; (with_reducible refine (r07_letter.calls (bt a0 x7_7) false _ A19.out).mono ?_); rintro e w' ⟨rfl, ⟨nd, rfl⟩⟩; refine ⟨_, rfl, ?_⟩; have p47 : 0 ≤ (x7_7 : Int) := of_decide_eq_true (as_); have q47 : x7_7 < (a0.size : Int) := of_decide_eq_true (as_); have hx47 := bt_at a0 x7_7; replace p47 := eq_true p47; replace q47 := eq_true q47) | ((with_reducible refine gate_callee (f := 85) rfl ?_); refine goesL_ (some 91) rfl rfl Try.func85 (by kernel_rfl) rfl #[.int .u8 (bt a0 x7_7)] rfl (by (try simp only [List.map_toArray, List.map_cons, List.map_nil]); first | done | rfl | (simp only [List.length_drop, List.length_take]; rfl)) ?_; (with_reducible refine (r07_digit.calls (bt a0 x7_7) true _ A48.out).mono ?_); rintro e w' ⟨rfl, ⟨nd, rfl⟩⟩; refine ⟨_, rfl, ?_⟩))
            (try simp only [Act.put, sa_, sz_, ss_])
            go_cut [8] (fun v8 wc => ∃ (kq : Nat) (x8_49 : Int), v8 = .int .i64 x8_49 ∧ Aside0 (r07_One.j7 kq a0 x1_5 x7_7 x8_49 = some (r1, r2, r3, r4, r5, r6)) ∧ Aside0 (kq ≤ kj7) ∧ Aside0 (wc.heap[gb201]? = some (.cells #[.int .i64 0, .string (⟨#[]⟩ : ByteArray), .int .i64 0, .int .i64 0] 91 (0, 0))) ∧ Aside0 (Below w.heap.size w wc))
            case first =>
             have H := HC50.out; clear HC50; have H' := am_ H; clear H
             go_wp2
             go_loopg [8] kj7 (fun kq v8 w' => ∃ (x8_4 : Int), v8 = .int .i64 x8_4 ∧ Aside0 (r07_One.l2 kq a0 x1_5 x7_7 x8_4 = some (r1, r2, r3, r4, r5, r6)) ∧ Aside0 (kq ≤ kj7) ∧ Aside0 (w'.heap[gb201]? = some (.cells #[.int .i64 0, .string (⟨#[]⟩ : ByteArray), .int .i64 0, .int .i64 0] 91 (0, 0))) ∧ Aside0 (Below w.heap.size w w'))
             case atStart => exact ⟨(x7_7), (rs_), H', ⟨Nat.le_refl _⟩, ⟨bk_ BK201.out⟩, ⟨bl_⟩⟩
             case round =>
              clear H'; (try clear c1); (try clear p1); (try clear q1); (try clear hx1); (try clear c2); (try clear p2); (try clear q2); (try clear hx2); (try clear c3); (try clear c4); (try clear p4); (try clear q4); (try clear hx4); (try clear c5); (try clear c5b0); (try clear p6); (try clear c7); (try clear c7b0); (try clear c8); (try clear c9); (try clear c9b0); (try clear c10); (try clear c10b0); (try clear p11); (try clear q11); (try clear hx11); (try clear c13); (try clear c14); (try clear c14b0); (try clear c14b1); (try clear c16); (try clear c16b0); (try clear c17); (try clear c17b0); (try clear p18); (try clear q18); (try clear hx18); (try clear c20); (try clear c22); (try clear c22b0); (try clear c23); (try clear c23b0); (try clear p24); (try clear q24); (try clear hx24); (try clear c26); (try clear p27); (try clear q27); (try clear hx27); (try clear c29); (try clear c30); (try clear c30b0); (try clear c32); (try clear c32b0); (try clear c32b1); (try clear c33); (try clear c33b0); (try clear c33b1); (try clear c34); (try clear c34b0); (try clear c34b1); (try clear c36); (try clear c37); (try clear c37b0); (try clear c38); (try clear c38b0); (try clear c39); (try clear c39b0); (try clear c42); (try clear c42b0); (try clear c43); (try clear c43b0); (try clear c44); (try clear c44b0); (try clear p47); (try clear q47); (try clear hx47); (try clear c49); (try clear hcz15_0); (try clear hcz15_1); (try clear hcz15_2); (try clear hcz15_3); (try clear hcz31_0); (try clear hcz31_1); (try clear hcz31_2); (try clear hcz31_3); (try clear hcz41_0); (try clear hcz41_1); (try clear hcz41_2); (try clear hcz41_3); (try clear hcz46_0); (try clear hcz46_1); (try clear hcz46_2); (try clear hcz46_3); (try clear hfz15_0); (try clear hfz15_1); (try clear hfz15_2); (try clear hfz15_3); (try clear hfz31_0); (try clear hfz31_1); (try clear hfz31_2); (try clear hfz31_3); (try clear hfz41_0); (try clear hfz41_1); (try clear hfz41_2); (try clear hfz41_3); (try clear hfz46_0); (try clear hfz46_1); (try clear hfz46_2); (try clear hfz46_3); (try clear p1); (try clear p11); (try clear p18); (try clear p2); (try clear p24); (try clear p27); (try clear p47); (try clear p6); (try clear q1); (try clear q11); (try clear q18); (try clear q2); (try clear q24); (try clear q27); (try clear q47); obtain ⟨x8_4, rfl, HA, HK4, BK201, HB⟩ := hrel
              cases gk with
              | zero => exact absurd HA.out (by simp [r07_One.l2])
              | succ k4 =>
               have H := HA.out; clear HA; simp only [r07_One.l2] at H
               by_cases c51 : x8_4 < (a0.size : Int)
               ·rw [if_pos c51] at H
                have c51b0 : decide (x8_4 < (a0.size : Int)) = true := decide_eq_true c51; clear c51; (first | rw [c51b0] | (simp only [i64_w, i32_w]; rw [c51b0]) | skip)
                by_cases c52 : 0 ≤ x8_4
                ·rw [if_pos c52] at H
                 have c52b0 : decide (0 ≤ x8_4) = true := decide_eq_true c52; clear c52; replace H := Option.bind_eq_some_iff.mp H; obtain ⟨t208, A540, H⟩ := H; replace H : (if t208 = true then (r07_One.l2 k4 a0 x1_5 x7_7 (wrap64 (x8_4 + 1))) else (r07_One.j7 k4 a0 x1_5 x7_7 x8_4)) = some (r1, r2, r3, r4, r5, r6) := H; have A54 := am_ A540; clear A540
                 by_cases c55 : t208 = true
                 ·subst c55
                  have H1 : (r07_One.l2 k4 a0 x1_5 x7_7 (wrap64 (x8_4 + 1))) = some (r1, r2, r3, r4, r5, r6) := by rw [if_pos rfl] at H; exact H
                  clear H; have H := H1; clear H1; have H' := am_ H; clear H; have p53 : 0 ≤ (x8_4 : Int) := of_decide_eq_true (as_); have q53 : x8_4 < (a0.size : Int) := of_decide_eq_true (as_); have hx53 := bt_at a0 x8_4; replace p53 := eq_true p53; replace q53 := eq_true q53
                  go_wp2_with (first | (go_at_call 85; (with_reducible refine (r07_digit.calls (bt a0 x8_4) true _ A54.out).mono ?_); rintro e w' ⟨rfl, ⟨nd, rfl⟩⟩))
                  go_roundg k4
                  case measure => have := HJ2.out; have := HJ5.out; have := HJ7.out; have := HK4.out; omega
                  case rel => exact ⟨(wrap64 (x8_4 + 1)), (rs_), H', ⟨by have := HJ2.out; have := HJ5.out; have := HJ7.out; have := HK4.out; omega⟩, ⟨bk_ BK201.out⟩, ⟨bl_⟩⟩
                 ·replace c55 := Bool.eq_false_iff.mpr c55
                  subst c55
                  have H1 : (r07_One.j7 k4 a0 x1_5 x7_7 x8_4) = some (r1, r2, r3, r4, r5, r6) := by rw [if_neg (show ¬ (false = true) by decide)] at H; exact H
                  clear H; have H := H1; clear H1; have H' := am_ H; clear H; have p53 : 0 ≤ (x8_4 : Int) := of_decide_eq_true (as_); have q53 : x8_4 < (a0.size : Int) := of_decide_eq_true (as_); have hx53 := bt_at a0 x8_4; replace p53 := eq_true p53; replace q53 := eq_true q53
                  go_wp2_with (first | (go_at_call 85; (with_reducible refine (r07_digit.calls (bt a0 x8_4) false _ A54.out).mono ?_); rintro e w' ⟨rfl, ⟨nd, rfl⟩⟩))
                  go_meet
                  case rel => exact ⟨_, (x8_4), (rs_), H', ⟨by have := HJ2.out; have := HJ5.out; have := HJ7.out; have := HK4.out; first | omega | exact Nat.le_refl _⟩, ⟨bk_ BK201.out⟩, ⟨bl_⟩⟩
                ·rw [if_neg c52] at H
                 exact absurd H (by simp)
               ·rw [if_neg c51] at H
                have c51b0 : decide (x8_4 < (a0.size : Int)) = false := decide_eq_false c51; clear c51; (first | rw [c51b0] | (simp only [i64_w, i32_w]; rw [c51b0]) | skip); have H' := am_ H; clear H
                go_wp2
                go_meet
                case rel => exact ⟨_, (x8_4), (rs_), H', ⟨by have := HJ2.out; have := HJ5.out; have := HJ7.out; have := HK4.out; first | omega | exact Nat.le_refl _⟩, ⟨bk_ BK201.out⟩, ⟨bl_⟩⟩
            case rest =>
             clear HC50; (try clear c1); (try clear p1); (try clear q1); (try clear hx1); (try clear c2); (try clear p2); (try clear q2); (try clear hx2); (try clear c3); (try clear c4); (try clear p4); (try clear q4); (try clear hx4); (try clear c5); (try clear c5b0); (try clear p5); (try clear q5); (try clear hx5); (try clear p6); (try clear c7); (try clear c7b0); (try clear c8); (try clear c9); (try clear c9b0); (try clear c10); (try clear c10b0); (try clear p11); (try clear q11); (try clear hx11); (try clear c13); (try clear c14); (try clear c14b0); (try clear c14b1); (try clear c16); (try clear c16b0); (try clear c17); (try clear c17b0); (try clear p18); (try clear q18); (try clear hx18); (try clear c20); (try clear c22); (try clear c22b0); (try clear c23); (try clear c23b0); (try clear p24); (try clear q24); (try clear hx24); (try clear c26); (try clear p27); (try clear q27); (try clear hx27); (try clear c29); (try clear c30); (try clear c30b0); (try clear c32); (try clear c32b0); (try clear c32b1); (try clear c33); (try clear c33b0); (try clear c33b1); (try clear c34); (try clear c34b0); (try clear c34b1); (try clear c36); (try clear c37); (try clear c37b0); (try clear c38); (try clear c38b0); (try clear c39); (try clear c39b0); (try clear c42); (try clear c42b0); (try clear c43); (try clear c43b0); (try clear c44); (try clear c44b0); (try clear p47); (try clear q47); (try clear hx47); (try clear c49); (try clear c51); (try clear c51b0); (try clear c52); (try clear c52b0); (try clear p53); (try clear q53); (try clear hx53); (try clear c55); (try clear hcz15_0); (try clear hcz15_1); (try clear hcz15_2); (try clear hcz15_3); (try clear hcz31_0); (try clear hcz31_1); (try clear hcz31_2); (try clear hcz31_3); (try clear hcz41_0); (try clear hcz41_1); (try clear hcz41_2); (try clear hcz41_3); (try clear hcz46_0); (try clear hcz46_1); (try clear hcz46_2); (try clear hcz46_3); (try clear hfz15_0); (try clear hfz15_1); (try clear hfz15_2); (try clear hfz15_3); (try clear hfz31_0); (try clear hfz31_1); (try clear hfz31_2); (try clear hfz31_3); (try clear hfz41_0); (try clear hfz41_1); (try clear hfz41_2); (try clear hfz41_3); (try clear hfz46_0); (try clear hfz46_1); (try clear hfz46_2); (try clear hfz46_3); (try clear p1); (try clear p11); (try clear p18); (try clear p2); (try clear p24); (try clear p27); (try clear p4); (try clear p47); (try clear p53); (try clear p6); (try clear q1); (try clear q11); (try clear q18); (try clear q2); (try clear q24); (try clear q27); (try clear q4); (try clear q47); (try clear q53); obtain ⟨kq, x8_49, rfl, HA, HJ49, BK201, HB⟩ := hcut
             cases kq with
             | zero => exact absurd HA.out (by simp [r07_One.j7])
             | succ kj49 =>
              have H := HA.out; clear HA; simp only [r07_One.j7] at H
              by_cases c56 : 0 ≤ x7_7
              ·rw [if_pos c56] at H
               have c56b0 := eq_true c56; have c56b1 : decide (0 ≤ x7_7) = true := decide_eq_true c56; clear c56
               by_cases c57 : x7_7 ≤ x8_49
               ·rw [if_pos c57] at H
                have c57b0 := eq_true c57; have c57b1 : decide (x7_7 ≤ x8_49) = true := decide_eq_true c57; clear c57
                by_cases c58 : x8_49 ≤ (a0.size : Int)
                ·rw [if_pos c58] at H
                 have c58b0 := eq_true c58; have c58b1 : decide (x8_49 ≤ (a0.size : Int)) = true := decide_eq_true c58; clear c58; replace H := Option.bind_eq_some_iff.mp H; obtain ⟨⟨t209, t210⟩, A590, H⟩ := H; replace H : (if t210 = true then (if x8_49 < (a0.size : Int) then (if 0 ≤ x8_49 then ((r07_letter.f (bt a0 x8_49)).bind fun t211 => (if t211 = true then (some (0, (⟨#[]⟩ : ByteArray), 0, 0, x1_5, 1)) else (some (3, a0.extract (x7_7 : Int).toNat (x8_49 : Int).toNat, t209, x7_7, x8_49, 0)))) else (none)) else (some (3, a0.extract (x7_7 : Int).toNat (x8_49 : Int).toNat, t209, x7_7, x8_49, 0))) else (some (0, (⟨#[]⟩ : ByteArray), 0, 0, x1_5, 1))) = some (r1, r2, r3, r4, r5, r6) := H; have A59 := am_ A590; clear A590
                 by_cases c60 : t210 = true
                 ·subst c60
                  have H1 : (if x8_49 < (a0.size : Int) then (if 0 ≤ x8_49 then ((r07_letter.f (bt a0 x8_49)).bind fun t211 => (if t211 = true then (some (0, (⟨#[]⟩ : ByteArray), 0, 0, x1_5, 1)) else (some (3, a0.extract (x7_7 : Int).toNat (x8_49 : Int).toNat, t209, x7_7, x8_49, 0)))) else (none)) else (some (3, a0.extract (x7_7 : Int).toNat (x8_49 : Int).toNat, t209, x7_7, x8_49, 0))) = some (r1, r2, r3, r4, r5, r6) := by rw [if_pos rfl] at H; exact H
                  clear H; have H := H1; clear H1
                  by_cases c61 : x8_49 < (a0.size : Int)
                  ·rw [if_pos c61] at H
                   have c61b0 : decide (x8_49 < (a0.size : Int)) = true := decide_eq_true c61; clear c61
                   by_cases c62 : 0 ≤ x8_49
                   ·rw [if_pos c62] at H
                    have c62b0 : decide (0 ≤ x8_49) = true := decide_eq_true c62; clear c62; replace H := Option.bind_eq_some_iff.mp H; obtain ⟨t211, A640, H⟩ := H; replace H : (if t211 = true then (some (0, (⟨#[]⟩ : ByteArray), 0, 0, x1_5, 1)) else (some (3, a0.extract (x7_7 : Int).toNat (x8_49 : Int).toNat, t209, x7_7, x8_49, 0))) = some (r1, r2, r3, r4, r5, r6) := H; have A64 := am_ A640; clear A640
                    by_cases c65 : t211 = true
                    ·subst c65
                     have H1 : (some (0, (⟨#[]⟩ : ByteArray), 0, 0, x1_5, 1)) = some (r1, r2, r3, r4, r5, r6) := by rw [if_pos rfl] at H; exact H
                     clear H; have H := H1; clear H1; simp only [Option.some.injEq, Prod.mk.injEq] at H; obtain ⟨rfl, rfl, rfl, rfl, rfl, rfl⟩ := H
                     go_wp2_with (first | ((with_reducible refine gate_callee (f := 87) rfl ?_); refine goesL_ (some 109) rfl rfl Try.func87 (by kernel_rfl) rfl #[.string (a0.extract (x7_7 : Int).toNat (x8_49 : Int).toNat)] rfl (by (try simp only [List.map_toArray, List.map_cons, List.map_nil]); first | done | rfl | (simp only [List.length_drop, List.length_take]; rfl)) ?_; (with_reducible refine (r07_number.calls kj49 (a0.extract (x7_7 : Int).toNat (x8_49 : Int).toNat) t209 true _ A59.out).mono ?_); rintro e w' ⟨rfl, ⟨nd, rfl⟩⟩; refine ⟨_, rfl, ?_⟩; (try (rw [drewN_self wc]; generalize hq_ : World.drewN wc _ = wc; have n0_ : Aside0 (wc.heap[gb201]? = some (.cells #[.int .i64 0, .string (⟨#[]⟩ : ByteArray), .int .i64 0, .int .i64 0] 91 (0, 0))) := ⟨by rw [← hq_]; exact (bk_ BK201.out)⟩; have n1_ : Aside0 (Below w.heap.size w wc) := ⟨by rw [← hq_]; exact (bl_)⟩; clear BK201 HB hq_; have BK201 := n0_; have HB := n1_; clear n0_ n1_)); have p63 : 0 ≤ (x8_49 : Int) := of_decide_eq_true (as_); have q63 : x8_49 < (a0.size : Int) := of_decide_eq_true (as_); have hx63 := bt_at a0 x8_49; replace p63 := eq_true p63; replace q63 := eq_true q63) | (go_at_call 84; (with_reducible refine (r07_letter.calls (bt a0 x8_49) true _ A64.out).mono ?_); rintro e w' ⟨rfl, ⟨nd, rfl⟩⟩; (try (rw [drewN_self wc]; generalize hq_ : World.drewN wc _ = wc; have n0_ : Aside0 (wc.heap[gb201]? = some (.cells #[.int .i64 0, .string (⟨#[]⟩ : ByteArray), .int .i64 0, .int .i64 0] 91 (0, 0))) := ⟨by rw [← hq_]; exact (bk_ BK201.out)⟩; have n1_ : Aside0 (Below w.heap.size w wc) := ⟨by rw [← hq_]; exact (bl_)⟩; clear BK201 HB hq_; have BK201 := n0_; have HB := n1_; clear n0_ n1_)); obtain ⟨hcz66_0, hcz66_1, hcz66_2, hcz66_3, hfz66_0, hfz66_1, hfz66_2, hfz66_3⟩ := bw4_ BK201.out))
                     refine bodyPost_ret (results_ctt rfl _ _ gb201 91 #[.int .i64 0, .string (⟨#[]⟩ : ByteArray), .int .i64 0, .int .i64 0] (0, 0) _ rfl (by refine bp_ ?_; refine blk_put (cs := #[.int .i64 0, .string (⟨#[]⟩ : ByteArray), .int .i64 0, .int .i64 0]) ?_ 3 _ rfl; refine bp_ ?_; refine blk_put (cs := #[.int .i64 0, .string (⟨#[]⟩ : ByteArray), .int .i64 0, .int .i64 0]) ?_ 2 _ rfl; refine bp_ ?_; refine blk_put (cs := #[.int .i64 0, .string (⟨#[]⟩ : ByteArray), .int .i64 0, .int .i64 0]) ?_ 1 _ rfl; refine bp_ ?_; refine blk_put (cs := #[.int .i64 0, .string (⟨#[]⟩ : ByteArray), .int .i64 0, .int .i64 0]) ?_ 0 _ rfl; refine bp_ ?_; exact BK201.out) Try.underlying91 rfl (by kernel_rfl)) rfl ?_; exact ⟨ew_, bl_⟩
                    ·replace c65 := Bool.eq_false_iff.mpr c65
                     subst c65
                     have H1 : (some (3, a0.extract (x7_7 : Int).toNat (x8_49 : Int).toNat, t209, x7_7, x8_49, 0)) = some (r1, r2, r3, r4, r5, r6) := by rw [if_neg (show ¬ (false = true) by decide)] at H; exact H
                     clear H; have H := H1; clear H1; have c67b0 := eq_true (of_decide_eq_true (as_) : 0 ≤ x7_7); have c68b0 := eq_true (of_decide_eq_true (as_) : x7_7 ≤ x8_49); have c69b0 := eq_true (of_decide_eq_true (as_) : x8_49 ≤ (a0.size : Int)); simp only [Option.some.injEq, Prod.mk.injEq] at H; obtain ⟨rfl, rfl, rfl, rfl, rfl, rfl⟩ := H
                     go_wp2_with (first | ((with_reducible refine gate_callee (f := 87) rfl ?_); refine goesL_ (some 109) rfl rfl Try.func87 (by kernel_rfl) rfl #[.string (a0.extract (x7_7 : Int).toNat (x8_49 : Int).toNat)] rfl (by (try simp only [List.map_toArray, List.map_cons, List.map_nil]); first | done | rfl | (simp only [List.length_drop, List.length_take]; rfl)) ?_; (with_reducible refine (r07_number.calls kj49 (a0.extract (x7_7 : Int).toNat (x8_49 : Int).toNat) t209 true _ A59.out).mono ?_); rintro e w' ⟨rfl, ⟨nd, rfl⟩⟩; refine ⟨_, rfl, ?_⟩; (try (rw [drewN_self wc]; generalize hq_ : World.drewN wc _ = wc; have n0_ : Aside0 (wc.heap[gb201]? = some (.cells #[.int .i64 0, .string (⟨#[]⟩ : ByteArray), .int .i64 0, .int .i64 0] 91 (0, 0))) := ⟨by rw [← hq_]; exact (bk_ BK201.out)⟩; have n1_ : Aside0 (Below w.heap.size w wc) := ⟨by rw [← hq_]; exact (bl_)⟩; clear BK201 HB hq_; have BK201 := n0_; have HB := n1_; clear n0_ n1_)); have p63 : 0 ≤ (x8_49 : Int) := of_decide_eq_true (as_); have q63 : x8_49 < (a0.size : Int) := of_decide_eq_true (as_); have hx63 := bt_at a0 x8_49; replace p63 := eq_true p63; replace q63 := eq_true q63) | (go_at_call 84; (with_reducible refine (r07_letter.calls (bt a0 x8_49) false _ A64.out).mono ?_); rintro e w' ⟨rfl, ⟨nd, rfl⟩⟩; (try (rw [drewN_self wc]; generalize hq_ : World.drewN wc _ = wc; have n0_ : Aside0 (wc.heap[gb201]? = some (.cells #[.int .i64 0, .string (⟨#[]⟩ : ByteArray), .int .i64 0, .int .i64 0] 91 (0, 0))) := ⟨by rw [← hq_]; exact (bk_ BK201.out)⟩; have n1_ : Aside0 (Below w.heap.size w wc) := ⟨by rw [← hq_]; exact (bl_)⟩; clear BK201 HB hq_; have BK201 := n0_; have HB := n1_; clear n0_ n1_)); obtain ⟨hcz70_0, hcz70_1, hcz70_2, hcz70_3, hfz70_0, hfz70_1, hfz70_2, hfz70_3⟩ := bw4_ BK201.out))
                     refine bodyPost_ret (results_ctt rfl _ _ gb201 91 #[.int .i64 3, .string (a0.extract (x7_7 : Int).toNat (x8_49 : Int).toNat), .int .i64 t209, .int .i64 x7_7] (0, 0) _ rfl (by refine bp_ ?_; refine blk_put (cs := #[.int .i64 3, .string (a0.extract (x7_7 : Int).toNat (x8_49 : Int).toNat), .int .i64 t209, .int .i64 0]) ?_ 3 _ rfl; refine bp_ ?_; refine blk_put (cs := #[.int .i64 3, .string (a0.extract (x7_7 : Int).toNat (x8_49 : Int).toNat), .int .i64 0, .int .i64 0]) ?_ 2 _ rfl; refine bp_ ?_; refine blk_put (cs := #[.int .i64 3, .string (⟨#[]⟩ : ByteArray), .int .i64 0, .int .i64 0]) ?_ 1 _ rfl; refine bp_ ?_; refine blk_put (cs := #[.int .i64 0, .string (⟨#[]⟩ : ByteArray), .int .i64 0, .int .i64 0]) ?_ 0 _ rfl; refine bp_ ?_; exact BK201.out) Try.underlying91 rfl (by kernel_rfl)) rfl ?_; exact ⟨ew_, bl_⟩
                   ·rw [if_neg c62] at H
                    exact absurd H (by simp)
                  ·rw [if_neg c61] at H
                   have c61b0 : decide (x8_49 < (a0.size : Int)) = false := decide_eq_false c61; clear c61; have c71b0 := eq_true (of_decide_eq_true (as_) : 0 ≤ x7_7); have c72b0 := eq_true (of_decide_eq_true (as_) : x7_7 ≤ x8_49); have c73b0 := eq_true (of_decide_eq_true (as_) : x8_49 ≤ (a0.size : Int)); simp only [Option.some.injEq, Prod.mk.injEq] at H; obtain ⟨rfl, rfl, rfl, rfl, rfl, rfl⟩ := H
                   go_wp2_with (first | ((with_reducible refine gate_callee (f := 87) rfl ?_); refine goesL_ (some 109) rfl rfl Try.func87 (by kernel_rfl) rfl #[.string (a0.extract (x7_7 : Int).toNat (x8_49 : Int).toNat)] rfl (by (try simp only [List.map_toArray, List.map_cons, List.map_nil]); first | done | rfl | (simp only [List.length_drop, List.length_take]; rfl)) ?_; (with_reducible refine (r07_number.calls kj49 (a0.extract (x7_7 : Int).toNat (x8_49 : Int).toNat) t209 true _ A59.out).mono ?_); rintro e w' ⟨rfl, ⟨nd, rfl⟩⟩; refine ⟨_, rfl, ?_⟩; (try (rw [drewN_self wc]; generalize hq_ : World.drewN wc _ = wc; have n0_ : Aside0 (wc.heap[gb201]? = some (.cells #[.int .i64 0, .string (⟨#[]⟩ : ByteArray), .int .i64 0, .int .i64 0] 91 (0, 0))) := ⟨by rw [← hq_]; exact (bk_ BK201.out)⟩; have n1_ : Aside0 (Below w.heap.size w wc) := ⟨by rw [← hq_]; exact (bl_)⟩; clear BK201 HB hq_; have BK201 := n0_; have HB := n1_; clear n0_ n1_)); obtain ⟨hcz74_0, hcz74_1, hcz74_2, hcz74_3, hfz74_0, hfz74_1, hfz74_2, hfz74_3⟩ := bw4_ BK201.out))
                   refine bodyPost_ret (results_ctt rfl _ _ gb201 91 #[.int .i64 3, .string (a0.extract (x7_7 : Int).toNat (x8_49 : Int).toNat), .int .i64 t209, .int .i64 x7_7] (0, 0) _ rfl (by refine bp_ ?_; refine blk_put (cs := #[.int .i64 3, .string (a0.extract (x7_7 : Int).toNat (x8_49 : Int).toNat), .int .i64 t209, .int .i64 0]) ?_ 3 _ rfl; refine bp_ ?_; refine blk_put (cs := #[.int .i64 3, .string (a0.extract (x7_7 : Int).toNat (x8_49 : Int).toNat), .int .i64 0, .int .i64 0]) ?_ 2 _ rfl; refine bp_ ?_; refine blk_put (cs := #[.int .i64 3, .string (⟨#[]⟩ : ByteArray), .int .i64 0, .int .i64 0]) ?_ 1 _ rfl; refine bp_ ?_; refine blk_put (cs := #[.int .i64 0, .string (⟨#[]⟩ : ByteArray), .int .i64 0, .int .i64 0]) ?_ 0 _ rfl; refine bp_ ?_; exact BK201.out) Try.underlying91 rfl (by kernel_rfl)) rfl ?_; exact ⟨ew_, bl_⟩
                 ·replace c60 := Bool.eq_false_iff.mpr c60
                  subst c60
                  have H1 : (some (0, (⟨#[]⟩ : ByteArray), 0, 0, x1_5, 1)) = some (r1, r2, r3, r4, r5, r6) := by rw [if_neg (show ¬ (false = true) by decide)] at H; exact H
                  clear H; have H := H1; clear H1; simp only [Option.some.injEq, Prod.mk.injEq] at H; obtain ⟨rfl, rfl, rfl, rfl, rfl, rfl⟩ := H
                  go_wp2_with (first | ((with_reducible refine gate_callee (f := 87) rfl ?_); refine goesL_ (some 109) rfl rfl Try.func87 (by kernel_rfl) rfl #[.string (a0.extract (x7_7 : Int).toNat (x8_49 : Int).toNat)] rfl (by (try simp only [List.map_toArray, List.map_cons, List.map_nil]); first | done | rfl | (simp only [List.length_drop, List.length_take]; rfl)) ?_; (with_reducible refine (r07_number.calls kj49 (a0.extract (x7_7 : Int).toNat (x8_49 : Int).toNat) t209 false _ A59.out).mono ?_); rintro e w' ⟨rfl, ⟨nd, rfl⟩⟩; refine ⟨_, rfl, ?_⟩; (try (rw [drewN_self wc]; generalize hq_ : World.drewN wc _ = wc; have n0_ : Aside0 (wc.heap[gb201]? = some (.cells #[.int .i64 0, .string (⟨#[]⟩ : ByteArray), .int .i64 0, .int .i64 0] 91 (0, 0))) := ⟨by rw [← hq_]; exact (bk_ BK201.out)⟩; have n1_ : Aside0 (Below w.heap.size w wc) := ⟨by rw [← hq_]; exact (bl_)⟩; clear BK201 HB hq_; have BK201 := n0_; have HB := n1_; clear n0_ n1_)); obtain ⟨hcz75_0, hcz75_1, hcz75_2, hcz75_3, hfz75_0, hfz75_1, hfz75_2, hfz75_3⟩ := bw4_ BK201.out))
                  refine bodyPost_ret (results_ctt rfl _ _ gb201 91 #[.int .i64 0, .string (⟨#[]⟩ : ByteArray), .int .i64 0, .int .i64 0] (0, 0) _ rfl (by refine bp_ ?_; refine blk_put (cs := #[.int .i64 0, .string (⟨#[]⟩ : ByteArray), .int .i64 0, .int .i64 0]) ?_ 3 _ rfl; refine bp_ ?_; refine blk_put (cs := #[.int .i64 0, .string (⟨#[]⟩ : ByteArray), .int .i64 0, .int .i64 0]) ?_ 2 _ rfl; refine bp_ ?_; refine blk_put (cs := #[.int .i64 0, .string (⟨#[]⟩ : ByteArray), .int .i64 0, .int .i64 0]) ?_ 1 _ rfl; refine bp_ ?_; refine blk_put (cs := #[.int .i64 0, .string (⟨#[]⟩ : ByteArray), .int .i64 0, .int .i64 0]) ?_ 0 _ rfl; refine bp_ ?_; exact BK201.out) Try.underlying91 rfl (by kernel_rfl)) rfl ?_; exact ⟨ew_, bl_⟩
                ·rw [if_neg c58] at H
                 exact absurd H (by simp)
               ·rw [if_neg c57] at H
                exact absurd H (by simp)
              ·rw [if_neg c56] at H
               exact absurd H (by simp)
           ·replace c49 := Bool.eq_false_iff.mpr c49
            subst c49
            have H1 : (if (bt a0 x7_7) = 39 then ((r07_text.f kj7 a0 x1_5 x7_7).bind fun bt212 => (some (bt212.1, bt212.2.1, bt212.2.2.1, bt212.2.2.2.1, bt212.2.2.2.2.1, bt212.2.2.2.2.2))) else ((r07_Sign.f kj7 a0 x7_7).bind fun t218 => (if t218.toList = ([] : List UInt8) then (some (0, (⟨#[]⟩ : ByteArray), 0, 0, x1_5, 1)) else (some (5, t218, 0, x7_7, wrap64 (x7_7 + (t218.size : Int)), 0))))) = some (r1, r2, r3, r4, r5, r6) := by rw [if_neg (show ¬ (false = true) by decide)] at H; exact H
            clear H; have H := H1; clear H1
            by_cases c77 : (bt a0 x7_7) = 39
            ·rw [if_pos c77] at H
             have c77b0 : ((bt a0 x7_7) == 39) = true := beq_iff_eq.mpr c77; have c77b1 : ((bt a0 x7_7) != 39) = false := bne_eq_false_iff_eq.mpr c77; clear c77; replace H := Option.bind_eq_some_iff.mp H; obtain ⟨⟨t212, t213, t214, t215, t216, t217⟩, A780, H⟩ := H; replace H : (some (t212, t213, t214, t215, t216, t217)) = some (r1, r2, r3, r4, r5, r6) := H; have A78 := am_ A780; clear A780; simp only [Option.some.injEq, Prod.mk.injEq] at H; obtain ⟨rfl, rfl, rfl, rfl, rfl, rfl⟩ := H; have p18 : 0 ≤ (x7_7 : Int) := of_decide_eq_true (as_); have q18 : x7_7 < (a0.size : Int) := of_decide_eq_true (as_); have hx18 := bt_at a0 x7_7; replace p18 := eq_true p18; replace q18 := eq_true q18
             go_wp2_with (first | ((with_reducible refine gate_callee (f := 84) rfl ?_); refine goesL_ (some 44) rfl rfl Try.func84 (by kernel_rfl) rfl #[.int .u8 (bt a0 x7_7)] rfl (by (try simp only [List.map_toArray, List.map_cons, List.map_nil]); first | done | rfl | (simp only [List.length_drop, List.length_take]; rfl)) ?_; (with_reducible refine (r07_letter.calls (bt a0 x7_7) false _ A19.out).mono ?_); rintro e w' ⟨rfl, ⟨nd, rfl⟩⟩; refine ⟨_, rfl, ?_⟩; (try (rw [drewN_self wc]; generalize hq_ : World.drewN wc _ = wc; have n0_ : Aside0 (wc.heap[gb201]? = some (.cells #[.int .i64 0, .string (⟨#[]⟩ : ByteArray), .int .i64 0, .int .i64 0] 91 (0, 0))) := ⟨by rw [← hq_]; exact (bk_ BK201.out)⟩; have n1_ : Aside0 (Below w.heap.size w wc) := ⟨by rw [← hq_]; exact (bl_)⟩; clear BK201 HB hq_; have BK201 := n0_; have HB := n1_; clear n0_ n1_)); have p47 : 0 ≤ (x7_7 : Int) := of_decide_eq_true (as_); have q47 : x7_7 < (a0.size : Int) := of_decide_eq_true (as_); have hx47 := bt_at a0 x7_7; replace p47 := eq_true p47; replace q47 := eq_true q47) | ((with_reducible refine gate_callee (f := 85) rfl ?_); refine goesL_ (some 91) rfl rfl Try.func85 (by kernel_rfl) rfl #[.int .u8 (bt a0 x7_7)] rfl (by (try simp only [List.map_toArray, List.map_cons, List.map_nil]); first | done | rfl | (simp only [List.length_drop, List.length_take]; rfl)) ?_; (with_reducible refine (r07_digit.calls (bt a0 x7_7) false _ A48.out).mono ?_); rintro e w' ⟨rfl, ⟨nd, rfl⟩⟩; refine ⟨_, rfl, ?_⟩; (try (rw [drewN_self wc]; generalize hq_ : World.drewN wc _ = wc; have n0_ : Aside0 (wc.heap[gb201]? = some (.cells #[.int .i64 0, .string (⟨#[]⟩ : ByteArray), .int .i64 0, .int .i64 0] 91 (0, 0))) := ⟨by rw [← hq_]; exact (bk_ BK201.out)⟩; have n1_ : Aside0 (Below w.heap.size w wc) := ⟨by rw [← hq_]; exact (bl_)⟩; clear BK201 HB hq_; have BK201 := n0_; have HB := n1_; clear n0_ n1_)); have p76 : 0 ≤ (x7_7 : Int) := of_decide_eq_true (as_); have q76 : x7_7 < (a0.size : Int) := of_decide_eq_true (as_); have hx76 := bt_at a0 x7_7; replace p76 := eq_true p76; replace q76 := eq_true q76) | ((with_reducible refine gate_callee (f := 88) rfl ?_); refine goesL_ (some 143) rfl rfl Try.func88 (by kernel_rfl) rfl #[.string a0, .int .i64 x1_5, .int .i64 x7_7] rfl (by (try simp only [List.map_toArray, List.map_cons, List.map_nil]); first | done | rfl | (simp only [List.length_drop, List.length_take]; rfl)) ?_; (with_reducible refine (r07_text.calls kj7 a0 x1_5 x7_7 t212 t213 t214 t215 t216 t217 _ A78.out).mono ?_); rintro e w79 ⟨rfl, hb⟩; refine ⟨_, rfl, ?_⟩; replace BK201 := am_ (blk_below (bk_ BK201.out) hb); replace HB := am_ (below_step (bl_) hb); (try clear hb); (try clear hb2); (try clear hk); (try clear hi); obtain ⟨hcz80_0, hcz80_1, hcz80_2, hcz80_3, hfz80_0, hfz80_1, hfz80_2, hfz80_3⟩ := bw4_ BK201.out))
             refine bodyPost_ret (results_ctt rfl _ _ gb201 91 #[.int .i64 t212, .string t213, .int .i64 t214, .int .i64 t215] (0, 0) _ rfl (by refine bp_ ?_; refine blk_put (cs := #[.int .i64 t212, .string t213, .int .i64 t214, .int .i64 0]) ?_ 3 _ rfl; refine bp_ ?_; refine blk_put (cs := #[.int .i64 t212, .string t213, .int .i64 0, .int .i64 0]) ?_ 2 _ rfl; refine bp_ ?_; refine blk_put (cs := #[.int .i64 t212, .string (⟨#[]⟩ : ByteArray), .int .i64 0, .int .i64 0]) ?_ 1 _ rfl; refine bp_ ?_; refine blk_put (cs := #[.int .i64 0, .string (⟨#[]⟩ : ByteArray), .int .i64 0, .int .i64 0]) ?_ 0 _ rfl; refine bp_ ?_; exact BK201.out) Try.underlying91 rfl (by kernel_rfl)) rfl ?_; exact ⟨ew_, bl_⟩
            ·rw [if_neg c77] at H
             have c77b0 : ((bt a0 x7_7) == 39) = false := beq_eq_false_iff_ne.mpr c77; have c77b1 : ((bt a0 x7_7) != 39) = true := bne_iff_ne.mpr c77; replace H := Option.bind_eq_some_iff.mp H; obtain ⟨t218, A810, H⟩ := H; replace H : (if t218.toList = ([] : List UInt8) then (some (0, (⟨#[]⟩ : ByteArray), 0, 0, x1_5, 1)) else (some (5, t218, 0, x7_7, wrap64 (x7_7 + (t218.size : Int)), 0))) = some (r1, r2, r3, r4, r5, r6) := H; have A81 := am_ A810; clear A810
             by_cases c82 : t218.toList = ([] : List UInt8)
             ·rw [if_pos c82] at H
              have c82b0 : (t218.toList == ([] : List UInt8)) = true := beq_iff_eq.mpr c82; have c82b1 : (t218.toList != ([] : List UInt8)) = false := bne_eq_false_iff_eq.mpr c82; clear c82; simp only [Option.some.injEq, Prod.mk.injEq] at H; obtain ⟨rfl, rfl, rfl, rfl, rfl, rfl⟩ := H; have p18 : 0 ≤ (x7_7 : Int) := of_decide_eq_true (as_); have q18 : x7_7 < (a0.size : Int) := of_decide_eq_true (as_); have hx18 := bt_at a0 x7_7; replace p18 := eq_true p18; replace q18 := eq_true q18
              go_wp2_with (first | ((with_reducible refine gate_callee (f := 84) rfl ?_); refine goesL_ (some 44) rfl rfl Try.func84 (by kernel_rfl) rfl #[.int .u8 (bt a0 x7_7)] rfl (by (try simp only [List.map_toArray, List.map_cons, List.map_nil]); first | done | rfl | (simp only [List.length_drop, List.length_take]; rfl)) ?_; (with_reducible refine (r07_letter.calls (bt a0 x7_7) false _ A19.out).mono ?_); rintro e w' ⟨rfl, ⟨nd, rfl⟩⟩; refine ⟨_, rfl, ?_⟩; (try (rw [drewN_self wc]; generalize hq_ : World.drewN wc _ = wc; have n0_ : Aside0 (wc.heap[gb201]? = some (.cells #[.int .i64 0, .string (⟨#[]⟩ : ByteArray), .int .i64 0, .int .i64 0] 91 (0, 0))) := ⟨by rw [← hq_]; exact (bk_ BK201.out)⟩; have n1_ : Aside0 (Below w.heap.size w wc) := ⟨by rw [← hq_]; exact (bl_)⟩; clear BK201 HB hq_; have BK201 := n0_; have HB := n1_; clear n0_ n1_)); have p47 : 0 ≤ (x7_7 : Int) := of_decide_eq_true (as_); have q47 : x7_7 < (a0.size : Int) := of_decide_eq_true (as_); have hx47 := bt_at a0 x7_7; replace p47 := eq_true p47; replace q47 := eq_true q47) | ((with_reducible refine gate_callee (f := 85) rfl ?_); refine goesL_ (some 91) rfl rfl Try.func85 (by kernel_rfl) rfl #[.int .u8 (bt a0 x7_7)] rfl (by (try simp only [List.map_toArray, List.map_cons, List.map_nil]); first | done | rfl | (simp only [List.length_drop, List.length_take]; rfl)) ?_; (with_reducible refine (r07_digit.calls (bt a0 x7_7) false _ A48.out).mono ?_); rintro e w' ⟨rfl, ⟨nd, rfl⟩⟩; refine ⟨_, rfl, ?_⟩; (try (rw [drewN_self wc]; generalize hq_ : World.drewN wc _ = wc; have n0_ : Aside0 (wc.heap[gb201]? = some (.cells #[.int .i64 0, .string (⟨#[]⟩ : ByteArray), .int .i64 0, .int .i64 0] 91 (0, 0))) := ⟨by rw [← hq_]; exact (bk_ BK201.out)⟩; have n1_ : Aside0 (Below w.heap.size w wc) := ⟨by rw [← hq_]; exact (bl_)⟩; clear BK201 HB hq_; have BK201 := n0_; have HB := n1_; clear n0_ n1_)); have p76 : 0 ≤ (x7_7 : Int) := of_decide_eq_true (as_); have q76 : x7_7 < (a0.size : Int) := of_decide_eq_true (as_); have hx76 := bt_at a0 x7_7; replace p76 := eq_true p76; replace q76 := eq_true q76) | ((with_reducible refine gate_callee (f := 89) rfl ?_); refine goesL_ (some 149) rfl rfl Try.func89 (by kernel_rfl) rfl #[.string a0, .int .i64 x7_7] rfl (by (try simp only [List.map_toArray, List.map_cons, List.map_nil]); first | done | rfl | (simp only [List.length_drop, List.length_take]; rfl)) ?_; (with_reducible refine (r07_Sign.calls kj7 a0 x7_7 t218 _ A81.out).mono ?_); rintro e w83 ⟨rfl, hb⟩; refine ⟨_, rfl, ?_⟩; replace BK201 := am_ (blk_below (bk_ BK201.out) hb); replace HB := am_ (below_step (bl_) hb); (try clear hb); (try clear hb2); (try clear hk); (try clear hi); obtain ⟨hcz84_0, hcz84_1, hcz84_2, hcz84_3, hfz84_0, hfz84_1, hfz84_2, hfz84_3⟩ := bw4_ BK201.out))
              refine bodyPost_ret (results_ctt rfl _ _ gb201 91 #[.int .i64 0, .string (⟨#[]⟩ : ByteArray), .int .i64 0, .int .i64 0] (0, 0) _ rfl (by refine bp_ ?_; refine blk_put (cs := #[.int .i64 0, .string (⟨#[]⟩ : ByteArray), .int .i64 0, .int .i64 0]) ?_ 3 _ rfl; refine bp_ ?_; refine blk_put (cs := #[.int .i64 0, .string (⟨#[]⟩ : ByteArray), .int .i64 0, .int .i64 0]) ?_ 2 _ rfl; refine bp_ ?_; refine blk_put (cs := #[.int .i64 0, .string (⟨#[]⟩ : ByteArray), .int .i64 0, .int .i64 0]) ?_ 1 _ rfl; refine bp_ ?_; refine blk_put (cs := #[.int .i64 0, .string (⟨#[]⟩ : ByteArray), .int .i64 0, .int .i64 0]) ?_ 0 _ rfl; refine bp_ ?_; exact BK201.out) Try.underlying91 rfl (by kernel_rfl)) rfl ?_; exact ⟨ew_, bl_⟩
             ·rw [if_neg c82] at H
              have c82b0 : (t218.toList == ([] : List UInt8)) = false := beq_eq_false_iff_ne.mpr c82; have c82b1 : (t218.toList != ([] : List UInt8)) = true := bne_iff_ne.mpr c82; simp only [Option.some.injEq, Prod.mk.injEq] at H; obtain ⟨rfl, rfl, rfl, rfl, rfl, rfl⟩ := H; have p18 : 0 ≤ (x7_7 : Int) := of_decide_eq_true (as_); have q18 : x7_7 < (a0.size : Int) := of_decide_eq_true (as_); have hx18 := bt_at a0 x7_7; replace p18 := eq_true p18; replace q18 := eq_true q18
              go_wp2_with (first | ((with_reducible refine gate_callee (f := 84) rfl ?_); refine goesL_ (some 44) rfl rfl Try.func84 (by kernel_rfl) rfl #[.int .u8 (bt a0 x7_7)] rfl (by (try simp only [List.map_toArray, List.map_cons, List.map_nil]); first | done | rfl | (simp only [List.length_drop, List.length_take]; rfl)) ?_; (with_reducible refine (r07_letter.calls (bt a0 x7_7) false _ A19.out).mono ?_); rintro e w' ⟨rfl, ⟨nd, rfl⟩⟩; refine ⟨_, rfl, ?_⟩; (try (rw [drewN_self wc]; generalize hq_ : World.drewN wc _ = wc; have n0_ : Aside0 (wc.heap[gb201]? = some (.cells #[.int .i64 0, .string (⟨#[]⟩ : ByteArray), .int .i64 0, .int .i64 0] 91 (0, 0))) := ⟨by rw [← hq_]; exact (bk_ BK201.out)⟩; have n1_ : Aside0 (Below w.heap.size w wc) := ⟨by rw [← hq_]; exact (bl_)⟩; clear BK201 HB hq_; have BK201 := n0_; have HB := n1_; clear n0_ n1_)); have p47 : 0 ≤ (x7_7 : Int) := of_decide_eq_true (as_); have q47 : x7_7 < (a0.size : Int) := of_decide_eq_true (as_); have hx47 := bt_at a0 x7_7; replace p47 := eq_true p47; replace q47 := eq_true q47) | ((with_reducible refine gate_callee (f := 85) rfl ?_); refine goesL_ (some 91) rfl rfl Try.func85 (by kernel_rfl) rfl #[.int .u8 (bt a0 x7_7)] rfl (by (try simp only [List.map_toArray, List.map_cons, List.map_nil]); first | done | rfl | (simp only [List.length_drop, List.length_take]; rfl)) ?_; (with_reducible refine (r07_digit.calls (bt a0 x7_7) false _ A48.out).mono ?_); rintro e w' ⟨rfl, ⟨nd, rfl⟩⟩; refine ⟨_, rfl, ?_⟩; (try (rw [drewN_self wc]; generalize hq_ : World.drewN wc _ = wc; have n0_ : Aside0 (wc.heap[gb201]? = some (.cells #[.int .i64 0, .string (⟨#[]⟩ : ByteArray), .int .i64 0, .int .i64 0] 91 (0, 0))) := ⟨by rw [← hq_]; exact (bk_ BK201.out)⟩; have n1_ : Aside0 (Below w.heap.size w wc) := ⟨by rw [← hq_]; exact (bl_)⟩; clear BK201 HB hq_; have BK201 := n0_; have HB := n1_; clear n0_ n1_)); have p76 : 0 ≤ (x7_7 : Int) := of_decide_eq_true (as_); have q76 : x7_7 < (a0.size : Int) := of_decide_eq_true (as_); have hx76 := bt_at a0 x7_7; replace p76 := eq_true p76; replace q76 := eq_true q76) | ((with_reducible refine gate_callee (f := 89) rfl ?_); refine goesL_ (some 149) rfl rfl Try.func89 (by kernel_rfl) rfl #[.string a0, .int .i64 x7_7] rfl (by (try simp only [List.map_toArray, List.map_cons, List.map_nil]); first | done | rfl | (simp only [List.length_drop, List.length_take]; rfl)) ?_; (with_reducible refine (r07_Sign.calls kj7 a0 x7_7 t218 _ A81.out).mono ?_); rintro e w85 ⟨rfl, hb⟩; refine ⟨_, rfl, ?_⟩; replace BK201 := am_ (blk_below (bk_ BK201.out) hb); replace HB := am_ (below_step (bl_) hb); (try clear hb); (try clear hb2); (try clear hk); (try clear hi); obtain ⟨hcz86_0, hcz86_1, hcz86_2, hcz86_3, hfz86_0, hfz86_1, hfz86_2, hfz86_3⟩ := bw4_ BK201.out))
              refine bodyPost_ret (results_ctt rfl _ _ gb201 91 #[.int .i64 5, .string t218, .int .i64 0, .int .i64 x7_7] (0, 0) _ rfl (by refine bp_ ?_; refine blk_put (cs := #[.int .i64 5, .string t218, .int .i64 0, .int .i64 0]) ?_ 3 _ rfl; refine bp_ ?_; refine blk_put (cs := #[.int .i64 5, .string t218, .int .i64 0, .int .i64 0]) ?_ 2 _ rfl; refine bp_ ?_; refine blk_put (cs := #[.int .i64 5, .string (⟨#[]⟩ : ByteArray), .int .i64 0, .int .i64 0]) ?_ 1 _ rfl; refine bp_ ?_; refine blk_put (cs := #[.int .i64 0, .string (⟨#[]⟩ : ByteArray), .int .i64 0, .int .i64 0]) ?_ 0 _ rfl; refine bp_ ?_; exact BK201.out) Try.underlying91 rfl (by kernel_rfl)) rfl ?_; exact ⟨ew_, bl_⟩
         ·rw [if_neg c17] at H
          exact absurd H (by simp)
        ·rw [if_neg c16] at H
         exact absurd H (by simp)
end Go.Proofs.Ytcfgjaggccnoaaa.PParseSmall
namespace Go.Proofs.Ytcfgjaggccnoaaa.PParseSmall
open Go.RowKit Go.Proofs.YtcfgjaggccnoaaaW.PrintWords Go.Proofs.YtcfgjaggccnoaaaW.PrintLast Go.Proofs.YtcfgjaggccnoaaaW.PrintMore
attribute [local go_sem] max2_int min2_int max_two min_two max_three min_three max_four min_four
set_option linter.unusedVariables false
set_option maxHeartbeats 8000000
set_option linter.unusedSimpArgs false
set_option maxRecDepth 100000
def r07_All.l0 : Nat → ByteArray → List (S91) → Int → Int → Option ((List (S91)) × Int)
 | 0, _, _, _, _ => none
 | k + 1, x0, x4, x5, x6 => if x6 < 1000 then ((r07_One.f k x0 x5).bind fun bt219 => (if bt219.2.2.2.2.2 = 0 then (if x4.length < 3518437208883 then ((some (x4 ++ [(⟨bt219.1, bt219.2.1, bt219.2.2.1, bt219.2.2.2.1⟩ : S91)] : List (S91))).bind fun y226 => (if bt219.1 = 0 then (some (y226, 0)) else (r07_All.l0 k x0 y226 bt219.2.2.2.2.1 (wrap64 (x6 + 1))))) else (none)) else (some (([] : List (S91)), bt219.2.2.2.2.2)))) else (some (([] : List (S91)), 4))
def r07_All.f (k : Nat) (a0 : ByteArray) : Option ((List (S91)) × Int) := r07_All.l0 k a0 ([] : List (S91)) 0 0
theorem r07_All.mono_l : ∀ k, (∀ y0 y1 y2 y3, LeO (r07_All.l0 k y0 y1 y2 y3) (r07_All.l0 (k + 1) y0 y1 y2 y3))
 | 0 => fun _ _ _ _ r h => by simp [r07_All.l0] at h
 | k + 1 => by
  have ih0 := r07_All.mono_l k
  ·intro y0 y1 y2 y3
   unfold r07_All.l0
   repeat' first
   | (with_reducible exact ih0 _ _ _ _)
   | (with_reducible exact r07_One.mono _ _ _)
   | (with_reducible exact LeO.refl _)
   | (with_reducible exact LeO.none _)
   | (with_reducible refine LeO.ite ?_ ?_)
   | (with_reducible refine LeO.bind ?_ (fun _ => ?_))
   | exact ih0 _ _ _ _
   | exact r07_One.mono _ _ _
   | exact LeO.none _
   | refine LeO.ite ?_ ?_
   | refine LeO.bind ?_ (fun _ => ?_)
theorem r07_All.mono : ∀ a0 k, LeO (r07_All.f k a0) (r07_All.f (k + 1) a0) := by
 intro a0 k; have ih0 := r07_All.mono_l k; unfold r07_All.f
 repeat' first
   | (with_reducible exact ih0 _ _ _ _)
   | (with_reducible exact r07_One.mono _ _ _)
   | (with_reducible exact LeO.refl _)
   | (with_reducible exact LeO.none _)
   | (with_reducible refine LeO.ite ?_ ?_)
   | (with_reducible refine LeO.bind ?_ (fun _ => ?_))
   | exact ih0 _ _ _ _
   | exact r07_One.mono _ _ _
   | exact LeO.none _
   | refine LeO.ite ?_ ?_
   | refine LeO.bind ?_ (fun _ => ?_)
theorem r07_All.calls (k : Nat) (a0 : ByteArray) (r1 : List (S91)) (r2 : Int) (w : World) (h : r07_All.f k a0 = some (r1, r2)) :
  Calls Try.prog 17 #[.string a0] w fun e w' => ∃ v0_ : Value, e = .returned (.tuple #[v0_, .int .i64 r2]) ∧ Kd.R k91 91 w' w.heap.size (fun _ => True) v0_ r1 ∧ Below w.heap.size w w' := by
 have hu91 := Try.underlying91; have HB := am_ (Below.refl w.heap.size w); have H : (r07_All.l0 k a0 ([] : List (S91)) 0 0) = some (r1, r2) := h; clear h; have H' := am_ H; clear H
 go_enter Try.func17, Try.ntmps17
 go_wp2
 go_loopg [4, 5, 6] k (fun kq v4 v5 v6 w' => ∃ (x4_1 : List (S91)) (x5_1 : Int) (x6_1 : Int), v5 = .int .i64 x5_1 ∧ v6 = .int .i64 x6_1 ∧ Aside0 (r07_All.l0 kq a0 x4_1 x5_1 x6_1 = some (r1, r2)) ∧ Aside0 (kq ≤ k) ∧ Aside0 (Kd.R k91 91 w' w.heap.size (fun _ => True) v4 x4_1) ∧ Aside0 (Below w.heap.size w w'))
 case atStart => exact ⟨(([] : List (S91))), (0), (0), (rs_), (rs_), H', ⟨Nat.le_refl _⟩, ⟨by first | exact Kd.R_nil _ _ _ _ _ | exact Kd.N_nil _ _ _ _ _ | exact Kd.V_nil _ _ _ _ _ | exact Kd.Q_nil _ _ _ _ _ | exact Kd.S_nil _ _ _ _ _⟩, ⟨bl_⟩⟩
 case round =>
  clear H'; (try clear c1); obtain ⟨x4_1, x5_1, x6_1, rfl, rfl, HA, HK1, HO_4, HB⟩ := hrel
  cases gk with
  | zero => exact absurd HA.out (by simp [r07_All.l0])
  | succ k1 =>
   have H := HA.out; clear HA; simp only [r07_All.l0] at H
   by_cases c2 : x6_1 < 1000
   ·rw [if_pos c2] at H
    have c2b0 : decide (x6_1 < 1000) = true := decide_eq_true c2; clear c2; replace H := Option.bind_eq_some_iff.mp H; obtain ⟨⟨t219, t220, t221, t222, t223, t224⟩, A30, H⟩ := H; replace H : (if t224 = 0 then (if x4_1.length < 3518437208883 then ((some (x4_1 ++ [(⟨t219, t220, t221, t222⟩ : S91)] : List (S91))).bind fun y226 => (if t219 = 0 then (some (y226, 0)) else (r07_All.l0 k1 a0 y226 t223 (wrap64 (x6_1 + 1))))) else (none)) else (some (([] : List (S91)), t224))) = some (r1, r2) := H; have A3 := am_ A30; clear A30
    by_cases c4 : t224 = 0
    ·rw [if_pos c4] at H
     have c4b0 : (t224 == 0) = true := beq_iff_eq.mpr c4; have c4b1 : (t224 != 0) = false := bne_eq_false_iff_eq.mpr c4; clear c4
     by_cases c5 : x4_1.length < 3518437208883
     ·rw [if_pos c5] at H
      have LMc5 := am_ c5; clear c5
      obtain ⟨y226, hy226⟩ : ∃ y_ : List (S91), y_ = (x4_1 ++ [(⟨t219, t220, t221, t222⟩ : S91)]) := ⟨_, rfl⟩
      replace H : (if t219 = 0 then (some (y226, 0)) else (r07_All.l0 k1 a0 y226 t223 (wrap64 (x6_1 + 1)))) = some (r1, r2) := by first | (rw [hy226]; with_reducible exact H) | (have H2_ := (Option.bind_some _ _).symm.trans H; rw [hy226]; with_reducible exact H2_) | (have H2_ := (Option.bind_some _ _).symm.trans H; with_reducible exact H2_) | with_reducible exact H | (rw [hy226]; exact H) | exact H
      have Ny226 := am_ hy226; clear hy226
      by_cases c6 : t219 = 0
      ·rw [if_pos c6] at H
       have c6b0 : (t219 == 0) = true := beq_iff_eq.mpr c6; have c6b1 : (t219 != 0) = false := bne_eq_false_iff_eq.mpr c6; clear c6; simp only [Option.some.injEq, Prod.mk.injEq] at H; obtain ⟨rfl, rfl⟩ := H
       go_wp2_with (first | ((with_reducible refine gate_callee (f := 44) rfl ?_); refine goesL_ (some 17) rfl rfl Try.func44 (by kernel_rfl) rfl #[.string a0, .int .i64 x5_1] rfl (by (try simp only [List.map_toArray, List.map_cons, List.map_nil]); first | done | rfl | (simp only [List.length_drop, List.length_take]; rfl)) ?_; (with_reducible refine (r07_One.calls k1 a0 x5_1 t219 t220 t221 t222 t223 t224 _ A3.out).mono ?_); rintro e w7 ⟨rfl, hb⟩; refine ⟨_, rfl, ?_⟩; replace HO_4 := am_ (Kd.R_below (kr_ HO_4.out) hb); replace HB := am_ (below_step (bl_) hb); (try clear hb); (try clear hb2); (try clear hk); (try clear hi)) | ((with_reducible refine gate_dst (N := 7) rfl ?_); refine box_event ?hg (N := 7) ?hd (cs := #[.int .i64 0, .string (⟨#[]⟩ : ByteArray), .int .i64 0, .int .i64 0]) (t := 91) ?hr ?_; (case hd => rfl); (case hg => rfl); (case hr => first | (go_simp; done) | (go_simp; rfl)); intro gb225 hg w8 hbox hb; replace HO_4 := am_ (Kd.R_below (Kd.R_elderB (kr_ HO_4.out) gb225 (Nat.le_of_eq hg.symm)) hb); have BK225 := am_ (hbox); have GW225 := am_ ((by rw [hg]; exact (below_size (bl_)) : w.heap.size ≤ gb225)); have GE225 := am_ ((by rw [hg]; exact (below_size (bl_)) : w.heap.size ≤ gb225)); replace HB := am_ (below_step (bl_) hb); clear hb hbox hg; obtain ⟨hcz9_0, hcz9_1, hcz9_2, hcz9_3, hfz9_0, hfz9_1, hfz9_2, hfz9_3⟩ := bw4_ BK225.out) | ((with_reducible refine gate_builtin (b := .append) (xs := #[.tmp 24, .tmp 26]) rfl ?_); at_builtin; refine Kd.R_append k91 (w0 := w) w.heap.size rfl (.tmp 24) (.tmp 26) 52 91 (.agg #[(.int .i64 0), (.string ⟨#[]⟩), (.int .i64 0), (.int .i64 0)]) 40 rfl Try.underlying52 info91 rfl (by decide) (by omega) u4 x4_1 (⟨t219, t220, t221, t222⟩ : S91) [.int .i64 t219, .string t220, .int .i64 t221, .int .i64 t222] (fun k_ => k_ ≠ gb225) (fun _ => False) rfl (by first | (go_simp; done) | (go_simp; rfl)) ?aP (fun _ hk => hk.elim) ?aF ?aO ?aB ?aS ?aL ?_; (case aP => exact k91_mkM _ _ _ (⟨t219, t220, t221, t222⟩ : S91)); (case aB => exact (bl_)); (case aF => exact (fun k_ hk => Kd.freshB (g := gb225) (o := .cells #[.int .i64 t219, .string t220, .int .i64 t221, .int .i64 t222] 91 (0, 0)) (by refine bp_ ?_; refine blk_put (cs := #[.int .i64 t219, .string t220, .int .i64 t221, .int .i64 0]) ?_ 3 _ rfl; refine bp_ ?_; refine blk_put (cs := #[.int .i64 t219, .string t220, .int .i64 0, .int .i64 0]) ?_ 2 _ rfl; refine bp_ ?_; refine blk_put (cs := #[.int .i64 t219, .string (⟨#[]⟩ : ByteArray), .int .i64 0, .int .i64 0]) ?_ 1 _ rfl; refine bp_ ?_; refine blk_put (cs := #[.int .i64 0, .string (⟨#[]⟩ : ByteArray), .int .i64 0, .int .i64 0]) ?_ 0 _ rfl; refine bp_ ?_; exact BK225.out) k_ hk)); (case aO => exact (by (with_reducible repeat (first | apply Kd.R_alloc | apply Kd.R_drewN | apply Kd.R_drew)); exact Kd.R_mono (fr_ gb225 3 (fr_ gb225 2 (fr_ gb225 1 (fr_ gb225 0 (Kd.R_mono HO_4.out (fun k_ hk => (⟨hk, hk.2⟩ : _ ∧ k_ ≠ gb225))) (fun _ hk => hk.2) (.int .i64 t219)) (fun _ hk => hk.2) (.string t220)) (fun _ hk => hk.2) (.int .i64 t221)) (fun _ hk => hk.2) (.int .i64 t222)) (fun _ hk => hk.1.2))); (case aS => exact (below_size (bl_))); (case aL => have := LMc5.out; omega); intro v227 w10 ho hb hg hat; rw [← Ny226.out] at ho; replace BK225 := am_ (blk_grown (g := gb225) (o := .cells #[.int .i64 t219, .string t220, .int .i64 t221, .int .i64 t222] 91 (0, 0)) (by refine bp_ ?_; refine blk_put (cs := #[.int .i64 t219, .string t220, .int .i64 t221, .int .i64 0]) ?_ 3 _ rfl; refine bp_ ?_; refine blk_put (cs := #[.int .i64 t219, .string t220, .int .i64 0, .int .i64 0]) ?_ 2 _ rfl; refine bp_ ?_; refine blk_put (cs := #[.int .i64 t219, .string (⟨#[]⟩ : ByteArray), .int .i64 0, .int .i64 0]) ?_ 1 _ rfl; refine bp_ ?_; refine blk_put (cs := #[.int .i64 0, .string (⟨#[]⟩ : ByteArray), .int .i64 0, .int .i64 0]) ?_ 0 _ rfl; refine bp_ ?_; exact BK225.out) hg (Kd.R_away HO_4.out (fun _ hk => hk.2))); have HO228 := am_ (ho); replace HB := am_ (hb); clear HO_4; clear ho hb hg hat; obtain ⟨hcz11_0, hcz11_1, hcz11_2, hcz11_3, hfz11_0, hfz11_1, hfz11_2, hfz11_3⟩ := bw4_ BK225.out))
       go_ret2
       exact ⟨_, ew_, by (with_reducible repeat (first | apply Kd.R_alloc | apply Kd.R_drewN | apply Kd.R_drew)); exact Kd.R_mono HO228.out (fun _ hk => trivial), bl_⟩
      ·rw [if_neg c6] at H
       have c6b0 : (t219 == 0) = false := beq_eq_false_iff_ne.mpr c6; have c6b1 : (t219 != 0) = true := bne_iff_ne.mpr c6; have H' := am_ H; clear H
       go_wp2_with (first | ((with_reducible refine gate_callee (f := 44) rfl ?_); refine goesL_ (some 17) rfl rfl Try.func44 (by kernel_rfl) rfl #[.string a0, .int .i64 x5_1] rfl (by (try simp only [List.map_toArray, List.map_cons, List.map_nil]); first | done | rfl | (simp only [List.length_drop, List.length_take]; rfl)) ?_; (with_reducible refine (r07_One.calls k1 a0 x5_1 t219 t220 t221 t222 t223 t224 _ A3.out).mono ?_); rintro e w12 ⟨rfl, hb⟩; refine ⟨_, rfl, ?_⟩; replace HO_4 := am_ (Kd.R_below (kr_ HO_4.out) hb); replace HB := am_ (below_step (bl_) hb); (try clear hb); (try clear hb2); (try clear hk); (try clear hi)) | ((with_reducible refine gate_dst (N := 7) rfl ?_); refine box_event ?hg (N := 7) ?hd (cs := #[.int .i64 0, .string (⟨#[]⟩ : ByteArray), .int .i64 0, .int .i64 0]) (t := 91) ?hr ?_; (case hd => rfl); (case hg => rfl); (case hr => first | (go_simp; done) | (go_simp; rfl)); intro gb225 hg w13 hbox hb; replace HO_4 := am_ (Kd.R_below (Kd.R_elderB (kr_ HO_4.out) gb225 (Nat.le_of_eq hg.symm)) hb); have BK225 := am_ (hbox); have GW225 := am_ ((by rw [hg]; exact (below_size (bl_)) : w.heap.size ≤ gb225)); have GE225 := am_ ((by rw [hg]; exact (below_size (bl_)) : w.heap.size ≤ gb225)); replace HB := am_ (below_step (bl_) hb); clear hb hbox hg; obtain ⟨hcz14_0, hcz14_1, hcz14_2, hcz14_3, hfz14_0, hfz14_1, hfz14_2, hfz14_3⟩ := bw4_ BK225.out) | ((with_reducible refine gate_builtin (b := .append) (xs := #[.tmp 24, .tmp 26]) rfl ?_); at_builtin; refine Kd.R_append k91 (w0 := w) w.heap.size rfl (.tmp 24) (.tmp 26) 52 91 (.agg #[(.int .i64 0), (.string ⟨#[]⟩), (.int .i64 0), (.int .i64 0)]) 40 rfl Try.underlying52 info91 rfl (by decide) (by omega) u4 x4_1 (⟨t219, t220, t221, t222⟩ : S91) [.int .i64 t219, .string t220, .int .i64 t221, .int .i64 t222] (fun k_ => k_ ≠ gb225) (fun _ => False) rfl (by first | (go_simp; done) | (go_simp; rfl)) ?aP (fun _ hk => hk.elim) ?aF ?aO ?aB ?aS ?aL ?_; (case aP => exact k91_mkM _ _ _ (⟨t219, t220, t221, t222⟩ : S91)); (case aB => exact (bl_)); (case aF => exact (fun k_ hk => Kd.freshB (g := gb225) (o := .cells #[.int .i64 t219, .string t220, .int .i64 t221, .int .i64 t222] 91 (0, 0)) (by refine bp_ ?_; refine blk_put (cs := #[.int .i64 t219, .string t220, .int .i64 t221, .int .i64 0]) ?_ 3 _ rfl; refine bp_ ?_; refine blk_put (cs := #[.int .i64 t219, .string t220, .int .i64 0, .int .i64 0]) ?_ 2 _ rfl; refine bp_ ?_; refine blk_put (cs := #[.int .i64 t219, .string (⟨#[]⟩ : ByteArray), .int .i64 0, .int .i64 0]) ?_ 1 _ rfl; refine bp_ ?_; refine blk_put (cs := #[.int .i64 0, .string (⟨#[]⟩ : ByteArray), .int .i64 0, .int .i64 0]) ?_ 0 _ rfl; refine bp_ ?_; exact BK225.out) k_ hk)); (case aO => exact (by (with_reducible repeat (first | apply Kd.R_alloc | apply Kd.R_drewN | apply Kd.R_drew)); exact Kd.R_mono (fr_ gb225 3 (fr_ gb225 2 (fr_ gb225 1 (fr_ gb225 0 (Kd.R_mono HO_4.out (fun k_ hk => (⟨hk, hk.2⟩ : _ ∧ k_ ≠ gb225))) (fun _ hk => hk.2) (.int .i64 t219)) (fun _ hk => hk.2) (.string t220)) (fun _ hk => hk.2) (.int .i64 t221)) (fun _ hk => hk.2) (.int .i64 t222)) (fun _ hk => hk.1.2))); (case aS => exact (below_size (bl_))); (case aL => have := LMc5.out; omega); intro v227 w15 ho hb hg hat; rw [← Ny226.out] at ho; replace BK225 := am_ (blk_grown (g := gb225) (o := .cells #[.int .i64 t219, .string t220, .int .i64 t221, .int .i64 t222] 91 (0, 0)) (by refine bp_ ?_; refine blk_put (cs := #[.int .i64 t219, .string t220, .int .i64 t221, .int .i64 0]) ?_ 3 _ rfl; refine bp_ ?_; refine blk_put (cs := #[.int .i64 t219, .string t220, .int .i64 0, .int .i64 0]) ?_ 2 _ rfl; refine bp_ ?_; refine blk_put (cs := #[.int .i64 t219, .string (⟨#[]⟩ : ByteArray), .int .i64 0, .int .i64 0]) ?_ 1 _ rfl; refine bp_ ?_; refine blk_put (cs := #[.int .i64 0, .string (⟨#[]⟩ : ByteArray), .int .i64 0, .int .i64 0]) ?_ 0 _ rfl; refine bp_ ?_; exact BK225.out) hg (Kd.R_away HO_4.out (fun _ hk => hk.2))); have HO228 := am_ (ho); replace HB := am_ (hb); clear HO_4; clear ho hb hg hat; obtain ⟨hcz16_0, hcz16_1, hcz16_2, hcz16_3, hfz16_0, hfz16_1, hfz16_2, hfz16_3⟩ := bw4_ BK225.out))
       go_roundg k1
       case measure => have := HK1.out; omega
       case rel => exact ⟨(y226), (t223), (wrap64 (x6_1 + 1)), (rs_), (rs_), H', ⟨by have := HK1.out; omega⟩, ⟨by (with_reducible repeat (first | apply Kd.R_alloc | apply Kd.R_drewN | apply Kd.R_drew)); exact Kd.R_mono HO228.out (fun _ hk => trivial)⟩, ⟨bl_⟩⟩
     ·rw [if_neg c5] at H
      exact absurd H (by simp)
    ·rw [if_neg c4] at H
     have c4b0 : (t224 == 0) = false := beq_eq_false_iff_ne.mpr c4; have c4b1 : (t224 != 0) = true := bne_iff_ne.mpr c4; simp only [Option.some.injEq, Prod.mk.injEq] at H; obtain ⟨rfl, rfl⟩ := H
     go_wp2_with (first | ((with_reducible refine gate_callee (f := 44) rfl ?_); refine goesL_ (some 17) rfl rfl Try.func44 (by kernel_rfl) rfl #[.string a0, .int .i64 x5_1] rfl (by (try simp only [List.map_toArray, List.map_cons, List.map_nil]); first | done | rfl | (simp only [List.length_drop, List.length_take]; rfl)) ?_; (with_reducible refine (r07_One.calls k1 a0 x5_1 t219 t220 t221 t222 t223 t224 _ A3.out).mono ?_); rintro e w17 ⟨rfl, hb⟩; refine ⟨_, rfl, ?_⟩; replace HO_4 := am_ (Kd.R_below (kr_ HO_4.out) hb); replace HB := am_ (below_step (bl_) hb); (try clear hb); (try clear hb2); (try clear hk); (try clear hi)) | ((with_reducible refine gate_dst (N := 7) rfl ?_); refine box_event ?hg (N := 7) ?hd (cs := #[.int .i64 0, .string (⟨#[]⟩ : ByteArray), .int .i64 0, .int .i64 0]) (t := 91) ?hr ?_; (case hd => rfl); (case hg => rfl); (case hr => first | (go_simp; done) | (go_simp; rfl)); intro gb225 hg w18 hbox hb; replace HO_4 := am_ (Kd.R_below (Kd.R_elderB (kr_ HO_4.out) gb225 (Nat.le_of_eq hg.symm)) hb); have BK225 := am_ (hbox); have GW225 := am_ ((by rw [hg]; exact (below_size (bl_)) : w.heap.size ≤ gb225)); have GE225 := am_ ((by rw [hg]; exact (below_size (bl_)) : w.heap.size ≤ gb225)); replace HB := am_ (below_step (bl_) hb); clear hb hbox hg; obtain ⟨hcz19_0, hcz19_1, hcz19_2, hcz19_3, hfz19_0, hfz19_1, hfz19_2, hfz19_3⟩ := bw4_ BK225.out))
     go_ret2
     exact ⟨_, ew_, by first | exact Kd.R_nil _ _ _ _ _ | exact Kd.N_nil _ _ _ _ _ | exact Kd.V_nil _ _ _ _ _ | exact Kd.Q_nil _ _ _ _ _ | exact Kd.S_nil _ _ _ _ _, bl_⟩
   ·rw [if_neg c2] at H
    have c2b0 : decide (x6_1 < 1000) = false := decide_eq_false c2; clear c2; simp only [Option.some.injEq, Prod.mk.injEq] at H; obtain ⟨rfl, rfl⟩ := H
    go_wp2
    go_ret2
    exact ⟨_, ew_, by first | exact Kd.R_nil _ _ _ _ _ | exact Kd.N_nil _ _ _ _ _ | exact Kd.V_nil _ _ _ _ _ | exact Kd.Q_nil _ _ _ _ _ | exact Kd.S_nil _ _ _ _ _, bl_⟩
mutual
def r08_Flat.l0 : Nat → Int → List (S27) → List Int → Int → Int → ByteArray → ByteArray → Int → Int → Int → Int → ByteArray → List (S27) → Option ((List (S27)) × List Int)
 | 0, _, _, _, _, _, _, _, _, _, _, _, _, _ => none
 | k + 1, x1, x6, x7, x8, x230000, x230001, x230002, x230003, x230004, x230005, x230006, x230007, x230008 => if x8 < (x230008.length : Int) then (if 0 ≤ x8 then ((r08_Flat.f k ((rd_T27 x230008 x8).f0) ((rd_T27 x230008 x8).f1) ((rd_T27 x230008 x8).f2) ((rd_T27 x230008 x8).f3) ((rd_T27 x230008 x8).f4) ((rd_T27 x230008 x8).f5.f0) ((rd_T27 x230008 x8).f5.f1) ((rd_T27 x230008 x8).f5.f2) ((rd_T27 x230008 x8).f6) (wrap64 (x1 + 1))).bind fun bt237 => (if x6.length + bt237.1.length < 1256584717458 then (if x7.length + bt237.2.length < 17592186044416 then (r08_Flat.l0 k x1 (x6 ++ bt237.1) (x7 ++ bt237.2) (wrap64 (x8 + 1)) x230000 x230001 x230002 x230003 x230004 x230005 x230006 x230007 x230008) else (none)) else (none))) else (none)) else (some (x6, x7))
def r08_Flat.f : Nat → Int → ByteArray → ByteArray → Int → Int → Int → Int → ByteArray → List (S27) → Int → Option ((List (S27)) × List Int)
 | 0, _, _, _, _, _, _, _, _, _, _ => none
 | k + 1, a0_0, a0_1, a0_2, a0_3, a0_4, a0_5, a0_6, a0_7, l0_8, a1 => r08_Flat.l0 k a1 (([(⟨a0_0, a0_1, a0_2, a0_3, a0_4, (⟨a0_5, a0_6, a0_7⟩ : S25), l0_8⟩ : S27)] : List (S27))) (([a1] : List Int)) 0 a0_0 a0_1 a0_2 a0_3 a0_4 a0_5 a0_6 a0_7 l0_8
end
theorem r08_Flat.mono_l : ∀ k, (∀ y0 y1 y2 y3 y4 y5 y6 y7 y8 y9, LeO (r08_Flat.f k y0 y1 y2 y3 y4 y5 y6 y7 y8 y9) (r08_Flat.f (k + 1) y0 y1 y2 y3 y4 y5 y6 y7 y8 y9)) ∧ (∀ y0 y1 y2 y3 y4 y5 y6 y7 y8 y9 y10 y11 y12, LeO (r08_Flat.l0 k y0 y1 y2 y3 y4 y5 y6 y7 y8 y9 y10 y11 y12) (r08_Flat.l0 (k + 1) y0 y1 y2 y3 y4 y5 y6 y7 y8 y9 y10 y11 y12))
 | 0 => ⟨fun _ _ _ _ _ _ _ _ _ _ r h => by simp [r08_Flat.f] at h, fun _ _ _ _ _ _ _ _ _ _ _ _ _ r h => by simp [r08_Flat.l0] at h⟩
 | k + 1 => by
  obtain ⟨ih0, ih1⟩ := r08_Flat.mono_l k; refine ⟨?_, ?_⟩
  ·intro y0 y1 y2 y3 y4 y5 y6 y7 y8 y9
   unfold r08_Flat.f
   repeat' first
   | (with_reducible exact ih0 _ _ _ _ _ _ _ _ _ _)
   | (with_reducible exact ih1 _ _ _ _ _ _ _ _ _ _ _ _ _)
   | (with_reducible exact LeO.refl _)
   | (with_reducible exact LeO.none _)
   | (with_reducible refine LeO.ite ?_ ?_)
   | (with_reducible refine LeO.bind ?_ (fun _ => ?_))
   | exact ih0 _ _ _ _ _ _ _ _ _ _
   | exact ih1 _ _ _ _ _ _ _ _ _ _ _ _ _
   | exact LeO.none _
   | refine LeO.ite ?_ ?_
   | refine LeO.bind ?_ (fun _ => ?_)
  ·intro y0 y1 y2 y3 y4 y5 y6 y7 y8 y9 y10 y11 y12
   unfold r08_Flat.l0
   repeat' first
   | (with_reducible exact ih0 _ _ _ _ _ _ _ _ _ _)
   | (with_reducible exact ih1 _ _ _ _ _ _ _ _ _ _ _ _ _)
   | (with_reducible exact LeO.refl _)
   | (with_reducible exact LeO.none _)
   | (with_reducible refine LeO.ite ?_ ?_)
   | (with_reducible refine LeO.bind ?_ (fun _ => ?_))
   | exact ih0 _ _ _ _ _ _ _ _ _ _
   | exact ih1 _ _ _ _ _ _ _ _ _ _ _ _ _
   | exact LeO.none _
   | refine LeO.ite ?_ ?_
   | refine LeO.bind ?_ (fun _ => ?_)
theorem r08_Flat.mono : ∀ a0 a1 a2 a3 a4 a5 a6 a7 a8 a9 k, LeO (r08_Flat.f k a0 a1 a2 a3 a4 a5 a6 a7 a8 a9) (r08_Flat.f (k + 1) a0 a1 a2 a3 a4 a5 a6 a7 a8 a9) := by
 intro a0 a1 a2 a3 a4 a5 a6 a7 a8 a9 k; obtain ⟨ih0, ih1⟩ := r08_Flat.mono_l k; exact ih0 a0 a1 a2 a3 a4 a5 a6 a7 a8 a9
theorem r08_Flat.calls (k : Nat) : ∀ (a0_0 : Int) (a0_1 : ByteArray) (a0_2 : ByteArray) (a0_3 : Int) (a0_4 : Int) (a0_5 : Int) (a0_6 : Int) (a0_7 : ByteArray) (P0_8_ : Nat → Prop) (A0_8 : Option Addr) (c0_8 : Nat) (l0_8 : List (S27)) (a1 : Int) (r1 : List (S27)) (r2 : List Int) (w : World) (hs0_8 : Kd.V k27 27 w w.heap.size (fun k_ => P0_8_ k_) (.slice A0_8 l0_8.length c0_8) l0_8) (h : r08_Flat.f k a0_0 a0_1 a0_2 a0_3 a0_4 a0_5 a0_6 a0_7 l0_8 a1 = some (r1, r2)),
  Calls Try.prog 18 #[.agg #[.int .i64 a0_0, .string a0_1, .string a0_2, .int .i64 a0_3, .int .i64 a0_4, .int .i64 a0_5, .int .i64 a0_6, .string a0_7, .slice A0_8 l0_8.length c0_8], .int .i64 a1] w fun e w' => ∃ v0_ v1_ : Value, e = .returned (.tuple #[v0_, v1_]) ∧ Kd.N k27 27 w' w.heap.size (fun k_ => (P0_8_ k_ ∨ w.heap.size ≤ k_) ∧ some k_ ≠ (v1_ : Value).ownBlock) v0_ r1 ∧ Kd.R (Kd.int .i64) 3 w' w.heap.size (fun k_ => (w.heap.size ≤ k_)) v1_ r2 ∧ Below w.heap.size w w' := by
 induction k using Nat.strongRecOn with
 | _ k ih =>
 intro a0_0 a0_1 a0_2 a0_3 a0_4 a0_5 a0_6 a0_7 P0_8_ A0_8 c0_8 l0_8 a1 r1 r2 w hs0_8 h
 cases k with
 | zero => exact absurd h (by simp [r08_Flat.f])
 | succ k =>
 simp only [r08_Flat.f] at h; have hu27 := Try.underlying27; have HO0_8 := am_ (show Kd.V k27 27 w w.heap.size (fun k_ => (P0_8_ k_ ∨ w.heap.size ≤ k_)) (.slice A0_8 l0_8.length c0_8) l0_8 from Kd.V_mono hs0_8 (fun k_ hk => .inl hk)); have HB := am_ (Below.refl w.heap.size w); have H : (r08_Flat.l0 k a1 (([(⟨a0_0, a0_1, a0_2, a0_3, a0_4, (⟨a0_5, a0_6, a0_7⟩ : S25), l0_8⟩ : S27)] : List (S27))) (([a1] : List Int)) 0 a0_0 a0_1 a0_2 a0_3 a0_4 a0_5 a0_6 a0_7 l0_8) = some (r1, r2) := h; clear h
 obtain ⟨y230, hy230⟩ : ∃ y_ : List (S27), y_ = (([(⟨a0_0, a0_1, a0_2, a0_3, a0_4, (⟨a0_5, a0_6, a0_7⟩ : S25), l0_8⟩ : S27)] : List (S27))) := ⟨_, rfl⟩
 replace H : (r08_Flat.l0 k a1 y230 (([a1] : List Int)) 0 a0_0 a0_1 a0_2 a0_3 a0_4 a0_5 a0_6 a0_7 l0_8) = some (r1, r2) := by first | (rw [hy230]; with_reducible exact H) | (have H2_ := (Option.bind_some _ _).symm.trans H; rw [hy230]; with_reducible exact H2_) | (have H2_ := (Option.bind_some _ _).symm.trans H; with_reducible exact H2_) | with_reducible exact H | (rw [hy230]; exact H) | exact H
 have Ny230 := am_ hy230; clear hy230
 obtain ⟨y233, hy233⟩ : ∃ y_ : List Int, y_ = (([a1] : List Int)) := ⟨_, rfl⟩
 replace H : (r08_Flat.l0 k a1 y230 y233 0 a0_0 a0_1 a0_2 a0_3 a0_4 a0_5 a0_6 a0_7 l0_8) = some (r1, r2) := by first | (rw [hy233]; with_reducible exact H) | (have H2_ := (Option.bind_some _ _).symm.trans H; rw [hy233]; with_reducible exact H2_) | (have H2_ := (Option.bind_some _ _).symm.trans H; with_reducible exact H2_) | with_reducible exact H | (rw [hy233]; exact H) | exact H
 have Ny233 := am_ hy233; clear hy233; have H' := am_ H; clear H
 go_enter Try.func18, Try.ntmps18
 go_wp2_with (first | ((with_reducible refine gate_dst (N := 2) rfl ?_); refine box_event ?hg (N := 2) ?hd (cs := #[.int .i64 a0_0, .string a0_1, .string a0_2, .int .i64 a0_3, .int .i64 a0_4, .int .i64 a0_5, .int .i64 a0_6, .string a0_7, .slice A0_8 l0_8.length c0_8]) (t := 27) ?hr ?_; (case hd => rfl); (case hg => rfl); (case hr => first | (go_simp; done) | (go_simp; rfl)); intro gb229 hg w3 hbox hb; replace HO0_8 := am_ (Kd.V_below (Kd.V_elderB (kv_ HO0_8.out) gb229 (Nat.le_of_eq hg.symm)) hb); have BK229 := am_ (hbox); have GW229 := am_ ((by rw [hg]; exact (below_size (bl_)) : w.heap.size ≤ gb229)); have GE229 := am_ ((by rw [hg]; exact (below_size (bl_)) : w.heap.size ≤ gb229)); replace HB := am_ (below_step (bl_) hb); clear hb hbox hg; obtain ⟨hcz4_0, hcz4_1, hcz4_2, hcz4_3, hcz4_4, hcz4_5, hcz4_6, hcz4_7, hcz4_8, hfz4_0, hfz4_1, hfz4_2, hfz4_3, hfz4_4, hfz4_5, hfz4_6, hfz4_7, hfz4_8⟩ := bw9_ BK229.out) | ((with_reducible refine gate_dst (N := 12) rfl ?_); refine Kd.N_lit k27 _ 27 ?hg (N' := 12) ?hd (xs := ([(⟨a0_0, a0_1, a0_2, a0_3, a0_4, (⟨a0_5, a0_6, a0_7⟩ : S25), l0_8⟩ : S27)] : List (S27))) (inner := [.int .i64 a0_0, .string a0_1, .string a0_2, .int .i64 a0_3, .int .i64 a0_4, .int .i64 a0_5, .int .i64 a0_6, .string a0_7, .slice A0_8 l0_8.length c0_8]) (ok := (fun k_ => (P0_8_ k_ ∨ w.heap.size ≤ k_) ∧ k_ ≠ gb229)) (okp := (fun k_ => (P0_8_ k_ ∨ w.heap.size ≤ k_) ∧ k_ ≠ gb229)) ?hr ?hp (fun _ hk => hk) ((show ∀ k_, w3.heap.size ≤ k_ → (fun k_ => (P0_8_ k_ ∨ w.heap.size ≤ k_) ∧ k_ ≠ gb229) k_ from fun k_ hk => ⟨(.inr (Nat.le_trans (below_size (bl_)) hk)), Kd.freshB (g := gb229) (o := .cells #[.int .i64 a0_0, .string a0_1, .string a0_2, .int .i64 a0_3, .int .i64 a0_4, .int .i64 a0_5, .int .i64 a0_6, .string a0_7, .slice A0_8 l0_8.length c0_8] 27 (0, 0)) (bk_ BK229.out) k_ hk⟩) _ (Nat.le_refl _)) (Below.refl _ _) (Nat.le_refl _) (by simp) ?_; (case hd => rfl); (case hg => rfl); (case hr => first | (go_simp; done) | (go_simp; rfl)); (case hp => exact (Reps.c9 (show Kd.FK k27 _ _ (⟨a0_0, a0_1, a0_2, a0_3, a0_4, (⟨a0_5, a0_6, a0_7⟩ : S25), l0_8⟩ : S27) [.int .i64 a0_0, .string a0_1, .string a0_2, .int .i64 a0_3, .int .i64 a0_4, .int .i64 a0_5, .int .i64 a0_6, .string a0_7, .slice A0_8 l0_8.length c0_8] from (k27_mkF _ _ (⟨a0_0, a0_1, a0_2, a0_3, a0_4, (⟨a0_5, a0_6, a0_7⟩ : S25), l0_8⟩ : S27) (Kd.V_reads' (Kd.V_mono (ok' := (fun k_ => (P0_8_ k_ ∨ w.heap.size ≤ k_) ∧ k_ ≠ gb229)) (kv_ (HO0_8.out)) (fun k_ hk => ⟨hk.1, hk.2⟩))).2.1 (Kd.V_F (Kd.V_mono (ok' := (fun k_ => (P0_8_ k_ ∨ w.heap.size ≤ k_) ∧ k_ ≠ gb229)) (kv_ (HO0_8.out)) (fun k_ hk => ⟨hk.1, hk.2⟩))))) (Reps.none _ _))); intro v231 w5 ho6 hb hg_ hnew_; clear hg_ hnew_; (first | rw [← Ny230.out] at ho6 | (simp only [Int.reduceToNat] at ho6; rw [← Ny230.out] at ho6)); replace HO0_8 := am_ (Kd.V_elder' (kv_ HO0_8.out) (Kd.N_base ho6) hb); have HO232 := am_ (Kd.N_lower ho6 (below_size (bl_))); replace BK229 := am_ (blk_below (bk_ BK229.out) hb); replace HB := am_ (below_step (bl_) hb); clear hb ho6) | ((with_reducible refine gate_dst (N := 14) rfl ?_); refine Kd.R_lit (Kd.int .i64) _ 3 ?hg (N := 14) ?hd (xs := ([a1] : List Int)) (inner := [.int .i64 a1]) (ok := fun _ => True) (okp := fun _ => True) ?hr ?hp (fun _ hk => hk) trivial (Below.refl _ _) (Nat.le_refl _) (by simp) ?_; (case hd => rfl); (case hg => rfl); (case hr => first | (go_simp; done) | (go_simp; rfl)); (case hp => exact (Reps.one (show Kd.M (Kd.int .i64) _ _ _ a1 [.int .i64 a1] from rfl) (Reps.none _ _))); intro v234 w7 ho8 hb hg_ hnew_; clear hg_ hnew_; (first | rw [← Ny233.out] at ho8 | (simp only [Int.reduceToNat] at ho8; rw [← Ny233.out] at ho8)); replace HO0_8 := am_ (Kd.V_elder' (kv_ HO0_8.out) (Kd.R_base ho8) hb); replace HO232 := am_ (Kd.N_elder' (kn_ HO232.out) (Kd.R_base ho8) hb); have HO235 := am_ (Kd.R_lower (Kd.R_newM (M := fun k_ => (w.heap.size ≤ k_)) ho8 (below_size (bl_)) (fun k_ h_ => h_)) (below_size (bl_))); replace BK229 := am_ (blk_below (bk_ BK229.out) hb); replace HB := am_ (below_step (bl_) hb); clear hb ho8))
 go_loopg [6, 7, 8] k (fun kq v6 v7 v8 w' => ∃ (x6_1 : List (S27)) (x7_1 : List Int) (x8_1 : Int), v8 = .int .i64 x8_1 ∧ Aside0 (r08_Flat.l0 kq a1 x6_1 x7_1 x8_1 a0_0 a0_1 a0_2 a0_3 a0_4 a0_5 a0_6 a0_7 l0_8 = some (r1, r2)) ∧ Aside0 (kq ≤ k) ∧ Aside0 (Kd.N k27 27 w' w.heap.size (fun k_ => (P0_8_ k_ ∨ w.heap.size ≤ k_) ∧ some k_ ≠ (v7 : Value).ownBlock ∧ k_ ≠ gb229) v6 x6_1) ∧ Aside0 (Kd.R (Kd.int .i64) 3 w' w.heap.size (fun k_ => (w.heap.size ≤ k_)) v7 x7_1) ∧ Aside0 (Kd.V k27 27 w' w.heap.size (fun k_ => (P0_8_ k_ ∨ w.heap.size ≤ k_) ∧ some k_ ≠ (v6 : Value).ownBlock ∧ some k_ ≠ (v7 : Value).ownBlock ∧ k_ ≠ gb229) (.slice A0_8 l0_8.length c0_8) l0_8) ∧ Aside0 (w'.heap[gb229]? = some (.cells #[.int .i64 a0_0, .string a0_1, .string a0_2, .int .i64 a0_3, .int .i64 a0_4, .int .i64 a0_5, .int .i64 a0_6, .string a0_7, (.slice A0_8 l0_8.length c0_8)] 27 (0, 0))) ∧ Aside0 (Below w.heap.size w w'))
 case atStart => exact ⟨(y230), (y233), (0), (rs_), H', ⟨Nat.le_refl _⟩, ⟨by (with_reducible repeat (first | apply Kd.N_alloc | apply Kd.N_drewN | apply Kd.N_drew)); exact Kd.N_mono HO232.out (fun _ hk => ⟨hk.1.1, ⟨hk.2, hk.1.2⟩⟩)⟩, ⟨by (with_reducible repeat (first | apply Kd.R_alloc | apply Kd.R_drewN | apply Kd.R_drew)); exact Kd.R_mono HO235.out (fun _ hk => hk.1)⟩, ⟨by (with_reducible repeat (first | apply Kd.V_alloc | apply Kd.V_drewN | apply Kd.V_drew)); exact Kd.V_mono HO0_8.out (fun _ hk => ⟨hk.1.1.1, ⟨hk.1.2, ⟨hk.2, hk.1.1.2⟩⟩⟩)⟩, ⟨bk_ BK229.out⟩, ⟨bl_⟩⟩
 case round =>
  clear H'; (try clear c1); (try clear p2); (try clear hcz4_0); (try clear hcz4_1); (try clear hcz4_2); (try clear hcz4_3); (try clear hcz4_4); (try clear hcz4_5); (try clear hcz4_6); (try clear hcz4_7); (try clear hcz4_8); (try clear hfz4_0); (try clear hfz4_1); (try clear hfz4_2); (try clear hfz4_3); (try clear hfz4_4); (try clear hfz4_5); (try clear hfz4_6); (try clear hfz4_7); (try clear hfz4_8); obtain ⟨x6_1, x7_1, x8_1, rfl, HA, HK1, HO_6, HO_7, HO_230008, BK229, HB⟩ := hrel
  cases gk with
  | zero => exact absurd HA.out (by simp [r08_Flat.l0])
  | succ k1 =>
   have H := HA.out; clear HA; simp only [r08_Flat.l0] at H
   by_cases c9 : x8_1 < (l0_8.length : Int)
   ·rw [if_pos c9] at H
    have c9b0 : decide (x8_1 < (l0_8.length : Int)) = true := decide_eq_true c9; clear c9
    by_cases c10 : 0 ≤ x8_1
    ·rw [if_pos c10] at H
     have c10b0 : decide (0 ≤ x8_1) = true := decide_eq_true c10; clear c10; replace H := Option.bind_eq_some_iff.mp H; obtain ⟨⟨t237, t240⟩, A110, H⟩ := H; replace H : (if x6_1.length + t237.length < 1256584717458 then (if x7_1.length + t240.length < 17592186044416 then (r08_Flat.l0 k1 a1 (x6_1 ++ t237) (x7_1 ++ t240) (wrap64 (x8_1 + 1)) a0_0 a0_1 a0_2 a0_3 a0_4 a0_5 a0_6 a0_7 l0_8) else (none)) else (none)) = some (r1, r2) := H; have A11 := am_ A110; clear A110
     by_cases c12 : x6_1.length + t237.length < 1256584717458
     ·rw [if_pos c12] at H
      have LMc12 := am_ c12; clear c12
      obtain ⟨y243, hy243⟩ : ∃ y_ : List (S27), y_ = (x6_1 ++ t237) := ⟨_, rfl⟩
      replace H : (if x7_1.length + t240.length < 17592186044416 then (r08_Flat.l0 k1 a1 y243 (x7_1 ++ t240) (wrap64 (x8_1 + 1)) a0_0 a0_1 a0_2 a0_3 a0_4 a0_5 a0_6 a0_7 l0_8) else (none)) = some (r1, r2) := by first | (rw [hy243]; with_reducible exact H) | (have H2_ := (Option.bind_some _ _).symm.trans H; rw [hy243]; with_reducible exact H2_) | (have H2_ := (Option.bind_some _ _).symm.trans H; with_reducible exact H2_) | with_reducible exact H | (rw [hy243]; exact H) | exact H
      have Ny243 := am_ hy243; clear hy243
      by_cases c13 : x7_1.length + t240.length < 17592186044416
      ·rw [if_pos c13] at H
       have LMc13 := am_ c13; clear c13
       obtain ⟨y246, hy246⟩ : ∃ y_ : List Int, y_ = (x7_1 ++ t240) := ⟨_, rfl⟩
       replace H : (r08_Flat.l0 k1 a1 y243 y246 (wrap64 (x8_1 + 1)) a0_0 a0_1 a0_2 a0_3 a0_4 a0_5 a0_6 a0_7 l0_8) = some (r1, r2) := by first | (rw [hy246]; with_reducible exact H) | (have H2_ := (Option.bind_some _ _).symm.trans H; rw [hy246]; with_reducible exact H2_) | (have H2_ := (Option.bind_some _ _).symm.trans H; with_reducible exact H2_) | with_reducible exact H | (rw [hy246]; exact H) | exact H
       have Ny246 := am_ hy246; clear hy246; have H' := am_ H; clear H; obtain ⟨hcz14_0, hcz14_1, hcz14_2, hcz14_3, hcz14_4, hcz14_5, hcz14_6, hcz14_7, hcz14_8, hfz14_0, hfz14_1, hfz14_2, hfz14_3, hfz14_4, hfz14_5, hfz14_6, hfz14_7, hfz14_8⟩ := bw9_ BK229.out; have p236 : 0 ≤ (x8_1 : Int) := of_decide_eq_true (as_); have q236 : x8_1 < (l0_8.length : Int) := of_decide_eq_true (as_); obtain ⟨ad236, A236_8, c236_8, e236, hx236_0, hx236_1, hx236_2, hx236_3, hx236_4, hx236_5, hx236_6, hx236_7, hx236_8, hl236_8, hi236_8⟩ := at_T27 (Kd.V_reads' HO_230008.out).2.2 x8_1 p236 q236; cases e236; obtain ⟨ce236, hce236, hMe236, hcc236⟩ := Kd.V_get HO_230008.out z27 x8_1 p236 (by first | exact q236 | exact of_decide_eq_true (as_) | (have e_ := (Kd.V_reads' HO_230008.out).1; omega)); obtain ⟨ua236_8, uc236_8, rfl, ul236_8, ge236_8⟩ := k27_openF hMe236; have hv236_8 := hcc236 8 _ rfl; rw [add_field _ _ 8 (by omega)] at hv236_8; replace hv236_8 := Option.some.inj (hv236_8.symm.trans hx236_8)
       injection hv236_8 with hva_ hvn_ hvc_
       rw [hva_] at ge236_8; rw [hvc_] at ul236_8; have HL236_8 := am_ (show Kd.V k27 27 _ w.heap.size _ _ ((rd_T27 l0_8 x8_1).f6) from Kd.V_mk ul236_8 ge236_8); clear hva_ hvn_ hvc_ ge236_8 ul236_8; clear hcc236 hce236; have HR236_8 := am_ hi236_8; have HC236_8 := am_ hl236_8; clear hi236_8 hl236_8; replace p236 := eq_true p236; replace q236 := eq_true q236
       go_wp2_with (first | ((with_reducible refine gate_callee (f := 18) rfl ?_); refine goesL_ (some 30) rfl rfl Try.func18 (by kernel_rfl) rfl #[.agg #[.int .i64 ((rd_T27 l0_8 x8_1).f0), .string ((rd_T27 l0_8 x8_1).f1), .string ((rd_T27 l0_8 x8_1).f2), .int .i64 ((rd_T27 l0_8 x8_1).f3), .int .i64 ((rd_T27 l0_8 x8_1).f4), .int .i64 ((rd_T27 l0_8 x8_1).f5.f0), .int .i64 ((rd_T27 l0_8 x8_1).f5.f1), .string ((rd_T27 l0_8 x8_1).f5.f2), .slice A236_8 ((rd_T27 l0_8 x8_1).f6).length c236_8], .int .i64 (wrap64 (a1 + 1))] rfl (by (try simp only [List.map_toArray, List.map_cons, List.map_nil]); first | done | rfl | (simp only [List.length_drop, List.length_take]; rfl)) ?_; (with_reducible refine (ih k1 (by have := HK1.out; omega) ((rd_T27 l0_8 x8_1).f0) ((rd_T27 l0_8 x8_1).f1) ((rd_T27 l0_8 x8_1).f2) ((rd_T27 l0_8 x8_1).f3) ((rd_T27 l0_8 x8_1).f4) ((rd_T27 l0_8 x8_1).f5.f0) ((rd_T27 l0_8 x8_1).f5.f1) ((rd_T27 l0_8 x8_1).f5.f2) (fun k_ => ((P0_8_ k_ ∨ w.heap.size ≤ k_) ∧ (some k_ ≠ (u6 : Value).ownBlock ∧ (some k_ ≠ (u7 : Value).ownBlock ∧ k_ ≠ gb229)))) _ _ ((rd_T27 l0_8 x8_1).f6) (wrap64 (a1 + 1)) t237 t240 _ ?side1 A11.out).mono ?_); (case side1 => exact HL236_8.out); rintro e w15 ⟨v238, v241, rfl, ho0, ho1, hb⟩; refine ⟨_, rfl, ?_⟩; have n0_ := am_ (Kd.N_mono (Kd.N_told (Kd.N_told (Kd.N_old (kn_ HO_6.out) hb) (Kd.N_base ho0)) (Kd.R_base ho1)) (fun _ h_ => h_.1)); have n1_ := am_ (Kd.R_elder' (kr_ HO_7.out) (Kd.R_base ho1) hb); have n2_ := am_ (Kd.V_mono (Kd.V_told (Kd.V_told (Kd.V_old (kv_ HO_230008.out) hb) (Kd.N_base ho0)) (Kd.R_base ho1)) (fun _ h_ => h_.1)); have n3_ := am_ (Kd.V_mono (Kd.V_told (Kd.V_told (Kd.V_old (kv_ HL236_8.out) hb) (Kd.N_base ho0)) (Kd.R_base ho1)) (fun _ h_ => h_.1)); have n4_ := am_ (Kd.N_lower (Kd.N_mono (ok' := fun k_ => (P0_8_ k_ ∨ w.heap.size ≤ k_) ∧ some k_ ≠ (v241 : Value).ownBlock ∧ some k_ ≠ (u6 : Value).ownBlock ∧ some k_ ≠ (u7 : Value).ownBlock ∧ k_ ≠ gb229) ho0 (fun k_ hk_ => ⟨Or.elim hk_.1 (fun hs_ => hs_.1) (fun hn_ => (.inr (Nat.le_trans (below_size (bl_)) hn_))), hk_.2, Or.elim hk_.1 (fun hs_ => hs_.2.1) (fun hn_ => (Kd.fresh' (Kd.N_lt (kn_ HO_6.out)) k_ hn_)), Or.elim hk_.1 (fun hs_ => hs_.2.2.1) (fun hn_ => (Kd.fresh' (Kd.R_lt (kr_ HO_7.out)) k_ hn_)), Or.elim hk_.1 (fun hs_ => hs_.2.2.2) (fun hn_ => (Kd.freshB (g := gb229) (o := .cells #[.int .i64 a0_0, .string a0_1, .string a0_2, .int .i64 a0_3, .int .i64 a0_4, .int .i64 a0_5, .int .i64 a0_6, .string a0_7, .slice (some ad236) l0_8.length c0_8] 27 (0, 0)) (bk_ BK229.out) k_ hn_))⟩)) (below_size (bl_))); have n5_ := am_ (Kd.R_lower (Kd.R_new' (Kd.R_newM (M := fun k_ => (w.heap.size ≤ k_)) (Kd.R_mono (ok' := fun k_ => True) ho1 (fun _ hk_ => trivial)) (below_size (bl_)) (fun k_ h_ => h_)) (Kd.R_lt (kr_ HO_7.out))) (below_size (bl_))); have n6_ := am_ (blk_below (bk_ BK229.out) hb); have n7_ := am_ (Kd.C_below (by repeat (first | (with_reducible exact HR236_8.out) | (with_reducible refine Kd.C_alloc ?_ _) | (with_reducible refine Kd.C_drewN ?_ _) | (with_reducible refine Kd.C_drew ?_) | exact HR236_8.out)) hb); have n8_ := am_ (below_step (bl_) hb); clear HO_6; clear HO_7; clear HO_230008; clear HL236_8; clear BK229; clear HR236_8; clear HB; have HO_6 := n0_; have HO_7 := n1_; have HO_230008 := n2_; have HL236_8 := n3_; have HO239 := n4_; have HO242 := n5_; have BK229 := n6_; have HR236_8 := n7_; have HB := n8_; clear n0_ n1_ n2_ n3_ n4_ n5_ n6_ n7_ n8_; (try clear hb); (try clear hb2); (try clear hk); (try clear hi); (try clear ho0); (try clear ho1); obtain ⟨Ao17, co17, eo17⟩ := Kd.N_slice HO239.out; subst eo17) | ((with_reducible refine gate_builtin (b := .append) (xs := #[.tmp 33, .tmp 34]) rfl ?_); at_builtin; refine Kd.N_append_rows k27 (w0 := w) w.heap.size rfl (.tmp 33) (.tmp 34) 22 27 (.agg #[(.int .i64 0), (.string ⟨#[]⟩), (.string ⟨#[]⟩), (.int .i64 0), (.int .i64 0), (.int .i64 0), (.int .i64 0), (.string ⟨#[]⟩), (.slice none 0 0)]) 112 rfl Try.underlying22 info27 rfl (by decide) (by omega) u6 x6_1 t237 _ _ _ (fun k_ => (P0_8_ k_ ∨ w.heap.size ≤ k_) ∧ some k_ ≠ (u7 : Value).ownBlock ∧ some k_ ≠ (v241 : Value).ownBlock ∧ k_ ≠ gb229) (fun k_ => ((fun k_ => (P0_8_ k_ ∨ w.heap.size ≤ k_) ∧ some k_ ≠ (u7 : Value).ownBlock ∧ some k_ ≠ (v241 : Value).ownBlock ∧ k_ ≠ gb229)) k_ ∧ some k_ ≠ (u6 : Value).ownBlock) rfl rfl ?aO ?aR (fun _ hk => hk) ?aF ?aB ?aS ?aL ?_; (case aR => exact (by skip; exact Kd.N_F (Kd.N_mono (ok' := (fun k_ => ((fun k_ => (P0_8_ k_ ∨ w.heap.size ≤ k_) ∧ some k_ ≠ (u7 : Value).ownBlock ∧ some k_ ≠ (v241 : Value).ownBlock ∧ k_ ≠ gb229)) k_ ∧ some k_ ≠ (u6 : Value).ownBlock)) (HO239.out) (fun k_ hk => ⟨⟨hk.1, ⟨hk.2.2.2.1, ⟨hk.2.1, hk.2.2.2.2⟩⟩⟩, hk.2.2.1⟩)))); (case aB => exact (bl_)); (case aF => exact (fun k_ hk => ⟨(.inr (Nat.le_trans (below_size (bl_)) hk)), Kd.fresh' (Kd.R_lt (kr_ HO_7.out)) k_ hk, Kd.fresh' (Kd.R_lt (kr_ HO242.out)) k_ hk, Kd.freshB (g := gb229) (o := .cells #[.int .i64 a0_0, .string a0_1, .string a0_2, .int .i64 a0_3, .int .i64 a0_4, .int .i64 a0_5, .int .i64 a0_6, .string a0_7, .slice (some ad236) l0_8.length c0_8] 27 (0, 0)) (bk_ BK229.out) k_ hk⟩)); (case aO => exact (by (with_reducible repeat (first | apply Kd.N_alloc | apply Kd.N_drewN | apply Kd.N_drew)); exact Kd.N_mono HO_6.out (fun _ hk => ⟨hk.1.1.1, ⟨hk.1.1.2.1, ⟨hk.2, hk.1.1.2.2⟩⟩⟩))); (case aS => exact (below_size (bl_))); (case aL => have := LMc12.out; omega); intro v244 w16 ho hb hg hat; rw [← Ny243.out] at ho; replace HO_7 := am_ (Kd.R_over' (kr_ HO_7.out) (Kd.N_typed (kn_ HO_6.out)) (by decide) hg); replace HO_230008 := am_ (Kd.V_afterv (ok := (fun k_ => (P0_8_ k_ ∨ w.heap.size ≤ k_) ∧ some k_ ≠ (u7 : Value).ownBlock ∧ some k_ ≠ (.slice Ao17 t237.length co17 : Value).ownBlock ∧ some k_ ≠ (v241 : Value).ownBlock ∧ k_ ≠ gb229)) (by (with_reducible repeat (first | apply Kd.V_alloc | apply Kd.V_drewN | apply Kd.V_drew)); exact Kd.V_mono HO_230008.out (fun _ hk => ⟨⟨hk.1.1.1, ⟨hk.1.1.2.2.1, ⟨hk.1.2, ⟨hk.2, hk.1.1.2.2.2⟩⟩⟩⟩, hk.1.1.2.1⟩)) hg hat); replace BK229 := am_ (blk_grown (g := gb229) (o := .cells #[.int .i64 a0_0, .string a0_1, .string a0_2, .int .i64 a0_3, .int .i64 a0_4, .int .i64 a0_5, .int .i64 a0_6, .string a0_7, .slice (some ad236) l0_8.length c0_8] 27 (0, 0)) (bk_ BK229.out) hg (Kd.N_away HO_6.out (fun _ hk => hk.1.1.2.2))); replace HL236_8 := am_ (Kd.V_afterv (ok := (fun k_ => (P0_8_ k_ ∨ w.heap.size ≤ k_) ∧ some k_ ≠ (u7 : Value).ownBlock ∧ some k_ ≠ (.slice Ao17 t237.length co17 : Value).ownBlock ∧ some k_ ≠ (v241 : Value).ownBlock ∧ k_ ≠ gb229)) (by (with_reducible repeat (first | apply Kd.V_alloc | apply Kd.V_drewN | apply Kd.V_drew)); exact Kd.V_mono HL236_8.out (fun _ hk => ⟨⟨hk.1.1.1, ⟨hk.1.1.2.2.1, ⟨hk.1.2, ⟨hk.2, hk.1.1.2.2.2⟩⟩⟩⟩, hk.1.1.2.1⟩)) hg hat); replace HO239 := am_ (Kd.N_afterv (ok := (fun k_ => (P0_8_ k_ ∨ w.heap.size ≤ k_) ∧ some k_ ≠ (u7 : Value).ownBlock ∧ some k_ ≠ (v241 : Value).ownBlock ∧ k_ ≠ gb229)) (by (with_reducible repeat (first | apply Kd.N_alloc | apply Kd.N_drewN | apply Kd.N_drew)); exact Kd.N_mono HO239.out (fun _ hk => ⟨⟨hk.1, ⟨hk.2.2.2.1, ⟨hk.2.1, hk.2.2.2.2⟩⟩⟩, hk.2.2.1⟩)) hg hat); replace HO242 := am_ (Kd.R_over' (kr_ HO242.out) (Kd.N_typed (kn_ HO_6.out)) (by decide) hg); have HO245 := am_ (ho); replace HB := am_ (hb); clear HO_6; clear ho hb hg hat; obtain ⟨Ao19, co19, eo19⟩ := Kd.R_slice HO242.out; subst eo19) | ((with_reducible refine gate_builtin (b := .append) (xs := #[.tmp 36, .tmp 37]) rfl ?_); at_builtin; refine Kd.R_append_rows (Kd.int .i64) (w0 := w) w.heap.size rfl (.tmp 36) (.tmp 37) 30 3 (.int .i64 0) 8 rfl Try.underlying30 info3 rfl (by decide) (by omega) u7 x7_1 t240 _ _ _ (fun k_ => (w.heap.size ≤ k_) ∧ some k_ ≠ (.slice Ao19 t240.length co19 : Value).ownBlock) (fun _ => False) rfl rfl ?aO ?aR (fun _ _ h => h) (fun _ h => h.elim) ?aF ?aB ?aS ?aL ?_; (case aR => repeat (first | exact (Kd.R_reads' HO242.out).2.2 | (with_reducible refine Kd.C_alloc ?_ _) | (with_reducible refine Kd.C_drewN ?_ _) | (with_reducible refine Kd.C_drew ?_))); (case aB => exact (bl_)); (case aF => exact (fun k_ hk => ⟨(Nat.le_trans (below_size (bl_)) hk), Kd.fresh' (Kd.R_lt (kr_ HO242.out)) k_ hk⟩)); (case aO => exact (kr_ HO_7.out)); (case aS => exact (below_size (bl_))); (case aL => have := LMc13.out; omega); intro v247 w18 ho hb hg hat; rw [← Ny246.out] at ho; replace HO_230008 := am_ (Kd.V_afterv (ok := (fun k_ => (P0_8_ k_ ∨ w.heap.size ≤ k_) ∧ some k_ ≠ (.slice Ao17 t237.length co17 : Value).ownBlock ∧ some k_ ≠ (.slice Ao19 t240.length co19 : Value).ownBlock ∧ some k_ ≠ (v244 : Value).ownBlock ∧ k_ ≠ gb229)) (by (with_reducible repeat (first | apply Kd.V_alloc | apply Kd.V_drewN | apply Kd.V_drew)); exact Kd.V_mono HO_230008.out (fun _ hk => ⟨⟨hk.1.1, ⟨hk.1.2.2.1, ⟨hk.1.2.2.2.1, ⟨hk.2, hk.1.2.2.2.2⟩⟩⟩⟩, hk.1.2.1⟩)) hg hat); replace BK229 := am_ (blk_grown (g := gb229) (o := .cells #[.int .i64 a0_0, .string a0_1, .string a0_2, .int .i64 a0_3, .int .i64 a0_4, .int .i64 a0_5, .int .i64 a0_6, .string a0_7, .slice (some ad236) l0_8.length c0_8] 27 (0, 0)) (bk_ BK229.out) hg (Kd.R_ne HO_7.out BK229.out (by decide))); replace HL236_8 := am_ (Kd.V_afterv (ok := (fun k_ => (P0_8_ k_ ∨ w.heap.size ≤ k_) ∧ some k_ ≠ (.slice Ao17 t237.length co17 : Value).ownBlock ∧ some k_ ≠ (.slice Ao19 t240.length co19 : Value).ownBlock ∧ some k_ ≠ (v244 : Value).ownBlock ∧ k_ ≠ gb229)) (by (with_reducible repeat (first | apply Kd.V_alloc | apply Kd.V_drewN | apply Kd.V_drew)); exact Kd.V_mono HL236_8.out (fun _ hk => ⟨⟨hk.1.1, ⟨hk.1.2.2.1, ⟨hk.1.2.2.2.1, ⟨hk.2, hk.1.2.2.2.2⟩⟩⟩⟩, hk.1.2.1⟩)) hg hat); replace HO239 := am_ (Kd.N_afterv (ok := (fun k_ => (P0_8_ k_ ∨ w.heap.size ≤ k_) ∧ some k_ ≠ (.slice Ao19 t240.length co19 : Value).ownBlock ∧ some k_ ≠ (v244 : Value).ownBlock ∧ k_ ≠ gb229)) (by (with_reducible repeat (first | apply Kd.N_alloc | apply Kd.N_drewN | apply Kd.N_drew)); exact Kd.N_mono HO239.out (fun _ hk => ⟨⟨hk.1.1, ⟨hk.1.2.2.1, ⟨hk.2, hk.1.2.2.2⟩⟩⟩, hk.1.2.1⟩)) hg hat); replace HO242 := am_ (Kd.R_after (ok := (fun k_ => (w.heap.size ≤ k_))) (by (with_reducible repeat (first | apply Kd.R_alloc | apply Kd.R_drewN | apply Kd.R_drew)); exact Kd.R_mono HO242.out (fun _ hk => ⟨hk.1.1, hk.2⟩)) hg hat); replace HO245 := am_ (Kd.N_afterv (ok := (fun k_ => (P0_8_ k_ ∨ w.heap.size ≤ k_) ∧ some k_ ≠ (.slice Ao19 t240.length co19 : Value).ownBlock ∧ k_ ≠ gb229)) (by (with_reducible repeat (first | apply Kd.N_alloc | apply Kd.N_drewN | apply Kd.N_drew)); exact Kd.N_mono HO245.out (fun _ hk => ⟨⟨hk.1, ⟨hk.2.2.1, hk.2.2.2⟩⟩, hk.2.1⟩)) hg hat); have HO248 := am_ (ho); replace HB := am_ (hb); clear HO_7; clear ho hb hg hat))
       go_roundg k1
       case measure => have := HK1.out; omega
       case rel => exact ⟨(y243), (y246), (wrap64 (x8_1 + 1)), (rs_), H', ⟨by have := HK1.out; omega⟩, ⟨by (with_reducible repeat (first | apply Kd.N_alloc | apply Kd.N_drewN | apply Kd.N_drew)); exact Kd.N_mono HO245.out (fun _ hk => ⟨hk.1.1, ⟨hk.2, hk.1.2.2⟩⟩)⟩, ⟨by (with_reducible repeat (first | apply Kd.R_alloc | apply Kd.R_drewN | apply Kd.R_drew)); exact Kd.R_mono HO248.out (fun _ hk => hk.1)⟩, ⟨by (with_reducible repeat (first | apply Kd.V_alloc | apply Kd.V_drewN | apply Kd.V_drew)); exact Kd.V_mono HO_230008.out (fun _ hk => ⟨hk.1.1, ⟨hk.1.2.2.2.1, ⟨hk.2, hk.1.2.2.2.2⟩⟩⟩)⟩, ⟨bk_ BK229.out⟩, ⟨bl_⟩⟩
      ·rw [if_neg c13] at H
       exact absurd H (by simp)
     ·rw [if_neg c12] at H
      exact absurd H (by simp)
    ·rw [if_neg c10] at H
     exact absurd H (by simp)
   ·rw [if_neg c9] at H
    have c9b0 : decide (x8_1 < (l0_8.length : Int)) = false := decide_eq_false c9; clear c9; simp only [Option.some.injEq, Prod.mk.injEq] at H; obtain ⟨rfl, rfl⟩ := H; obtain ⟨hcz20_0, hcz20_1, hcz20_2, hcz20_3, hcz20_4, hcz20_5, hcz20_6, hcz20_7, hcz20_8, hfz20_0, hfz20_1, hfz20_2, hfz20_3, hfz20_4, hfz20_5, hfz20_6, hfz20_7, hfz20_8⟩ := bw9_ BK229.out
    go_wp2
    go_ret2
    exact ⟨_, _, ew_, by (with_reducible repeat (first | apply Kd.N_alloc | apply Kd.N_drewN | apply Kd.N_drew)); exact Kd.N_mono HO_6.out (fun _ hk => ⟨hk.1, hk.2.1⟩), kr_ HO_7.out, bl_⟩
end Go.Proofs.Ytcfgjaggccnoaaa.PParseSmall
