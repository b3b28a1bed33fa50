import Derived.Test.YtcfgjaggccnoaaaPParseSmallx0
import Derived.Test.YtcfgjaggccnoaaaPParseSmallx1
namespace Go.Proofs.Ytcfgjaggccnoaaa.PParseSmall
open Go.RowKit Go.Proofs.YtcfgjaggccnoaaaW.PrintWords Go.Proofs.YtcfgjaggccnoaaaW.PrintLast Go.Proofs.YtcfgjaggccnoaaaW.PrintMore
attribute [local go_sem] max2_int min2_int max_two min_two max_three min_three max_four min_four
set_option linter.unusedVariables false
set_option maxHeartbeats 8000000
set_option linter.unusedSimpArgs false
set_option maxRecDepth 100000

mutual
def token_number.l0 : Nat → ByteArray → Int → Int → Int → Option (Int × ByteArray × Int × Int × Int × Int)
 | 0, _, _, _, _ => none
 | k + 1, x0, x1, x7, x8 => if x8 < (x0.size : Int) then (if 0 ≤ x8 then ((token_digit.f (bt x0 x8)).bind fun t108 => (token_number.j1 k x0 x1 x7 x8 t108)) else (none)) else (token_number.j1 k x0 x1 x7 x8 false)
def token_number.j1 : Nat → ByteArray → Int → Int → Int → Bool → Option (Int × ByteArray × Int × Int × Int × Int)
 | 0, _, _, _, _, _ => none
 | k + 1, x0, x1, x7, x8, x20 => if x20 = true then (if 0 ≤ x8 then (if x8 < (x0.size : Int) then (if x7 > ((9223372036854775807 - (((bt x0 x8) - 48) % 256)) / 10) then (some (0, (⟨#[]⟩ : ByteArray), 0, 0, x1, 1)) else (token_number.l0 k x0 x1 (wrap64 ((wrap64 (10 * x7)) + (((bt x0 x8) - 48) % 256))) (wrap64 (x8 + 1)))) else (none)) else (none)) else (if x8 < (x0.size : Int) then (if 0 ≤ x8 then ((token_letter.f (bt x0 x8)).bind fun t109 => (if t109 = true then (some (0, (⟨#[]⟩ : ByteArray), 0, 0, x1, 1)) else (if 0 ≤ x1 then (if x1 ≤ x8 then (if x8 ≤ (x0.size : Int) then (some (3, x0.extract (x1 : Int).toNat (x8 : Int).toNat, x7, x1, x8, 0)) else (none)) else (none)) else (none)))) else (none)) else (if 0 ≤ x1 then (if x1 ≤ x8 then (if x8 ≤ (x0.size : Int) then (some (3, x0.extract (x1 : Int).toNat (x8 : Int).toNat, x7, x1, x8, 0)) else (none)) else (none)) else (none)))
end
def token_number.f (k : Nat) (a0 : ByteArray) (a1 : Int) : Option (Int × ByteArray × Int × Int × Int × Int) := token_number.l0 k a0 a1 0 a1
theorem token_number.mono_l : ∀ k, (∀ y0 y1 y2 y3, LeO (token_number.l0 k y0 y1 y2 y3) (token_number.l0 (k + 1) y0 y1 y2 y3)) ∧ (∀ y0 y1 y2 y3 y4, LeO (token_number.j1 k y0 y1 y2 y3 y4) (token_number.j1 (k + 1) y0 y1 y2 y3 y4))
 | 0 => ⟨fun _ _ _ _ r h => by simp [token_number.l0] at h, fun _ _ _ _ _ r h => by simp [token_number.j1] at h⟩
 | k + 1 => by
  obtain ⟨ih0, ih1⟩ := token_number.mono_l k; refine ⟨?_, ?_⟩
  ·intro y0 y1 y2 y3
   unfold token_number.l0
   repeat' first
   | (with_reducible exact ih0 _ _ _ _)
   | (with_reducible exact ih1 _ _ _ _ _)
   | (with_reducible exact LeO.refl _)
   | (with_reducible exact LeO.none _)
   | (with_reducible refine LeO.ite ?_ ?_)
   | (with_reducible refine LeO.bind ?_ (fun _ => ?_))
   | exact ih0 _ _ _ _
   | exact ih1 _ _ _ _ _
   | exact LeO.none _
   | refine LeO.ite ?_ ?_
   | refine LeO.bind ?_ (fun _ => ?_)
  ·intro y0 y1 y2 y3 y4
   unfold token_number.j1
   repeat' first
   | (with_reducible exact ih0 _ _ _ _)
   | (with_reducible exact ih1 _ _ _ _ _)
   | (with_reducible exact LeO.refl _)
   | (with_reducible exact LeO.none _)
   | (with_reducible refine LeO.ite ?_ ?_)
   | (with_reducible refine LeO.bind ?_ (fun _ => ?_))
   | exact ih0 _ _ _ _
   | exact ih1 _ _ _ _ _
   | exact LeO.none _
   | refine LeO.ite ?_ ?_
   | refine LeO.bind ?_ (fun _ => ?_)
theorem token_number.mono : ∀ a0 a1 k, LeO (token_number.f k a0 a1) (token_number.f (k + 1) a0 a1) := by
 intro a0 a1 k; obtain ⟨ih0, ih1⟩ := token_number.mono_l k; unfold token_number.f
 repeat' first
   | (with_reducible exact ih0 _ _ _ _)
   | (with_reducible exact ih1 _ _ _ _ _)
   | (with_reducible exact LeO.refl _)
   | (with_reducible exact LeO.none _)
   | (with_reducible refine LeO.ite ?_ ?_)
   | (with_reducible refine LeO.bind ?_ (fun _ => ?_))
   | exact ih0 _ _ _ _
   | exact ih1 _ _ _ _ _
   | exact LeO.none _
   | refine LeO.ite ?_ ?_
   | refine LeO.bind ?_ (fun _ => ?_)
theorem token_number.calls (k : Nat) (a0 : ByteArray) (a1 : Int) (r1 : Int) (r2 : ByteArray) (r3 : Int) (r4 : Int) (r5 : Int) (r6 : Int) (w : World) (h : token_number.f k a0 a1 = some (r1, r2, r3, r4, r5, r6)) :
  Calls Try.prog 146 #[.string a0, .int .i64 a1] w fun e w' => e = .returned (.tuple #[.agg #[.int .i64 r1, .string r2, .int .i64 r3, .int .i64 r4], .int .i64 r5, .int .i64 r6]) ∧ Below w.heap.size w w' := by
 have hu91 := Try.underlying91; have HB := am_ (Below.refl w.heap.size w); have H : (token_number.l0 k a0 a1 0 a1) = some (r1, r2, r3, r4, r5, r6) := h; clear h; have H' := am_ H; clear H
 go_enter Try.func146, Try.ntmps146
 go_wp2_with (first | ((with_reducible refine gate_dst (N := 4) rfl ?_); refine box_event ?hg (N := 4) ?hd (cs := #[.int .i64 0, .string (⟨#[]⟩ : ByteArray), .int .i64 0, .int .i64 0]) (t := 91) ?hr ?_; (case hd => rfl); (case hg => rfl); (case hr => first | (go_simp; done) | (go_simp; rfl)); intro gb107 hg w3 hbox hb; have BK107 := am_ (hbox); have GW107 := am_ ((by rw [hg]; exact (below_size (bl_)) : w.heap.size ≤ gb107)); have GE107 := am_ ((by rw [hg]; exact (below_size (bl_)) : w.heap.size ≤ gb107)); replace HB := am_ (below_step (bl_) hb); clear hb hbox hg))
 go_loopg [7, 8] k (fun kq v7 v8 w' => ∃ (x7_1 : Int) (x8_1 : Int) (x108000_1 : Int) (x108001_1 : ByteArray) (x108002_1 : Int) (x108003_1 : Int), v7 = .int .i64 x7_1 ∧ v8 = .int .i64 x8_1 ∧ Aside0 (token_number.l0 kq a0 a1 x7_1 x8_1 = some (r1, r2, r3, r4, r5, r6)) ∧ Aside0 (kq ≤ k) ∧ Aside0 (w'.heap[gb107]? = some (.cells #[.int .i64 x108000_1, .string x108001_1, .int .i64 x108002_1, .int .i64 x108003_1] 91 (0, 0))) ∧ Aside0 (Below w.heap.size w w'))
 case atStart => exact ⟨(0), (a1), (0), ((⟨#[]⟩ : ByteArray)), (0), (0), (rs_), (rs_), H', ⟨Nat.le_refl _⟩, ⟨bk_ BK107.out⟩, ⟨bl_⟩⟩
 case round =>
  clear H'; (try clear c1); (try clear p2); obtain ⟨x7_1, x8_1, x108000_1, x108001_1, x108002_1, x108003_1, rfl, rfl, HA, HK1, BK107, HB⟩ := hrel
  cases gk with
  | zero => exact absurd HA.out (by simp [token_number.l0])
  | succ k1 =>
   have H := HA.out; clear HA; simp only [token_number.l0] at H; have HC4 := am_ H; clear H
   go_upto_region 2 with (fail)
   go_cut [20] (fun v20 wc => ∃ (kq : Nat) (x20_3 : Bool), v20 = .bool x20_3 ∧ Aside0 (token_number.j1 kq a0 a1 x7_1 x8_1 x20_3 = some (r1, r2, r3, r4, r5, r6)) ∧ Aside0 (kq ≤ k1) ∧ Aside0 (wc.heap[gb107]? = some (.cells #[.int .i64 x108000_1, .string x108001_1, .int .i64 x108002_1, .int .i64 x108003_1] 91 (0, 0))) ∧ Aside0 (Below w.heap.size w wc))
   case first =>
    have H := HC4.out; clear HC4
    by_cases c5 : x8_1 < (a0.size : Int)
    ·rw [if_pos c5] at H
     have c5b0 : decide (x8_1 < (a0.size : Int)) = true := decide_eq_true c5; clear c5; (first | rw [c5b0] | (simp only [i64_w, i32_w]; rw [c5b0]) | skip)
     by_cases c6 : 0 ≤ x8_1
     ·rw [if_pos c6] at H
      have c6b0 : decide (0 ≤ x8_1) = true := decide_eq_true c6; clear c6; replace H := Option.bind_eq_some_iff.mp H; obtain ⟨t108, A80, H⟩ := H; replace H : (token_number.j1 k1 a0 a1 x7_1 x8_1 t108) = some (r1, r2, r3, r4, r5, r6) := H; have A8 := am_ A80; clear A80; have H' := am_ H; clear H; have p7 : 0 ≤ (x8_1 : Int) := of_decide_eq_true (as_); have q7 : x8_1 < (a0.size : Int) := of_decide_eq_true (as_); have hx7 := bt_at a0 x8_1; replace p7 := eq_true p7; replace q7 := eq_true q7
      go_wp2_with (first | (go_at_call 145; (with_reducible refine (token_digit.calls (bt a0 x8_1) t108 _ A8.out).mono ?_); rintro e w' ⟨rfl, ⟨nd, rfl⟩⟩))
      go_meet
      case rel => exact ⟨_, (t108), (rs_), H', ⟨by have := HK1.out; first | omega | exact Nat.le_refl _⟩, ⟨bk_ BK107.out⟩, ⟨bl_⟩⟩
     ·rw [if_neg c6] at H
      exact absurd H (by simp)
    ·rw [if_neg c5] at H
     have c5b0 : decide (x8_1 < (a0.size : Int)) = false := decide_eq_false c5; clear c5; (first | rw [c5b0] | (simp only [i64_w, i32_w]; rw [c5b0]) | skip); have H' := am_ H; clear H
     go_wp2
     go_meet
     case rel => exact ⟨_, (false), (rs_), H', ⟨by have := HK1.out; first | omega | exact Nat.le_refl _⟩, ⟨bk_ BK107.out⟩, ⟨bl_⟩⟩
   case rest =>
    clear HC4; (try clear c1); (try clear p2); (try clear c5); (try clear c5b0); (try clear c6); (try clear c6b0); (try clear p7); (try clear q7); (try clear hx7); (try clear p2); (try clear p7); (try clear q7); obtain ⟨kq, x20_3, rfl, HA, HJ3, BK107, HB⟩ := hcut
    cases kq with
    | zero => exact absurd HA.out (by simp [token_number.j1])
    | succ kj3 =>
     have H := HA.out; clear HA; simp only [token_number.j1] at H
     by_cases c9 : x20_3 = true
     ·subst c9
      have H1 : (if 0 ≤ x8_1 then (if x8_1 < (a0.size : Int) then (if x7_1 > ((9223372036854775807 - (((bt a0 x8_1) - 48) % 256)) / 10) then (some (0, (⟨#[]⟩ : ByteArray), 0, 0, a1, 1)) else (token_number.l0 kj3 a0 a1 (wrap64 ((wrap64 (10 * x7_1)) + (((bt a0 x8_1) - 48) % 256))) (wrap64 (x8_1 + 1)))) else (none)) else (none)) = some (r1, r2, r3, r4, r5, r6) := by rw [if_pos rfl] at H; exact H
      clear H; have H := H1; clear H1
      by_cases c10 : 0 ≤ x8_1
      ·rw [if_pos c10] at H
       have c10b0 : decide (0 ≤ x8_1) = true := decide_eq_true c10; clear c10
       by_cases c11 : x8_1 < (a0.size : Int)
       ·rw [if_pos c11] at H
        have c11b0 : decide (x8_1 < (a0.size : Int)) = true := decide_eq_true c11; clear c11
        by_cases c13 : x7_1 > ((9223372036854775807 - (((bt a0 x8_1) - 48) % 256)) / 10)
        ·rw [if_pos c13] at H
         have c13b0 : decide (((9223372036854775807 - (((bt a0 x8_1) - 48) % 256)) / 10) < x7_1) = true := decide_eq_true c13; clear c13; simp only [Option.some.injEq, Prod.mk.injEq] at H; obtain ⟨rfl, rfl, rfl, rfl, rfl, rfl⟩ := H; have p12 : 0 ≤ (x8_1 : Int) := of_decide_eq_true (as_); have q12 : x8_1 < (a0.size : Int) := of_decide_eq_true (as_); have hx12 := bt_at a0 x8_1; replace p12 := eq_true p12; replace q12 := eq_true q12; obtain ⟨hcz14_0, hcz14_1, hcz14_2, hcz14_3, hfz14_0, hfz14_1, hfz14_2, hfz14_3⟩ := bw4_ BK107.out
         go_wp2
         refine bodyPost_ret (results_ctt rfl _ _ gb107 91 #[.int .i64 0, .string (⟨#[]⟩ : ByteArray), .int .i64 0, .int .i64 0] (0, 0) _ rfl (by refine bp_ ?_; refine blk_put (cs := #[.int .i64 0, .string (⟨#[]⟩ : ByteArray), .int .i64 0, .int .i64 x108003_1]) ?_ 3 _ rfl; refine bp_ ?_; refine blk_put (cs := #[.int .i64 0, .string (⟨#[]⟩ : ByteArray), .int .i64 x108002_1, .int .i64 x108003_1]) ?_ 2 _ rfl; refine bp_ ?_; refine blk_put (cs := #[.int .i64 0, .string x108001_1, .int .i64 x108002_1, .int .i64 x108003_1]) ?_ 1 _ rfl; refine bp_ ?_; refine blk_put (cs := #[.int .i64 x108000_1, .string x108001_1, .int .i64 x108002_1, .int .i64 x108003_1]) ?_ 0 _ rfl; refine bp_ ?_; exact BK107.out) Try.underlying91 rfl (by kernel_rfl)) rfl ?_; exact ⟨ew_, bl_⟩
        ·rw [if_neg c13] at H
         have c13b0 : decide (((9223372036854775807 - (((bt a0 x8_1) - 48) % 256)) / 10) < x7_1) = false := decide_eq_false c13; clear c13; have H' := am_ H; clear H; have p12 : 0 ≤ (x8_1 : Int) := of_decide_eq_true (as_); have q12 : x8_1 < (a0.size : Int) := of_decide_eq_true (as_); have hx12 := bt_at a0 x8_1; replace p12 := eq_true p12; replace q12 := eq_true q12
         go_wp2
         go_roundg kj3
         case measure => have := HK1.out; have := HJ3.out; omega
         case rel => exact ⟨(wrap64 ((wrap64 (10 * x7_1)) + (((bt a0 x8_1) - 48) % 256))), (wrap64 (x8_1 + 1)), (x108000_1), (x108001_1), (x108002_1), (x108003_1), (rs_), (rs_), H', ⟨by have := HK1.out; have := HJ3.out; omega⟩, ⟨bk_ BK107.out⟩, ⟨bl_⟩⟩
       ·rw [if_neg c11] at H
        exact absurd H (by simp)
      ·rw [if_neg c10] at H
       exact absurd H (by simp)
     ·replace c9 := Bool.eq_false_iff.mpr c9
      subst c9
      have H1 : (if x8_1 < (a0.size : Int) then (if 0 ≤ x8_1 then ((token_letter.f (bt a0 x8_1)).bind fun t109 => (if t109 = true then (some (0, (⟨#[]⟩ : ByteArray), 0, 0, a1, 1)) else (if 0 ≤ a1 then (if a1 ≤ x8_1 then (if x8_1 ≤ (a0.size : Int) then (some (3, a0.extract (a1 : Int).toNat (x8_1 : Int).toNat, x7_1, a1, x8_1, 0)) else (none)) else (none)) else (none)))) else (none)) else (if 0 ≤ a1 then (if a1 ≤ x8_1 then (if x8_1 ≤ (a0.size : Int) then (some (3, a0.extract (a1 : Int).toNat (x8_1 : Int).toNat, x7_1, a1, x8_1, 0)) else (none)) else (none)) else (none))) = some (r1, r2, r3, r4, r5, r6) := by rw [if_neg (show ¬ (false = true) by decide)] at H; exact H
      clear H; have H := H1; clear H1
      by_cases c15 : x8_1 < (a0.size : Int)
      ·rw [if_pos c15] at H
       have c15b0 : decide (x8_1 < (a0.size : Int)) = true := decide_eq_true c15; clear c15
       by_cases c16 : 0 ≤ x8_1
       ·rw [if_pos c16] at H
        have c16b0 : decide (0 ≤ x8_1) = true := decide_eq_true c16; clear c16; replace H := Option.bind_eq_some_iff.mp H; obtain ⟨t109, A180, H⟩ := H; replace H : (if t109 = true then (some (0, (⟨#[]⟩ : ByteArray), 0, 0, a1, 1)) else (if 0 ≤ a1 then (if a1 ≤ x8_1 then (if x8_1 ≤ (a0.size : Int) then (some (3, a0.extract (a1 : Int).toNat (x8_1 : Int).toNat, x7_1, a1, x8_1, 0)) else (none)) else (none)) else (none))) = some (r1, r2, r3, r4, r5, r6) := H; have A18 := am_ A180; clear A180
        by_cases c19 : t109 = true
        ·subst c19
         have H1 : (some (0, (⟨#[]⟩ : ByteArray), 0, 0, a1, 1)) = some (r1, r2, r3, r4, r5, r6) := by rw [if_pos rfl] at H; exact H
         clear H; have H := H1; clear H1; simp only [Option.some.injEq, Prod.mk.injEq] at H; obtain ⟨rfl, rfl, rfl, rfl, rfl, rfl⟩ := H; have p17 : 0 ≤ (x8_1 : Int) := of_decide_eq_true (as_); have q17 : x8_1 < (a0.size : Int) := of_decide_eq_true (as_); have hx17 := bt_at a0 x8_1; replace p17 := eq_true p17; replace q17 := eq_true q17
         go_wp2_with (first | (go_at_call 143; (with_reducible refine (token_letter.calls (bt a0 x8_1) true _ A18.out).mono ?_); rintro e w' ⟨rfl, ⟨nd, rfl⟩⟩; (try (rw [drewN_self wc]; generalize hq_ : World.drewN wc _ = wc; have n0_ : Aside0 (wc.heap[gb107]? = some (.cells #[.int .i64 x108000_1, .string x108001_1, .int .i64 x108002_1, .int .i64 x108003_1] 91 (0, 0))) := ⟨by rw [← hq_]; exact (bk_ BK107.out)⟩; have n1_ : Aside0 (Below w.heap.size w wc) := ⟨by rw [← hq_]; exact (bl_)⟩; clear BK107 HB hq_; have BK107 := n0_; have HB := n1_; clear n0_ n1_)); obtain ⟨hcz20_0, hcz20_1, hcz20_2, hcz20_3, hfz20_0, hfz20_1, hfz20_2, hfz20_3⟩ := bw4_ BK107.out))
         refine bodyPost_ret (results_ctt rfl _ _ gb107 91 #[.int .i64 0, .string (⟨#[]⟩ : ByteArray), .int .i64 0, .int .i64 0] (0, 0) _ rfl (by refine bp_ ?_; refine blk_put (cs := #[.int .i64 0, .string (⟨#[]⟩ : ByteArray), .int .i64 0, .int .i64 x108003_1]) ?_ 3 _ rfl; refine bp_ ?_; refine blk_put (cs := #[.int .i64 0, .string (⟨#[]⟩ : ByteArray), .int .i64 x108002_1, .int .i64 x108003_1]) ?_ 2 _ rfl; refine bp_ ?_; refine blk_put (cs := #[.int .i64 0, .string x108001_1, .int .i64 x108002_1, .int .i64 x108003_1]) ?_ 1 _ rfl; refine bp_ ?_; refine blk_put (cs := #[.int .i64 x108000_1, .string x108001_1, .int .i64 x108002_1, .int .i64 x108003_1]) ?_ 0 _ rfl; refine bp_ ?_; exact BK107.out) Try.underlying91 rfl (by kernel_rfl)) rfl ?_; exact ⟨ew_, bl_⟩
        ·replace c19 := Bool.eq_false_iff.mpr c19
         subst c19
         have H1 : (if 0 ≤ a1 then (if a1 ≤ x8_1 then (if x8_1 ≤ (a0.size : Int) then (some (3, a0.extract (a1 : Int).toNat (x8_1 : Int).toNat, x7_1, a1, x8_1, 0)) else (none)) else (none)) else (none)) = some (r1, r2, r3, r4, r5, r6) := by rw [if_neg (show ¬ (false = true) by decide)] at H; exact H
         clear H; have H := H1; clear H1
         by_cases c21 : 0 ≤ a1
         ·rw [if_pos c21] at H
          have c21b0 := eq_true c21; have c21b1 : decide (0 ≤ a1) = true := decide_eq_true c21; clear c21
          by_cases c22 : a1 ≤ x8_1
          ·rw [if_pos c22] at H
           have c22b0 := eq_true c22; have c22b1 : decide (a1 ≤ x8_1) = true := decide_eq_true c22; clear c22
           by_cases c23 : x8_1 ≤ (a0.size : Int)
           ·rw [if_pos c23] at H
            have c23b0 := eq_true c23; have c23b1 : decide (x8_1 ≤ (a0.size : Int)) = true := decide_eq_true c23; clear c23; simp only [Option.some.injEq, Prod.mk.injEq] at H; obtain ⟨rfl, rfl, rfl, rfl, rfl, rfl⟩ := H; have p17 : 0 ≤ (x8_1 : Int) := of_decide_eq_true (as_); have q17 : x8_1 < (a0.size : Int) := of_decide_eq_true (as_); have hx17 := bt_at a0 x8_1; replace p17 := eq_true p17; replace q17 := eq_true q17
            go_wp2_with (first | (go_at_call 143; (with_reducible refine (token_letter.calls (bt a0 x8_1) false _ A18.out).mono ?_); rintro e w' ⟨rfl, ⟨nd, rfl⟩⟩; (try (rw [drewN_self wc]; generalize hq_ : World.drewN wc _ = wc; have n0_ : Aside0 (wc.heap[gb107]? = some (.cells #[.int .i64 x108000_1, .string x108001_1, .int .i64 x108002_1, .int .i64 x108003_1] 91 (0, 0))) := ⟨by rw [← hq_]; exact (bk_ BK107.out)⟩; have n1_ : Aside0 (Below w.heap.size w wc) := ⟨by rw [← hq_]; exact (bl_)⟩; clear BK107 HB hq_; have BK107 := n0_; have HB := n1_; clear n0_ n1_)); obtain ⟨hcz24_0, hcz24_1, hcz24_2, hcz24_3, hfz24_0, hfz24_1, hfz24_2, hfz24_3⟩ := bw4_ BK107.out))
            refine bodyPost_ret (results_ctt rfl _ _ gb107 91 #[.int .i64 3, .string (a0.extract (a1 : Int).toNat (x8_1 : Int).toNat), .int .i64 x7_1, .int .i64 a1] (0, 0) _ rfl (by refine bp_ ?_; refine blk_put (cs := #[.int .i64 3, .string (a0.extract (a1 : Int).toNat (x8_1 : Int).toNat), .int .i64 x7_1, .int .i64 x108003_1]) ?_ 3 _ rfl; refine bp_ ?_; refine blk_put (cs := #[.int .i64 3, .string (a0.extract (a1 : Int).toNat (x8_1 : Int).toNat), .int .i64 x108002_1, .int .i64 x108003_1]) ?_ 2 _ rfl; refine bp_ ?_; refine blk_put (cs := #[.int .i64 3, .string x108001_1, .int .i64 x108002_1, .int .i64 x108003_1]) ?_ 1 _ rfl; refine bp_ ?_; refine blk_put (cs := #[.int .i64 x108000_1, .string x108001_1, .int .i64 x108002_1, .int .i64 x108003_1]) ?_ 0 _ rfl; refine bp_ ?_; exact BK107.out) Try.underlying91 rfl (by kernel_rfl)) rfl ?_; exact ⟨ew_, bl_⟩
           ·rw [if_neg c23] at H
            exact absurd H (by simp)
          ·rw [if_neg c22] at H
           exact absurd H (by simp)
         ·rw [if_neg c21] at H
          exact absurd H (by simp)
       ·rw [if_neg c16] at H
        exact absurd H (by simp)
      ·rw [if_neg c15] at H
       have c15b0 : decide (x8_1 < (a0.size : Int)) = false := decide_eq_false c15; clear c15
       by_cases c25 : 0 ≤ a1
       ·rw [if_pos c25] at H
        have c25b0 := eq_true c25; have c25b1 : decide (0 ≤ a1) = true := decide_eq_true c25; clear c25
        by_cases c26 : a1 ≤ x8_1
        ·rw [if_pos c26] at H
         have c26b0 := eq_true c26; have c26b1 : decide (a1 ≤ x8_1) = true := decide_eq_true c26; clear c26
         by_cases c27 : x8_1 ≤ (a0.size : Int)
         ·rw [if_pos c27] at H
          have c27b0 := eq_true c27; have c27b1 : decide (x8_1 ≤ (a0.size : Int)) = true := decide_eq_true c27; clear c27; simp only [Option.some.injEq, Prod.mk.injEq] at H; obtain ⟨rfl, rfl, rfl, rfl, rfl, rfl⟩ := H; obtain ⟨hcz28_0, hcz28_1, hcz28_2, hcz28_3, hfz28_0, hfz28_1, hfz28_2, hfz28_3⟩ := bw4_ BK107.out
          go_wp2
          refine bodyPost_ret (results_ctt rfl _ _ gb107 91 #[.int .i64 3, .string (a0.extract (a1 : Int).toNat (x8_1 : Int).toNat), .int .i64 x7_1, .int .i64 a1] (0, 0) _ rfl (by refine bp_ ?_; refine blk_put (cs := #[.int .i64 3, .string (a0.extract (a1 : Int).toNat (x8_1 : Int).toNat), .int .i64 x7_1, .int .i64 x108003_1]) ?_ 3 _ rfl; refine bp_ ?_; refine blk_put (cs := #[.int .i64 3, .string (a0.extract (a1 : Int).toNat (x8_1 : Int).toNat), .int .i64 x108002_1, .int .i64 x108003_1]) ?_ 2 _ rfl; refine bp_ ?_; refine blk_put (cs := #[.int .i64 3, .string x108001_1, .int .i64 x108002_1, .int .i64 x108003_1]) ?_ 1 _ rfl; refine bp_ ?_; refine blk_put (cs := #[.int .i64 x108000_1, .string x108001_1, .int .i64 x108002_1, .int .i64 x108003_1]) ?_ 0 _ rfl; refine bp_ ?_; exact BK107.out) Try.underlying91 rfl (by kernel_rfl)) rfl ?_; exact ⟨ew_, bl_⟩
         ·rw [if_neg c27] at H
          exact absurd H (by simp)
        ·rw [if_neg c26] at H
         exact absurd H (by simp)
       ·rw [if_neg c25] at H
        exact absurd H (by simp)

mutual
def token_text.l0 : Nat → ByteArray → Int → List Int → Int → Option (Int × ByteArray × Int × Int × Int × Int)
 | 0, _, _, _, _ => none
 | k + 1, x0, x1, x7, x8 => if x8 < (x0.size : Int) then (if 0 ≤ x8 then (if (bt x0 x8) = 39 then (if (wrap64 (x8 + 1)) < (x0.size : Int) then (if 0 ≤ (wrap64 (x8 + 1)) then (token_text.j1 k x0 x1 x7 x8 ((bt x0 (wrap64 (x8 + 1))) == 39)) else (none)) else (token_text.j1 k x0 x1 x7 x8 false)) else (if x7.length < 140737488355328 then (token_text.l0 k x0 x1 (x7 ++ [bt x0 x8]) (wrap64 (x8 + 1))) else (none))) else (none)) else (some (0, (⟨#[]⟩ : ByteArray), 0, 0, x1, 1))
def token_text.j1 : Nat → ByteArray → Int → List Int → Int → Bool → Option (Int × ByteArray × Int × Int × Int × Int)
 | 0, _, _, _, _, _ => none
 | k + 1, x0, x1, x7, x8, x38 => if x38 = true then (if x7.length < 140737488355328 then (token_text.l0 k x0 x1 (x7 ++ [39]) (wrap64 ((wrap64 (x8 + 1)) + 1))) else (none)) else (if (x7.length : Int) > 65536 then (some (0, (⟨#[]⟩ : ByteArray), 0, 0, x1, 4)) else (some (4, strOfNums x7, 0, x1, wrap64 (x8 + 1), 0)))
end
def token_text.f (k : Nat) (a0 : ByteArray) (a1 : Int) : Option (Int × ByteArray × Int × Int × Int × Int) := token_text.l0 k a0 a1 ([] : List Int) (wrap64 (a1 + 1))
theorem token_text.mono_l : ∀ k, (∀ y0 y1 y2 y3, LeO (token_text.l0 k y0 y1 y2 y3) (token_text.l0 (k + 1) y0 y1 y2 y3)) ∧ (∀ y0 y1 y2 y3 y4, LeO (token_text.j1 k y0 y1 y2 y3 y4) (token_text.j1 (k + 1) y0 y1 y2 y3 y4))
 | 0 => ⟨fun _ _ _ _ r h => by simp [token_text.l0] at h, fun _ _ _ _ _ r h => by simp [token_text.j1] at h⟩
 | k + 1 => by
  obtain ⟨ih0, ih1⟩ := token_text.mono_l k; refine ⟨?_, ?_⟩
  ·intro y0 y1 y2 y3
   unfold token_text.l0
   repeat' first
   | (with_reducible exact ih0 _ _ _ _)
   | (with_reducible exact ih1 _ _ _ _ _)
   | (with_reducible exact LeO.refl _)
   | (with_reducible exact LeO.none _)
   | (with_reducible refine LeO.ite ?_ ?_)
   | (with_reducible refine LeO.bind ?_ (fun _ => ?_))
   | exact ih0 _ _ _ _
   | exact ih1 _ _ _ _ _
   | exact LeO.none _
   | refine LeO.ite ?_ ?_
   | refine LeO.bind ?_ (fun _ => ?_)
  ·intro y0 y1 y2 y3 y4
   unfold token_text.j1
   repeat' first
   | (with_reducible exact ih0 _ _ _ _)
   | (with_reducible exact ih1 _ _ _ _ _)
   | (with_reducible exact LeO.refl _)
   | (with_reducible exact LeO.none _)
   | (with_reducible refine LeO.ite ?_ ?_)
   | (with_reducible refine LeO.bind ?_ (fun _ => ?_))
   | exact ih0 _ _ _ _
   | exact ih1 _ _ _ _ _
   | exact LeO.none _
   | refine LeO.ite ?_ ?_
   | refine LeO.bind ?_ (fun _ => ?_)
theorem token_text.mono : ∀ a0 a1 k, LeO (token_text.f k a0 a1) (token_text.f (k + 1) a0 a1) := by
 intro a0 a1 k; obtain ⟨ih0, ih1⟩ := token_text.mono_l k; unfold token_text.f
 repeat' first
   | (with_reducible exact ih0 _ _ _ _)
   | (with_reducible exact ih1 _ _ _ _ _)
   | (with_reducible exact LeO.refl _)
   | (with_reducible exact LeO.none _)
   | (with_reducible refine LeO.ite ?_ ?_)
   | (with_reducible refine LeO.bind ?_ (fun _ => ?_))
   | exact ih0 _ _ _ _
   | exact ih1 _ _ _ _ _
   | exact LeO.none _
   | refine LeO.ite ?_ ?_
   | refine LeO.bind ?_ (fun _ => ?_)
theorem token_text.calls (k : Nat) (a0 : ByteArray) (a1 : Int) (r1 : Int) (r2 : ByteArray) (r3 : Int) (r4 : Int) (r5 : Int) (r6 : Int) (w : World) (h : token_text.f k a0 a1 = some (r1, r2, r3, r4, r5, r6)) :
  Calls Try.prog 147 #[.string a0, .int .i64 a1] w fun e w' => e = .returned (.tuple #[.agg #[.int .i64 r1, .string r2, .int .i64 r3, .int .i64 r4], .int .i64 r5, .int .i64 r6]) ∧ Below w.heap.size w w' := by
 have hu91 := Try.underlying91; have HB := am_ (Below.refl w.heap.size w); have H : (token_text.l0 k a0 a1 ([] : List Int) (wrap64 (a1 + 1))) = some (r1, r2, r3, r4, r5, r6) := h; clear h; have H' := am_ H; clear H
 go_enter Try.func147, Try.ntmps147
 go_wp2_with (first | ((with_reducible refine gate_dst (N := 4) rfl ?_); refine box_event ?hg (N := 4) ?hd (cs := #[.int .i64 0, .string (⟨#[]⟩ : ByteArray), .int .i64 0, .int .i64 0]) (t := 91) ?hr ?_; (case hd => rfl); (case hg => rfl); (case hr => first | (go_simp; done) | (go_simp; rfl)); intro gb110 hg w3 hbox hb; have BK110 := am_ (hbox); have GW110 := am_ ((by rw [hg]; exact (below_size (bl_)) : w.heap.size ≤ gb110)); have GE110 := am_ ((by rw [hg]; exact (below_size (bl_)) : w.heap.size ≤ gb110)); replace HB := am_ (below_step (bl_) hb); clear hb hbox hg))
 go_loopg [7, 8] k (fun kq v7 v8 w' => ∃ (x7_1 : List Int) (x8_1 : Int) (x111000_1 : Int) (x111001_1 : ByteArray) (x111002_1 : Int) (x111003_1 : Int), v8 = .int .i64 x8_1 ∧ Aside0 (token_text.l0 kq a0 a1 x7_1 x8_1 = some (r1, r2, r3, r4, r5, r6)) ∧ Aside0 (kq ≤ k) ∧ Aside0 (Kd.R (Kd.int .u8) 5 w' w.heap.size (fun _ => True) v7 x7_1) ∧ Aside0 (w'.heap[gb110]? = some (.cells #[.int .i64 x111000_1, .string x111001_1, .int .i64 x111002_1, .int .i64 x111003_1] 91 (0, 0))) ∧ Aside0 (Below w.heap.size w w'))
 case atStart => exact ⟨(([] : List Int)), (wrap64 (a1 + 1)), (0), ((⟨#[]⟩ : ByteArray)), (0), (0), (rs_), H', ⟨Nat.le_refl _⟩, ⟨by first | exact Kd.R_nil _ _ _ _ _ | exact Kd.N_nil _ _ _ _ _ | exact Kd.V_nil _ _ _ _ _ | exact Kd.Q_nil _ _ _ _ _ | exact Kd.S_nil _ _ _ _ _⟩, ⟨bk_ BK110.out⟩, ⟨bl_⟩⟩
 case round =>
  clear H'; (try clear c1); (try clear p2); obtain ⟨x7_1, x8_1, x111000_1, x111001_1, x111002_1, x111003_1, rfl, HA, HK1, HO_7, BK110, HB⟩ := hrel
  cases gk with
  | zero => exact absurd HA.out (by simp [token_text.l0])
  | succ k1 =>
   have H := HA.out; clear HA; simp only [token_text.l0] at H
   by_cases c4 : x8_1 < (a0.size : Int)
   ·rw [if_pos c4] at H
    have c4b0 : decide (x8_1 < (a0.size : Int)) = true := decide_eq_true c4; clear c4
    by_cases c5 : 0 ≤ x8_1
    ·rw [if_pos c5] at H
     have c5b0 : decide (0 ≤ x8_1) = true := decide_eq_true c5; clear c5
     by_cases c7 : (bt a0 x8_1) = 39
     ·rw [if_pos c7] at H
      have c7b0 : ((bt a0 x8_1) == 39) = true := beq_iff_eq.mpr c7; have c7b1 : ((bt a0 x8_1) != 39) = false := bne_eq_false_iff_eq.mpr c7; clear c7; have HC8 := am_ H; clear H; have p6 : 0 ≤ (x8_1 : Int) := of_decide_eq_true (as_); have q6 : x8_1 < (a0.size : Int) := of_decide_eq_true (as_); have hx6 := bt_at a0 x8_1; replace p6 := eq_true p6; replace q6 := eq_true q6
      go_upto_region 7 with (fail)
      go_cut [38] (fun v38 wc => ∃ (kq : Nat) (x38_7 : Bool), v38 = .bool x38_7 ∧ Aside0 (token_text.j1 kq a0 a1 x7_1 x8_1 x38_7 = some (r1, r2, r3, r4, r5, r6)) ∧ Aside0 (kq ≤ k1) ∧ Aside0 (Kd.R (Kd.int .u8) 5 wc w.heap.size (fun _ => True) u7 x7_1) ∧ Aside0 (wc.heap[gb110]? = some (.cells #[.int .i64 x111000_1, .string x111001_1, .int .i64 x111002_1, .int .i64 x111003_1] 91 (0, 0))) ∧ Aside0 (Below w.heap.size w wc))
      case first =>
       have H := HC8.out; clear HC8
       by_cases c9 : (wrap64 (x8_1 + 1)) < (a0.size : Int)
       ·rw [if_pos c9] at H
        have c9b0 : decide ((wrap64 (x8_1 + 1)) < (a0.size : Int)) = true := decide_eq_true c9; clear c9; (first | rw [c9b0] | (simp only [i64_w, i32_w]; rw [c9b0]) | skip)
        obtain ⟨ji10, hji10⟩ : ∃ j_ : Int, (wrap64 (x8_1 + 1)) = j_ := ⟨_, rfl⟩
        replace H : (if 0 ≤ (ji10) then (token_text.j1 k1 a0 a1 x7_1 x8_1 ((bt a0 (ji10)) == 39)) else (none)) = some (r1, r2, r3, r4, r5, r6) := by first | (rw [hji10] at H; exact H) | (simp only [hji10] at H ⊢; exact H)
        (try rw [hji10] at c9b0); have hji10w : (IntKind.i64.wrap (x8_1 + 1)) = ji10 := (i64_w _).trans hji10
        by_cases c11 : 0 ≤ (ji10)
        ·rw [if_pos c11] at H
         have c11b0 : decide (0 ≤ (ji10)) = true := decide_eq_true c11; clear c11; have H' := am_ H; clear H; have p12 : 0 ≤ ((ji10) : Int) := of_decide_eq_true (as_); have q12 : (ji10) < (a0.size : Int) := of_decide_eq_true (as_); have hx12 := bt_at a0 (ji10); replace p12 := eq_true p12; replace q12 := eq_true q12
         go_wp2
         go_meet
         case rel => exact ⟨_, (((bt a0 (ji10)) == 39)), (by first | rfl | (simp; done) | (simp only [← hji10] <;> (first | rfl | simp)) | (simp [*]; done)), H', ⟨by have := HK1.out; first | omega | exact Nat.le_refl _⟩, ⟨kr_ HO_7.out⟩, ⟨bk_ BK110.out⟩, ⟨bl_⟩⟩
        ·rw [if_neg c11] at H
         exact absurd H (by simp)
       ·rw [if_neg c9] at H
        have c9b0 : decide ((wrap64 (x8_1 + 1)) < (a0.size : Int)) = false := decide_eq_false c9; clear c9; (first | rw [c9b0] | (simp only [i64_w, i32_w]; rw [c9b0]) | skip); have H' := am_ H; clear H
        go_wp2
        go_meet
        case rel => exact ⟨_, (false), (rs_), H', ⟨by have := HK1.out; first | omega | exact Nat.le_refl _⟩, ⟨kr_ HO_7.out⟩, ⟨bk_ BK110.out⟩, ⟨bl_⟩⟩
      case rest =>
       clear HC8; (try clear c1); (try clear p1); (try clear q1); (try clear hx1); (try clear p2); (try clear c4); (try clear c4b0); (try clear c5); (try clear c5b0); (try clear p6); (try clear q6); (try clear hx6); (try clear c7); (try clear c7b0); (try clear c7b1); (try clear c9); (try clear c9b0); (try clear c11); (try clear c11b0); (try clear p12); (try clear q12); (try clear hx12); (try clear p12); (try clear p2); (try clear p6); (try clear q12); (try clear q6); obtain ⟨kq, x38_7, rfl, HA, HJ7, HO_7, BK110, HB⟩ := hcut
       cases kq with
       | zero => exact absurd HA.out (by simp [token_text.j1])
       | succ kj7 =>
        have H := HA.out; clear HA; simp only [token_text.j1] at H
        by_cases c13 : x38_7 = true
        ·subst c13
         have H1 : (if x7_1.length < 140737488355328 then (token_text.l0 kj7 a0 a1 (x7_1 ++ [39]) (wrap64 ((wrap64 (x8_1 + 1)) + 1))) else (none)) = some (r1, r2, r3, r4, r5, r6) := by rw [if_pos rfl] at H; exact H
         clear H; have H := H1; clear H1
         by_cases c14 : x7_1.length < 140737488355328
         ·rw [if_pos c14] at H
          have LMc14 := am_ c14; clear c14
          obtain ⟨y114, hy114⟩ : ∃ y_ : List Int, y_ = (x7_1 ++ [39]) := ⟨_, rfl⟩
          replace H : (token_text.l0 kj7 a0 a1 y114 (wrap64 ((wrap64 (x8_1 + 1)) + 1))) = some (r1, r2, r3, r4, r5, r6) := by first | (rw [hy114]; with_reducible exact H) | (have H2_ := (Option.bind_some _ _).symm.trans H; rw [hy114]; with_reducible exact H2_) | (have H2_ := (Option.bind_some _ _).symm.trans H; with_reducible exact H2_) | with_reducible exact H | (rw [hy114]; exact H) | exact H
          have Ny114 := am_ hy114; clear hy114; have H' := am_ H; clear H
          go_wp2_with (first | ((with_reducible refine gate_builtin (b := .append) (xs := #[.tmp 39, .tmp 40]) rfl ?_); at_builtin; refine Kd.R_append (Kd.int .u8) (w0 := w) w.heap.size rfl (.tmp 39) (.tmp 40) 184 5 (.int .u8 0) 1 rfl Try.underlying184 info5 rfl (by decide) (by omega) u7 x7_1 39 [.int .u8 39] (fun _ => True) (fun _ => False) rfl rfl ?aP (fun _ hk => hk.elim) ?aF ?aO ?aB ?aS ?aL ?_; (case aP => exact rfl); (case aB => exact (bl_)); (case aF => exact (fun _ _ => trivial)); (case aO => exact (kr_ HO_7.out)); (case aS => exact (below_size (bl_))); (case aL => have := LMc14.out; omega); intro v115 w15 ho hb hg hat; rw [← Ny114.out] at ho; replace BK110 := am_ (blk_grown (g := gb110) (o := .cells #[.int .i64 x111000_1, .string x111001_1, .int .i64 x111002_1, .int .i64 x111003_1] 91 (0, 0)) (bk_ BK110.out) hg (Kd.R_ne HO_7.out BK110.out (by decide))); have HO116 := am_ (ho); replace HB := am_ (hb); clear HO_7; clear ho hb hg hat))
          go_roundg kj7
          case measure => have := HK1.out; have := HJ7.out; omega
          case rel => exact ⟨(y114), (wrap64 ((wrap64 (x8_1 + 1)) + 1)), (x111000_1), (x111001_1), (x111002_1), (x111003_1), (rs_), H', ⟨by have := HK1.out; have := HJ7.out; omega⟩, ⟨kr_ HO116.out⟩, ⟨bk_ BK110.out⟩, ⟨bl_⟩⟩
         ·rw [if_neg c14] at H
          exact absurd H (by simp)
        ·replace c13 := Bool.eq_false_iff.mpr c13
         subst c13
         have H1 : (if (x7_1.length : Int) > 65536 then (some (0, (⟨#[]⟩ : ByteArray), 0, 0, a1, 4)) else (some (4, strOfNums x7_1, 0, a1, wrap64 (x8_1 + 1), 0))) = some (r1, r2, r3, r4, r5, r6) := by rw [if_neg (show ¬ (false = true) by decide)] at H; exact H
         clear H; have H := H1; clear H1
         by_cases c16 : (x7_1.length : Int) > 65536
         ·rw [if_pos c16] at H
          have c16b0 : decide (65536 < (x7_1.length : Int)) = true := decide_eq_true c16; have c16b1 : decide (65536 < x7_1.length) = true := decide_eq_true (by omega); clear c16; simp only [Option.some.injEq, Prod.mk.injEq] at H; obtain ⟨rfl, rfl, rfl, rfl, rfl, rfl⟩ := H; obtain ⟨Ao17, co17, eo17⟩ := Kd.R_slice HO_7.out; subst eo17; obtain ⟨hcz18_0, hcz18_1, hcz18_2, hcz18_3, hfz18_0, hfz18_1, hfz18_2, hfz18_3⟩ := bw4_ BK110.out
          go_wp2
          refine bodyPost_ret (results_ctt rfl _ _ gb110 91 #[.int .i64 0, .string (⟨#[]⟩ : ByteArray), .int .i64 0, .int .i64 0] (0, 0) _ rfl (by refine bp_ ?_; refine blk_put (cs := #[.int .i64 0, .string (⟨#[]⟩ : ByteArray), .int .i64 0, .int .i64 x111003_1]) ?_ 3 _ rfl; refine bp_ ?_; refine blk_put (cs := #[.int .i64 0, .string (⟨#[]⟩ : ByteArray), .int .i64 x111002_1, .int .i64 x111003_1]) ?_ 2 _ rfl; refine bp_ ?_; refine blk_put (cs := #[.int .i64 0, .string x111001_1, .int .i64 x111002_1, .int .i64 x111003_1]) ?_ 1 _ rfl; refine bp_ ?_; refine blk_put (cs := #[.int .i64 x111000_1, .string x111001_1, .int .i64 x111002_1, .int .i64 x111003_1]) ?_ 0 _ rfl; refine bp_ ?_; exact BK110.out) Try.underlying91 rfl (by kernel_rfl)) rfl ?_; exact ⟨ew_, bl_⟩
         ·rw [if_neg c16] at H
          have c16b0 : decide (65536 < (x7_1.length : Int)) = false := decide_eq_false c16; have c16b1 : decide (65536 < x7_1.length) = false := decide_eq_false (by omega); clear c16; simp only [Option.some.injEq, Prod.mk.injEq] at H; obtain ⟨rfl, rfl, rfl, rfl, rfl, rfl⟩ := H; obtain ⟨Ao19, co19, eo19⟩ := Kd.R_slice HO_7.out; subst eo19; have hcv20 := own_string (P := Try.prog) Try.underlying184 Try.underlying5 Try.underlying9 (Kd.own_of_R HO_7.out); obtain ⟨hcz21_0, hcz21_1, hcz21_2, hcz21_3, hfz21_0, hfz21_1, hfz21_2, hfz21_3⟩ := bw4_ BK110.out
          go_wp2
          refine bodyPost_ret (results_ctt rfl _ _ gb110 91 #[.int .i64 4, .string (strOfNums x7_1), .int .i64 0, .int .i64 a1] (0, 0) _ rfl (by refine bp_ ?_; refine blk_put (cs := #[.int .i64 4, .string (strOfNums x7_1), .int .i64 0, .int .i64 x111003_1]) ?_ 3 _ rfl; refine bp_ ?_; refine blk_put (cs := #[.int .i64 4, .string (strOfNums x7_1), .int .i64 x111002_1, .int .i64 x111003_1]) ?_ 2 _ rfl; refine bp_ ?_; refine blk_put (cs := #[.int .i64 4, .string x111001_1, .int .i64 x111002_1, .int .i64 x111003_1]) ?_ 1 _ rfl; refine bp_ ?_; refine blk_put (cs := #[.int .i64 x111000_1, .string x111001_1, .int .i64 x111002_1, .int .i64 x111003_1]) ?_ 0 _ rfl; refine bp_ ?_; exact BK110.out) Try.underlying91 rfl (by kernel_rfl)) rfl ?_; exact ⟨ew_, bl_⟩
     ·rw [if_neg c7] at H
      have c7b0 : ((bt a0 x8_1) == 39) = false := beq_eq_false_iff_ne.mpr c7; have c7b1 : ((bt a0 x8_1) != 39) = true := bne_iff_ne.mpr c7
      by_cases c23 : x7_1.length < 140737488355328
      ·rw [if_pos c23] at H
       have LMc23 := am_ c23; clear c23
       obtain ⟨y111, hy111⟩ : ∃ y_ : List Int, y_ = (x7_1 ++ [bt a0 x8_1]) := ⟨_, rfl⟩
       replace H : (token_text.l0 k1 a0 a1 y111 (wrap64 (x8_1 + 1))) = some (r1, r2, r3, r4, r5, r6) := by first | (rw [hy111]; with_reducible exact H) | (have H2_ := (Option.bind_some _ _).symm.trans H; rw [hy111]; with_reducible exact H2_) | (have H2_ := (Option.bind_some _ _).symm.trans H; with_reducible exact H2_) | with_reducible exact H | (rw [hy111]; exact H) | exact H
       have Ny111 := am_ hy111; clear hy111; have H' := am_ H; clear H; have p6 : 0 ≤ (x8_1 : Int) := of_decide_eq_true (as_); have q6 : x8_1 < (a0.size : Int) := of_decide_eq_true (as_); have hx6 := bt_at a0 x8_1; replace p6 := eq_true p6; replace q6 := eq_true q6; have p22 : 0 ≤ (x8_1 : Int) := of_decide_eq_true (as_); have q22 : x8_1 < (a0.size : Int) := of_decide_eq_true (as_); have hx22 := bt_at a0 x8_1; replace p22 := eq_true p22; replace q22 := eq_true q22
       go_wp2_with (first | ((with_reducible refine gate_builtin (b := .append) (xs := #[.tmp 21, .tmp 25]) rfl ?_); at_builtin; refine Kd.R_append (Kd.int .u8) (w0 := w) w.heap.size rfl (.tmp 21) (.tmp 25) 184 5 (.int .u8 0) 1 rfl Try.underlying184 info5 rfl (by decide) (by omega) u7 x7_1 (bt a0 x8_1) [.int .u8 (bt a0 x8_1)] (fun _ => True) (fun _ => False) rfl rfl ?aP (fun _ hk => hk.elim) ?aF ?aO ?aB ?aS ?aL ?_; (case aP => exact rfl); (case aB => exact (bl_)); (case aF => exact (fun _ _ => trivial)); (case aO => exact (kr_ HO_7.out)); (case aS => exact (below_size (bl_))); (case aL => have := LMc23.out; omega); intro v112 w24 ho hb hg hat; rw [← Ny111.out] at ho; replace BK110 := am_ (blk_grown (g := gb110) (o := .cells #[.int .i64 x111000_1, .string x111001_1, .int .i64 x111002_1, .int .i64 x111003_1] 91 (0, 0)) (bk_ BK110.out) hg (Kd.R_ne HO_7.out BK110.out (by decide))); have HO113 := am_ (ho); replace HB := am_ (hb); clear HO_7; clear ho hb hg hat))
       go_roundg k1
       case measure => have := HK1.out; omega
       case rel => exact ⟨(y111), (wrap64 (x8_1 + 1)), (x111000_1), (x111001_1), (x111002_1), (x111003_1), (rs_), H', ⟨by have := HK1.out; omega⟩, ⟨kr_ HO113.out⟩, ⟨bk_ BK110.out⟩, ⟨bl_⟩⟩
      ·rw [if_neg c23] at H
       exact absurd H (by simp)
    ·rw [if_neg c5] at H
     exact absurd H (by simp)
   ·rw [if_neg c4] at H
    have c4b0 : decide (x8_1 < (a0.size : Int)) = false := decide_eq_false c4; clear c4; simp only [Option.some.injEq, Prod.mk.injEq] at H; obtain ⟨rfl, rfl, rfl, rfl, rfl, rfl⟩ := H; obtain ⟨hcz25_0, hcz25_1, hcz25_2, hcz25_3, hfz25_0, hfz25_1, hfz25_2, hfz25_3⟩ := bw4_ BK110.out
    go_wp2
    refine bodyPost_ret (results_ctt rfl _ _ gb110 91 #[.int .i64 0, .string (⟨#[]⟩ : ByteArray), .int .i64 0, .int .i64 0] (0, 0) _ rfl (by refine bp_ ?_; refine blk_put (cs := #[.int .i64 0, .string (⟨#[]⟩ : ByteArray), .int .i64 0, .int .i64 x111003_1]) ?_ 3 _ rfl; refine bp_ ?_; refine blk_put (cs := #[.int .i64 0, .string (⟨#[]⟩ : ByteArray), .int .i64 x111002_1, .int .i64 x111003_1]) ?_ 2 _ rfl; refine bp_ ?_; refine blk_put (cs := #[.int .i64 0, .string x111001_1, .int .i64 x111002_1, .int .i64 x111003_1]) ?_ 1 _ rfl; refine bp_ ?_; refine blk_put (cs := #[.int .i64 x111000_1, .string x111001_1, .int .i64 x111002_1, .int .i64 x111003_1]) ?_ 0 _ rfl; refine bp_ ?_; exact BK110.out) Try.underlying91 rfl (by kernel_rfl)) rfl ?_; exact ⟨ew_, bl_⟩

end Go.Proofs.Ytcfgjaggccnoaaa.PParseSmall
