import Derived.Test.YtcfgjaggccnoaaaPParseSmallx0
namespace Go.Proofs.Ytcfgjaggccnoaaa.PParseSmall
open Go.RowKit Go.Proofs.YtcfgjaggccnoaaaW.PrintWords Go.Proofs.YtcfgjaggccnoaaaW.PrintLast Go.Proofs.YtcfgjaggccnoaaaW.PrintMore
attribute [local go_sem] max2_int min2_int max_two min_two max_three min_three max_four min_four
set_option linter.unusedVariables false
set_option maxHeartbeats 8000000
set_option linter.unusedSimpArgs false
set_option maxRecDepth 100000

def schema_Word.j0 : Nat → ByteArray → Bool → Option (Bool)
 | 0, _, _ => none
 | k + 1, x3, x4 => if x4 = true then (some true) else (if x3.toList = ([97, 110, 100] : List UInt8) then (some true) else (if x3.toList = ([111, 114] : List UInt8) then (some true) else (if x3.toList = ([110, 111, 116] : List UInt8) then (some true) else (if x3.toList = ([105, 115] : List UInt8) then (some true) else (if x3.toList = ([110, 117, 108, 108] : List UInt8) then (some true) else (if x3.toList = ([99, 111, 117, 110, 116] : List UInt8) then (some true) else (if x3.toList = ([115, 117, 109] : List UInt8) then (some true) else (if x3.toList = ([109, 105, 110] : List UInt8) then (some true) else (if x3.toList = ([109, 97, 120] : List UInt8) then (some true) else (some false))))))))))
def schema_Word.f (k : Nat) (a0 : ByteArray) : Option (Bool) := if a0.toList = ([115, 101, 108, 101, 99, 116] : List UInt8) then (schema_Word.j0 k a0 (a0.toList == ([115, 101, 108, 101, 99, 116] : List UInt8))) else (if a0.toList = ([102, 114, 111, 109] : List UInt8) then (schema_Word.j0 k a0 (a0.toList == ([102, 114, 111, 109] : List UInt8))) else (if a0.toList = ([106, 111, 105, 110] : List UInt8) then (schema_Word.j0 k a0 (a0.toList == ([106, 111, 105, 110] : List UInt8))) else (if a0.toList = ([108, 101, 102, 116] : List UInt8) then (schema_Word.j0 k a0 (a0.toList == ([108, 101, 102, 116] : List UInt8))) else (if a0.toList = ([115, 101, 109, 105] : List UInt8) then (schema_Word.j0 k a0 (a0.toList == ([115, 101, 109, 105] : List UInt8))) else (if a0.toList = ([97, 110, 116, 105] : List UInt8) then (schema_Word.j0 k a0 (a0.toList == ([97, 110, 116, 105] : List UInt8))) else (if a0.toList = ([111, 110] : List UInt8) then (schema_Word.j0 k a0 (a0.toList == ([111, 110] : List UInt8))) else (if a0.toList = ([119, 104, 101, 114, 101] : List UInt8) then (schema_Word.j0 k a0 (a0.toList == ([119, 104, 101, 114, 101] : List UInt8))) else (if a0.toList = ([103, 114, 111, 117, 112] : List UInt8) then (schema_Word.j0 k a0 (a0.toList == ([103, 114, 111, 117, 112] : List UInt8))) else (if a0.toList = ([98, 121] : List UInt8) then (schema_Word.j0 k a0 (a0.toList == ([98, 121] : List UInt8))) else (schema_Word.j0 k a0 (a0.toList == ([97, 115] : List UInt8))))))))))))
theorem schema_Word.mono_l : ∀ k, (∀ y0 y1, LeO (schema_Word.j0 k y0 y1) (schema_Word.j0 (k + 1) y0 y1))
 | 0 => fun _ _ r h => by simp [schema_Word.j0] at h
 | k + 1 => by
  have ih0 := schema_Word.mono_l k
  ·intro y0 y1
   unfold schema_Word.j0
   repeat' first
   | (with_reducible exact ih0 _ _)
   | (with_reducible exact LeO.refl _)
   | (with_reducible exact LeO.none _)
   | (with_reducible refine LeO.ite ?_ ?_)
   | (with_reducible refine LeO.bind ?_ (fun _ => ?_))
   | exact ih0 _ _
   | exact LeO.none _
   | refine LeO.ite ?_ ?_
   | refine LeO.bind ?_ (fun _ => ?_)
theorem schema_Word.mono : ∀ a0 k, LeO (schema_Word.f k a0) (schema_Word.f (k + 1) a0) := by
 intro a0 k; have ih0 := schema_Word.mono_l k; unfold schema_Word.f
 repeat' first
   | (with_reducible exact ih0 _ _)
   | (with_reducible exact LeO.refl _)
   | (with_reducible exact LeO.none _)
   | (with_reducible refine LeO.ite ?_ ?_)
   | (with_reducible refine LeO.bind ?_ (fun _ => ?_))
   | exact ih0 _ _
   | exact LeO.none _
   | refine LeO.ite ?_ ?_
   | refine LeO.bind ?_ (fun _ => ?_)
theorem schema_Word.calls (k : Nat) (a0 : ByteArray) (r : Bool) (w : World) (h : schema_Word.f k a0 = some r) :
  Calls Try.prog 158 #[.string a0] w fun e w' => e = .returned (.bool r) ∧ Drawn0 w w' := by
 have H : (if a0.toList = ([115, 101, 108, 101, 99, 116] : List UInt8) then (schema_Word.j0 k a0 (a0.toList == ([115, 101, 108, 101, 99, 116] : List UInt8))) else (if a0.toList = ([102, 114, 111, 109] : List UInt8) then (schema_Word.j0 k a0 (a0.toList == ([102, 114, 111, 109] : List UInt8))) else (if a0.toList = ([106, 111, 105, 110] : List UInt8) then (schema_Word.j0 k a0 (a0.toList == ([106, 111, 105, 110] : List UInt8))) else (if a0.toList = ([108, 101, 102, 116] : List UInt8) then (schema_Word.j0 k a0 (a0.toList == ([108, 101, 102, 116] : List UInt8))) else (if a0.toList = ([115, 101, 109, 105] : List UInt8) then (schema_Word.j0 k a0 (a0.toList == ([115, 101, 109, 105] : List UInt8))) else (if a0.toList = ([97, 110, 116, 105] : List UInt8) then (schema_Word.j0 k a0 (a0.toList == ([97, 110, 116, 105] : List UInt8))) else (if a0.toList = ([111, 110] : List UInt8) then (schema_Word.j0 k a0 (a0.toList == ([111, 110] : List UInt8))) else (if a0.toList = ([119, 104, 101, 114, 101] : List UInt8) then (schema_Word.j0 k a0 (a0.toList == ([119, 104, 101, 114, 101] : List UInt8))) else (if a0.toList = ([103, 114, 111, 117, 112] : List UInt8) then (schema_Word.j0 k a0 (a0.toList == ([103, 114, 111, 117, 112] : List UInt8))) else (if a0.toList = ([98, 121] : List UInt8) then (schema_Word.j0 k a0 (a0.toList == ([98, 121] : List UInt8))) else (schema_Word.j0 k a0 (a0.toList == ([97, 115] : List UInt8))))))))))))) = some r := h; clear h; have HC2 := am_ H; clear H
 go_enter Try.func158, Try.ntmps158
 go_upto_if 4 with (fail)
 go_cut [4] (fun v4 wc => ∃ (kq : Nat) (x4_1 : Bool), v4 = .bool x4_1 ∧ Aside0 (schema_Word.j0 kq a0 x4_1 = some r) ∧ Aside0 (kq ≤ k) ∧ Drawn0 w wc)
 case first =>
  have H := HC2.out; clear HC2
  by_cases c3 : a0.toList = ([115, 101, 108, 101, 99, 116] : List UInt8)
  ·rw [if_pos c3] at H
   have c3b0 : (a0.toList == ([115, 101, 108, 101, 99, 116] : List UInt8)) = true := beq_iff_eq.mpr c3; have c3b1 : (a0.toList != ([115, 101, 108, 101, 99, 116] : List UInt8)) = false := bne_eq_false_iff_eq.mpr c3; clear c3; (first | rw [c3b0] | (simp only [i64_w, i32_w]; rw [c3b0]) | skip); have H' := am_ H; clear H
   go_wp2
   go_meet
   case rel => exact ⟨_, ((a0.toList == ([115, 101, 108, 101, 99, 116] : List UInt8))), (rs_), H', ⟨by first | omega | exact Nat.le_refl _⟩, by repeat (first | exact Drawn0.refl _ | apply Drawn0.step)⟩
  ·rw [if_neg c3] at H
   have c3b0 : (a0.toList == ([115, 101, 108, 101, 99, 116] : List UInt8)) = false := beq_eq_false_iff_ne.mpr c3; have c3b1 : (a0.toList != ([115, 101, 108, 101, 99, 116] : List UInt8)) = true := bne_iff_ne.mpr c3; (first | rw [c3b0] | (simp only [i64_w, i32_w]; rw [c3b0]) | skip)
   by_cases c4 : a0.toList = ([102, 114, 111, 109] : List UInt8)
   ·rw [if_pos c4] at H
    have c4b0 : (a0.toList == ([102, 114, 111, 109] : List UInt8)) = true := beq_iff_eq.mpr c4; have c4b1 : (a0.toList != ([102, 114, 111, 109] : List UInt8)) = false := bne_eq_false_iff_eq.mpr c4; clear c4; have H' := am_ H; clear H
    go_wp2
    go_meet
    case rel => exact ⟨_, ((a0.toList == ([102, 114, 111, 109] : List UInt8))), (rs_), H', ⟨by first | omega | exact Nat.le_refl _⟩, by repeat (first | exact Drawn0.refl _ | apply Drawn0.step)⟩
   ·rw [if_neg c4] at H
    have c4b0 : (a0.toList == ([102, 114, 111, 109] : List UInt8)) = false := beq_eq_false_iff_ne.mpr c4; have c4b1 : (a0.toList != ([102, 114, 111, 109] : List UInt8)) = true := bne_iff_ne.mpr c4
    by_cases c5 : a0.toList = ([106, 111, 105, 110] : List UInt8)
    ·rw [if_pos c5] at H
     have c5b0 : (a0.toList == ([106, 111, 105, 110] : List UInt8)) = true := beq_iff_eq.mpr c5; have c5b1 : (a0.toList != ([106, 111, 105, 110] : List UInt8)) = false := bne_eq_false_iff_eq.mpr c5; clear c5; have H' := am_ H; clear H
     go_wp2
     go_meet
     case rel => exact ⟨_, ((a0.toList == ([106, 111, 105, 110] : List UInt8))), (rs_), H', ⟨by first | omega | exact Nat.le_refl _⟩, by repeat (first | exact Drawn0.refl _ | apply Drawn0.step)⟩
    ·rw [if_neg c5] at H
     have c5b0 : (a0.toList == ([106, 111, 105, 110] : List UInt8)) = false := beq_eq_false_iff_ne.mpr c5; have c5b1 : (a0.toList != ([106, 111, 105, 110] : List UInt8)) = true := bne_iff_ne.mpr c5
     by_cases c6 : a0.toList = ([108, 101, 102, 116] : List UInt8)
     ·rw [if_pos c6] at H
      have c6b0 : (a0.toList == ([108, 101, 102, 116] : List UInt8)) = true := beq_iff_eq.mpr c6; have c6b1 : (a0.toList != ([108, 101, 102, 116] : List UInt8)) = false := bne_eq_false_iff_eq.mpr c6; clear c6; have H' := am_ H; clear H
      go_wp2
      go_meet
      case rel => exact ⟨_, ((a0.toList == ([108, 101, 102, 116] : List UInt8))), (rs_), H', ⟨by first | omega | exact Nat.le_refl _⟩, by repeat (first | exact Drawn0.refl _ | apply Drawn0.step)⟩
     ·rw [if_neg c6] at H
      have c6b0 : (a0.toList == ([108, 101, 102, 116] : List UInt8)) = false := beq_eq_false_iff_ne.mpr c6; have c6b1 : (a0.toList != ([108, 101, 102, 116] : List UInt8)) = true := bne_iff_ne.mpr c6
      by_cases c7 : a0.toList = ([115, 101, 109, 105] : List UInt8)
      ·rw [if_pos c7] at H
       have c7b0 : (a0.toList == ([115, 101, 109, 105] : List UInt8)) = true := beq_iff_eq.mpr c7; have c7b1 : (a0.toList != ([115, 101, 109, 105] : List UInt8)) = false := bne_eq_false_iff_eq.mpr c7; clear c7; have H' := am_ H; clear H
       go_wp2
       go_meet
       case rel => exact ⟨_, ((a0.toList == ([115, 101, 109, 105] : List UInt8))), (rs_), H', ⟨by first | omega | exact Nat.le_refl _⟩, by repeat (first | exact Drawn0.refl _ | apply Drawn0.step)⟩
      ·rw [if_neg c7] at H
       have c7b0 : (a0.toList == ([115, 101, 109, 105] : List UInt8)) = false := beq_eq_false_iff_ne.mpr c7; have c7b1 : (a0.toList != ([115, 101, 109, 105] : List UInt8)) = true := bne_iff_ne.mpr c7
       by_cases c8 : a0.toList = ([97, 110, 116, 105] : List UInt8)
       ·rw [if_pos c8] at H
        have c8b0 : (a0.toList == ([97, 110, 116, 105] : List UInt8)) = true := beq_iff_eq.mpr c8; have c8b1 : (a0.toList != ([97, 110, 116, 105] : List UInt8)) = false := bne_eq_false_iff_eq.mpr c8; clear c8; have H' := am_ H; clear H
        go_wp2
        go_meet
        case rel => exact ⟨_, ((a0.toList == ([97, 110, 116, 105] : List UInt8))), (rs_), H', ⟨by first | omega | exact Nat.le_refl _⟩, by repeat (first | exact Drawn0.refl _ | apply Drawn0.step)⟩
       ·rw [if_neg c8] at H
        have c8b0 : (a0.toList == ([97, 110, 116, 105] : List UInt8)) = false := beq_eq_false_iff_ne.mpr c8; have c8b1 : (a0.toList != ([97, 110, 116, 105] : List UInt8)) = true := bne_iff_ne.mpr c8
        by_cases c9 : a0.toList = ([111, 110] : List UInt8)
        ·rw [if_pos c9] at H
         have c9b0 : (a0.toList == ([111, 110] : List UInt8)) = true := beq_iff_eq.mpr c9; have c9b1 : (a0.toList != ([111, 110] : List UInt8)) = false := bne_eq_false_iff_eq.mpr c9; clear c9; have H' := am_ H; clear H
         go_wp2
         go_meet
         case rel => exact ⟨_, ((a0.toList == ([111, 110] : List UInt8))), (rs_), H', ⟨by first | omega | exact Nat.le_refl _⟩, by repeat (first | exact Drawn0.refl _ | apply Drawn0.step)⟩
        ·rw [if_neg c9] at H
         have c9b0 : (a0.toList == ([111, 110] : List UInt8)) = false := beq_eq_false_iff_ne.mpr c9; have c9b1 : (a0.toList != ([111, 110] : List UInt8)) = true := bne_iff_ne.mpr c9
         by_cases c10 : a0.toList = ([119, 104, 101, 114, 101] : List UInt8)
         ·rw [if_pos c10] at H
          have c10b0 : (a0.toList == ([119, 104, 101, 114, 101] : List UInt8)) = true := beq_iff_eq.mpr c10; have c10b1 : (a0.toList != ([119, 104, 101, 114, 101] : List UInt8)) = false := bne_eq_false_iff_eq.mpr c10; clear c10; have H' := am_ H; clear H
          go_wp2
          go_meet
          case rel => exact ⟨_, ((a0.toList == ([119, 104, 101, 114, 101] : List UInt8))), (rs_), H', ⟨by first | omega | exact Nat.le_refl _⟩, by repeat (first | exact Drawn0.refl _ | apply Drawn0.step)⟩
         ·rw [if_neg c10] at H
          have c10b0 : (a0.toList == ([119, 104, 101, 114, 101] : List UInt8)) = false := beq_eq_false_iff_ne.mpr c10; have c10b1 : (a0.toList != ([119, 104, 101, 114, 101] : List UInt8)) = true := bne_iff_ne.mpr c10
          by_cases c11 : a0.toList = ([103, 114, 111, 117, 112] : List UInt8)
          ·rw [if_pos c11] at H
           have c11b0 : (a0.toList == ([103, 114, 111, 117, 112] : List UInt8)) = true := beq_iff_eq.mpr c11; have c11b1 : (a0.toList != ([103, 114, 111, 117, 112] : List UInt8)) = false := bne_eq_false_iff_eq.mpr c11; clear c11; have H' := am_ H; clear H
           go_wp2
           go_meet
           case rel => exact ⟨_, ((a0.toList == ([103, 114, 111, 117, 112] : List UInt8))), (rs_), H', ⟨by first | omega | exact Nat.le_refl _⟩, by repeat (first | exact Drawn0.refl _ | apply Drawn0.step)⟩
          ·rw [if_neg c11] at H
           have c11b0 : (a0.toList == ([103, 114, 111, 117, 112] : List UInt8)) = false := beq_eq_false_iff_ne.mpr c11; have c11b1 : (a0.toList != ([103, 114, 111, 117, 112] : List UInt8)) = true := bne_iff_ne.mpr c11
           by_cases c12 : a0.toList = ([98, 121] : List UInt8)
           ·rw [if_pos c12] at H
            have c12b0 : (a0.toList == ([98, 121] : List UInt8)) = true := beq_iff_eq.mpr c12; have c12b1 : (a0.toList != ([98, 121] : List UInt8)) = false := bne_eq_false_iff_eq.mpr c12; clear c12; have H' := am_ H; clear H
            go_wp2
            go_meet
            case rel => exact ⟨_, ((a0.toList == ([98, 121] : List UInt8))), (rs_), H', ⟨by first | omega | exact Nat.le_refl _⟩, by repeat (first | exact Drawn0.refl _ | apply Drawn0.step)⟩
           ·rw [if_neg c12] at H
            have c12b0 : (a0.toList == ([98, 121] : List UInt8)) = false := beq_eq_false_iff_ne.mpr c12; have c12b1 : (a0.toList != ([98, 121] : List UInt8)) = true := bne_iff_ne.mpr c12; have H' := am_ H; clear H
            go_wp2
            go_meet
            case rel => exact ⟨_, ((a0.toList == ([97, 115] : List UInt8))), (rs_), H', ⟨by first | omega | exact Nat.le_refl _⟩, by repeat (first | exact Drawn0.refl _ | apply Drawn0.step)⟩
 case rest =>
  clear HC2; (try clear c1); (try clear p2); (try clear c3); (try clear c3b0); (try clear c3b1); (try clear c4); (try clear c4b0); (try clear c4b1); (try clear c5); (try clear c5b0); (try clear c5b1); (try clear c6); (try clear c6b0); (try clear c6b1); (try clear c7); (try clear c7b0); (try clear c7b1); (try clear c8); (try clear c8b0); (try clear c8b1); (try clear c9); (try clear c9b0); (try clear c9b1); (try clear c10); (try clear c10b0); (try clear c10b1); (try clear c11); (try clear c11b0); (try clear c11b1); (try clear c12); (try clear c12b0); (try clear c12b1); obtain ⟨kq, x4_1, rfl, HA, HJ1, ⟨mc1, rfl⟩⟩ := hcut
  cases kq with
  | zero => exact absurd HA.out (by simp [schema_Word.j0])
  | succ kj1 =>
   have H := HA.out; clear HA; simp only [schema_Word.j0] at H
   by_cases c13 : x4_1 = true
   ·subst c13
    have H1 : (some true) = some r := by rw [if_pos rfl] at H; exact H
    clear H; have H := H1; clear H1; obtain rfl := Option.some.inj H
    go_wp2
    go_ret
    exact ⟨rs_, by repeat (first | exact Drawn0.refl _ | apply Drawn0.step)⟩
   ·replace c13 := Bool.eq_false_iff.mpr c13
    subst c13
    have H1 : (if a0.toList = ([97, 110, 100] : List UInt8) then (some true) else (if a0.toList = ([111, 114] : List UInt8) then (some true) else (if a0.toList = ([110, 111, 116] : List UInt8) then (some true) else (if a0.toList = ([105, 115] : List UInt8) then (some true) else (if a0.toList = ([110, 117, 108, 108] : List UInt8) then (some true) else (if a0.toList = ([99, 111, 117, 110, 116] : List UInt8) then (some true) else (if a0.toList = ([115, 117, 109] : List UInt8) then (some true) else (if a0.toList = ([109, 105, 110] : List UInt8) then (some true) else (if a0.toList = ([109, 97, 120] : List UInt8) then (some true) else (some false)))))))))) = some r := by rw [if_neg (show ¬ (false = true) by decide)] at H; exact H
    clear H; have H := H1; clear H1
    by_cases c14 : a0.toList = ([97, 110, 100] : List UInt8)
    ·rw [if_pos c14] at H
     have c14b0 : (a0.toList == ([97, 110, 100] : List UInt8)) = true := beq_iff_eq.mpr c14; have c14b1 : (a0.toList != ([97, 110, 100] : List UInt8)) = false := bne_eq_false_iff_eq.mpr c14; clear c14; obtain rfl := Option.some.inj H
     go_wp2
     go_ret
     exact ⟨rs_, by repeat (first | exact Drawn0.refl _ | apply Drawn0.step)⟩
    ·rw [if_neg c14] at H
     have c14b0 : (a0.toList == ([97, 110, 100] : List UInt8)) = false := beq_eq_false_iff_ne.mpr c14; have c14b1 : (a0.toList != ([97, 110, 100] : List UInt8)) = true := bne_iff_ne.mpr c14
     by_cases c15 : a0.toList = ([111, 114] : List UInt8)
     ·rw [if_pos c15] at H
      have c15b0 : (a0.toList == ([111, 114] : List UInt8)) = true := beq_iff_eq.mpr c15; have c15b1 : (a0.toList != ([111, 114] : List UInt8)) = false := bne_eq_false_iff_eq.mpr c15; clear c15; obtain rfl := Option.some.inj H
      go_wp2
      go_ret
      exact ⟨rs_, by repeat (first | exact Drawn0.refl _ | apply Drawn0.step)⟩
     ·rw [if_neg c15] at H
      have c15b0 : (a0.toList == ([111, 114] : List UInt8)) = false := beq_eq_false_iff_ne.mpr c15; have c15b1 : (a0.toList != ([111, 114] : List UInt8)) = true := bne_iff_ne.mpr c15
      by_cases c16 : a0.toList = ([110, 111, 116] : List UInt8)
      ·rw [if_pos c16] at H
       have c16b0 : (a0.toList == ([110, 111, 116] : List UInt8)) = true := beq_iff_eq.mpr c16; have c16b1 : (a0.toList != ([110, 111, 116] : List UInt8)) = false := bne_eq_false_iff_eq.mpr c16; clear c16; obtain rfl := Option.some.inj H
       go_wp2
       go_ret
       exact ⟨rs_, by repeat (first | exact Drawn0.refl _ | apply Drawn0.step)⟩
      ·rw [if_neg c16] at H
       have c16b0 : (a0.toList == ([110, 111, 116] : List UInt8)) = false := beq_eq_false_iff_ne.mpr c16; have c16b1 : (a0.toList != ([110, 111, 116] : List UInt8)) = true := bne_iff_ne.mpr c16
       by_cases c17 : a0.toList = ([105, 115] : List UInt8)
       ·rw [if_pos c17] at H
        have c17b0 : (a0.toList == ([105, 115] : List UInt8)) = true := beq_iff_eq.mpr c17; have c17b1 : (a0.toList != ([105, 115] : List UInt8)) = false := bne_eq_false_iff_eq.mpr c17; clear c17; obtain rfl := Option.some.inj H
        go_wp2
        go_ret
        exact ⟨rs_, by repeat (first | exact Drawn0.refl _ | apply Drawn0.step)⟩
       ·rw [if_neg c17] at H
        have c17b0 : (a0.toList == ([105, 115] : List UInt8)) = false := beq_eq_false_iff_ne.mpr c17; have c17b1 : (a0.toList != ([105, 115] : List UInt8)) = true := bne_iff_ne.mpr c17
        by_cases c18 : a0.toList = ([110, 117, 108, 108] : List UInt8)
        ·rw [if_pos c18] at H
         have c18b0 : (a0.toList == ([110, 117, 108, 108] : List UInt8)) = true := beq_iff_eq.mpr c18; have c18b1 : (a0.toList != ([110, 117, 108, 108] : List UInt8)) = false := bne_eq_false_iff_eq.mpr c18; clear c18; obtain rfl := Option.some.inj H
         go_wp2
         go_ret
         exact ⟨rs_, by repeat (first | exact Drawn0.refl _ | apply Drawn0.step)⟩
        ·rw [if_neg c18] at H
         have c18b0 : (a0.toList == ([110, 117, 108, 108] : List UInt8)) = false := beq_eq_false_iff_ne.mpr c18; have c18b1 : (a0.toList != ([110, 117, 108, 108] : List UInt8)) = true := bne_iff_ne.mpr c18
         by_cases c19 : a0.toList = ([99, 111, 117, 110, 116] : List UInt8)
         ·rw [if_pos c19] at H
          have c19b0 : (a0.toList == ([99, 111, 117, 110, 116] : List UInt8)) = true := beq_iff_eq.mpr c19; have c19b1 : (a0.toList != ([99, 111, 117, 110, 116] : List UInt8)) = false := bne_eq_false_iff_eq.mpr c19; clear c19; obtain rfl := Option.some.inj H
          go_wp2
          go_ret
          exact ⟨rs_, by repeat (first | exact Drawn0.refl _ | apply Drawn0.step)⟩
         ·rw [if_neg c19] at H
          have c19b0 : (a0.toList == ([99, 111, 117, 110, 116] : List UInt8)) = false := beq_eq_false_iff_ne.mpr c19; have c19b1 : (a0.toList != ([99, 111, 117, 110, 116] : List UInt8)) = true := bne_iff_ne.mpr c19
          by_cases c20 : a0.toList = ([115, 117, 109] : List UInt8)
          ·rw [if_pos c20] at H
           have c20b0 : (a0.toList == ([115, 117, 109] : List UInt8)) = true := beq_iff_eq.mpr c20; have c20b1 : (a0.toList != ([115, 117, 109] : List UInt8)) = false := bne_eq_false_iff_eq.mpr c20; clear c20; obtain rfl := Option.some.inj H
           go_wp2
           go_ret
           exact ⟨rs_, by repeat (first | exact Drawn0.refl _ | apply Drawn0.step)⟩
          ·rw [if_neg c20] at H
           have c20b0 : (a0.toList == ([115, 117, 109] : List UInt8)) = false := beq_eq_false_iff_ne.mpr c20; have c20b1 : (a0.toList != ([115, 117, 109] : List UInt8)) = true := bne_iff_ne.mpr c20
           by_cases c21 : a0.toList = ([109, 105, 110] : List UInt8)
           ·rw [if_pos c21] at H
            have c21b0 : (a0.toList == ([109, 105, 110] : List UInt8)) = true := beq_iff_eq.mpr c21; have c21b1 : (a0.toList != ([109, 105, 110] : List UInt8)) = false := bne_eq_false_iff_eq.mpr c21; clear c21; obtain rfl := Option.some.inj H
            go_wp2
            go_ret
            exact ⟨rs_, by repeat (first | exact Drawn0.refl _ | apply Drawn0.step)⟩
           ·rw [if_neg c21] at H
            have c21b0 : (a0.toList == ([109, 105, 110] : List UInt8)) = false := beq_eq_false_iff_ne.mpr c21; have c21b1 : (a0.toList != ([109, 105, 110] : List UInt8)) = true := bne_iff_ne.mpr c21
            by_cases c22 : a0.toList = ([109, 97, 120] : List UInt8)
            ·rw [if_pos c22] at H
             have c22b0 : (a0.toList == ([109, 97, 120] : List UInt8)) = true := beq_iff_eq.mpr c22; have c22b1 : (a0.toList != ([109, 97, 120] : List UInt8)) = false := bne_eq_false_iff_eq.mpr c22; clear c22; obtain rfl := Option.some.inj H
             go_wp2
             go_ret
             exact ⟨rs_, by repeat (first | exact Drawn0.refl _ | apply Drawn0.step)⟩
            ·rw [if_neg c22] at H
             have c22b0 : (a0.toList == ([109, 97, 120] : List UInt8)) = false := beq_eq_false_iff_ne.mpr c22; have c22b1 : (a0.toList != ([109, 97, 120] : List UInt8)) = true := bne_iff_ne.mpr c22; obtain rfl := Option.some.inj H
             go_wp2
             go_ret
             exact ⟨rs_, by repeat (first | exact Drawn0.refl _ | apply Drawn0.step)⟩

/-- Is a byte one of names? -/
def token_name.nb (c : Int) : Bool := decide (97 ≤ c ∧ c ≤ 122) || decide (c = 95) || decide (48 ≤ c ∧ c ≤ 57)
/-- Where a name ends: from i on, at most d bytes further. -/
def token_name.stop (s : ByteArray) : Nat → Nat → Nat
 | 0, i => i
 | d + 1, i => if token_name.nb (bt s i) then token_name.stop s d (i + 1) else i
def token_name.f (k : Nat) (a0 : ByteArray) (a1 : Int) : Option (Int × ByteArray × Int × Int × Int × Int) :=
 if 0 ≤ a1 ∧ a1 ≤ (a0.size : Int) ∧ a0.size ≤ 9223372036854775807 then
  (if (token_name.stop a0 (a0.size - a1.toNat) a1.toNat : Int) - a1 > 32 then some (0, (⟨#[]⟩ : ByteArray), 0, 0, a1, 1)
  else (schema_Word.f k (a0.extract a1.toNat (token_name.stop a0 (a0.size - a1.toNat) a1.toNat))).bind fun t =>
   some (if t then 2 else 1, a0.extract a1.toNat (token_name.stop a0 (a0.size - a1.toNat) a1.toNat), 0, a1, (token_name.stop a0 (a0.size - a1.toNat) a1.toNat : Int), 0))
 else none
theorem token_name.mono : ∀ a0 a1 k, LeO (token_name.f k a0 a1) (token_name.f (k + 1) a0 a1) := by
 intro a0 a1 k r h; unfold token_name.f at h ⊢
 split at h
 ·rename_i c
  rw [if_pos c]
  split at h
  ·rename_i c2
   rw [if_pos c2]; exact h
  ·rename_i c2
   rw [if_neg c2]; rw [Option.bind_eq_some_iff] at h ⊢; obtain ⟨t, ht, h⟩ := h; exact ⟨t, schema_Word.mono _ _ _ ht, h⟩
 ·exact absurd h (by simp)
theorem token_name.stop_ge (s : ByteArray) (d : Nat) : ∀ i, i ≤ token_name.stop s d i := by
 induction d with
 | zero => intro i; exact Nat.le_refl _
 | succ d ih =>
  intro i; unfold token_name.stop
  split
  ·exact Nat.le_trans (Nat.le_succ i) (ih (i + 1))
  ·exact Nat.le_refl _
theorem token_name.stop_le (s : ByteArray) (d : Nat) : ∀ i, token_name.stop s d i ≤ i + d := by
 induction d with
 | zero => intro i; exact Nat.le_refl _
 | succ d ih =>
  intro i; unfold token_name.stop
  split
  ·have := ih (i + 1); omega
  ·omega
theorem token_name.letter_same (c : Int) (b : Bool) (w : World) (h : (decide (97 ≤ c ∧ c ≤ 122) || decide (c = 95)) = b) :
  Calls Try.prog 143 #[.int .u8 c] w fun e w' => e = .returned (.bool b) ∧ w = w' := by
 by_cases h1 : c ≥ 97
 ·by_cases h2 : c ≤ 122
  ·obtain rfl : b = true := by rw [← h]; simp; omega
   clear h
   go_enter Try.func143, Try.ntmps143
   go_wp2
   go_ret
   exact ⟨rfl, rfl⟩
  ·obtain rfl : b = false := by rw [← h]; simp; omega
   have h3 : (c == 95) = false := by simp; omega
   clear h
   go_enter Try.func143, Try.ntmps143
   go_wp2
   go_ret
   exact ⟨rfl, rfl⟩
 ·by_cases h2 : c = 95
  ·obtain rfl : b = true := by rw [← h]; simp; omega
   have h3 : (c == 95) = true := by simp; omega
   clear h h2
   go_enter Try.func143, Try.ntmps143
   go_wp2
   go_ret
   exact ⟨rfl, rfl⟩
  ·obtain rfl : b = false := by rw [← h]; simp; omega
   have h3 : (c == 95) = false := by simp; omega
   clear h h2
   go_enter Try.func143, Try.ntmps143
   go_wp2
   go_ret
   exact ⟨rfl, rfl⟩
theorem token_name.digit_same (c : Int) (b : Bool) (w : World) (h : decide (48 ≤ c ∧ c ≤ 57) = b) :
  Calls Try.prog 145 #[.int .u8 c] w fun e w' => e = .returned (.bool b) ∧ w = w' := by
 by_cases h1 : c ≥ 48
 ·by_cases h2 : c ≤ 57
  ·obtain rfl : b = true := by rw [← h]; simp; omega
   clear h
   go_enter Try.func145, Try.ntmps145
   go_wp2
   go_ret
   exact ⟨rfl, rfl⟩
  ·obtain rfl : b = false := by rw [← h]; simp; omega
   clear h
   go_enter Try.func145, Try.ntmps145
   go_wp2
   go_ret
   exact ⟨rfl, rfl⟩
 ·obtain rfl : b = false := by rw [← h]; simp; omega
  clear h
  go_enter Try.func145, Try.ntmps145
  go_wp2
  go_ret
  exact ⟨rfl, rfl⟩

theorem token_name.nx_ascii (P : Program) (w : World) (n : Nat) (s : ByteArray) (pos : Nat) (ty : TypeId) (hn : w.heap.size = n) (h : pos < s.size) (c : Nat) (hc : (s[pos]'h).toNat = c) (ha : c < 128) :
  (Instr.next (.pointer (some ⟨n, 0, none⟩)) true ty).run P (w.alloc (.stringIter s pos)) = .ok (.tuple #[.bool true, .int .i64 pos, .int .i32 c]) (w.alloc (.stringIter s (pos + 1))) := by
 subst hn; subst hc; exact run_next_ascii w s pos ty h ha
theorem token_name.nx_end (P : Program) (w : World) (n : Nat) (s : ByteArray) (pos : Nat) (ty : TypeId) (hn : w.heap.size = n) (h : ¬ pos < s.size) :
  (Instr.next (.pointer (some ⟨n, 0, none⟩)) true ty).run P (w.alloc (.stringIter s pos)) = .ok (.tuple #[.bool false]) (w.alloc (.stringIter s pos)) := by
 subst hn; exact run_next_end w s pos ty h
theorem token_name.nx_high (P : Program) (w : World) (n : Nat) (s : ByteArray) (pos : Nat) (hn : w.heap.size = n) (h : pos < s.size) (ha : 128 ≤ (s[pos]'h).toNat) :
  ∃ r p : Nat, 128 ≤ r ∧ ∀ ty, (Instr.next (.pointer (some ⟨n, 0, none⟩)) true ty).run P (w.alloc (.stringIter s pos)) = .ok (.tuple #[.bool true, .int .i64 pos, .int .i32 r]) (w.alloc (.stringIter s p)) := by
 subst hn; exact ⟨_, _, (decode_high s pos h ha).1, fun ty => run_next_any w s pos ty h⟩
theorem token_name.at_pos (s : ByteArray) (a pos : Nat) (h : a + pos < s.size) (h2 : pos < (s.extract a s.size).size) : ((((s.extract a s.size)[pos]'h2).toNat : Nat) : Int) = bt s ((a + pos : Nat) : Int) := by
 have e : (s.extract a s.size)[pos]'h2 = s[a + pos]'h := ByteArray.getElem_extract h2; rw [e]; unfold bt; rw [dif_pos (show ((a + pos : Nat) : Int).toNat < s.size by omega)]; rfl
theorem token_name.aw_size (w : World) : (w.alloc (Obj.cells #[Value.int IntKind.i64 0, Value.string { data := #[] }, Value.int IntKind.i64 0, Value.int IntKind.i64 0] 91)).heap.size = w.heap.size + 1 := by
 show (w.heap.push _).size = _
 exact Array.size_push _
theorem token_name.iter_at (w : World) (s : ByteArray) (pos : Nat) : ((w.alloc (Obj.cells #[Value.int IntKind.i64 0, Value.string { data := #[] }, Value.int IntKind.i64 0, Value.int IntKind.i64 0] 91)).alloc (.stringIter s pos)).iterPos (w.heap.size + 1) = pos := by
 have h : ((w.alloc (Obj.cells #[Value.int IntKind.i64 0, Value.string { data := #[] }, Value.int IntKind.i64 0, Value.int IntKind.i64 0] 91)).alloc (.stringIter s pos)).heap[w.heap.size + 1]? = some (.stringIter s pos) := by
  rw [← token_name.aw_size w]; exact World.iter_heap _ _ _
 unfold World.iterPos; rw [h]
theorem token_name.stop_step (s : ByteArray) (a pos E : Nat) (h : a + pos < s.size) (b : Bool) (hb : token_name.nb (bt s ((a + pos : Nat) : Int)) = b) (he : token_name.stop s (s.size - a - pos) (a + pos) = E) : if b = true then token_name.stop s (s.size - a - (pos + 1)) (a + (pos + 1)) = E else a + pos = E := by
 obtain ⟨d, hd⟩ : ∃ d, s.size - a - pos = d + 1 := ⟨s.size - a - pos - 1, by omega⟩
 rw [hd] at he; unfold token_name.stop at he; rw [hb] at he
 cases b with
 | true =>
  rw [if_pos rfl] at he ⊢; rw [show s.size - a - (pos + 1) = d by omega]; exact he
 | false => simpa using he
theorem token_name.slice_at (s : ByteArray) (a pos : Nat) (h : a + pos ≤ s.size) (W : World) : (Instr.slice 9 (.string s) (some (.int .i64 a)) (some (.int .i64 ((a : Int) + pos))) none).run Try.prog W = .ok (.string (s.extract a (a + pos))) W := by
 rw [run_slice_string_if (P := Try.prog) (w := W) 9 s .i64 .i64 a ((a : Int) + pos) Try.underlying9, if_pos (by omega), if_pos (by omega)]; rfl
theorem token_name.bcell {W w1 : World} (hb : Below W.heap.size W w1) : (∀ b o, b < W.heap.size → w1.cell? ⟨b, o, none⟩ = W.cell? ⟨b, o, none⟩) ∧ (∀ b o, b < W.heap.size → w1.frozen? ⟨b, o, none⟩ = W.frozen? ⟨b, o, none⟩) :=
 ⟨fun b o h => hb.cell (p := ⟨b, o, none⟩) h, fun b o h => hb.frozen (p := ⟨b, o, none⟩) h⟩
def token_name.Post (w : World) (r1 : Int) (r2 : ByteArray) (r3 r4 r5 r6 : Int) (e : Ending) (w' : World) : Prop := e = .returned (.tuple #[.agg #[.int .i64 r1, .string r2, .int .i64 r3, .int .i64 r4], .int .i64 r5, .int .i64 r6]) ∧ Below w.heap.size w w'

set_option maxHeartbeats 4000000 in
theorem token_name.core_long (k : Nat) (s : ByteArray) (a : Nat) (w : World) (ha : a ≤ s.size) (hs : s.size ≤ 9223372036854775807) (E : Nat) (hE : token_name.stop s (s.size - a) a = E) (h32 : a + 32 < E) :
  Calls Try.prog 144 #[.string s, .int .i64 a] w (token_name.Post w 0 (⟨#[]⟩ : ByteArray) 0 0 a 1) := by
 have hu_tok := Try.underlying91; have HE := Lib.hid hE; clear hE
 have hx : (s.extract a s.size).size = s.size - a := by simp [ByteArray.size_extract]
 have HX := Lib.hid hx; clear hx
 skip
 go_enter Try.func144, Try.ntmps144
 go_wp2
 go_loopw [7] (fun v w' => ∃ pos : Nat, w' = (w.alloc (Obj.cells #[Value.int IntKind.i64 0, Value.string { data := #[] }, Value.int IntKind.i64 0, Value.int IntKind.i64 0] 91)).alloc (.stringIter (s.extract a s.size) pos) ∧ v = .int .i64 s.size ∧ a + pos ≤ s.size ∧ token_name.stop s (s.size - a - pos) (a + pos) = E) (fun _ w' => s.size - w'.iterPos (w.heap.size + 1))
 case atStart => exact ⟨0, rfl, rfl, by omega, HE.out⟩
 case round =>
  obtain ⟨pos, rfl, rfl, hp, he⟩ := hrel; have HS := Lib.hid he; clear he
  by_cases hlt : a + pos < s.size
  ·have hlt2 : pos < (s.extract a s.size).size := by rw [HX.out]; omega
   have HB := Lib.hid (token_name.at_pos s a pos hlt hlt2)
   by_cases h128 : ((s.extract a s.size)[pos]'hlt2).toNat < 128
   ·have hnx := fun ty => token_name.nx_ascii Try.prog (w.alloc (Obj.cells #[Value.int IntKind.i64 0, Value.string { data := #[] }, Value.int IntKind.i64 0, Value.int IntKind.i64 0] 91)) (w.heap.size + 1) (s.extract a s.size) pos ty (token_name.aw_size w) hlt2 _ rfl h128
    generalize (((s.extract a s.size)[pos]'hlt2).toNat) = c at *
    have hc : decide ((c : Int) ≥ 128) = false := by simp; omega
    obtain ⟨bl, hl⟩ : ∃ b, (decide (97 ≤ (c : Int) ∧ (c : Int) ≤ 122) || decide ((c : Int) = 95)) = b := ⟨_, rfl⟩
    obtain ⟨bd, hd⟩ : ∃ b, decide (48 ≤ (c : Int) ∧ (c : Int) ≤ 57) = b := ⟨_, rfl⟩
    have HLt := Lib.hid hl; have HDg := Lib.hid hd; clear hl hd; have HN : Hid (token_name.nb (bt s ((a + pos : Nat) : Int)) = (bl || bd)) := Lib.hid (by rw [← HB.out]; unfold token_name.nb; rw [HLt.out, HDg.out]); have HST := Lib.hid (token_name.stop_step s a pos E hlt _ HN.out HS.out)
    cases bl with
    | true =>
     go_wp2_with (first | (go_at_call 143; refine (token_name.letter_same _ _ _ HLt.out).mono ?_; rintro e w' ⟨rfl, rfl⟩) | (go_at_call 145; refine (token_name.digit_same _ _ _ HDg.out).mono ?_; rintro e w' ⟨rfl, rfl⟩))
     refine ⟨⟨pos + 1, rfl, rfl, by omega, HST.out⟩, ?_⟩; rw [token_name.iter_at, token_name.iter_at]; omega
    | false =>
     cases bd with
     | true =>
      go_wp2_with (first | (go_at_call 143; refine (token_name.letter_same _ _ _ HLt.out).mono ?_; rintro e w' ⟨rfl, rfl⟩) | (go_at_call 145; refine (token_name.digit_same _ _ _ HDg.out).mono ?_; rintro e w' ⟨rfl, rfl⟩))
      refine ⟨⟨pos + 1, rfl, rfl, by omega, HST.out⟩, ?_⟩; rw [token_name.iter_at, token_name.iter_at]; omega
     | false =>
      have hEq : a + pos = E := HST.out; obtain rfl := hEq
      have h33 : 32 < pos := by omega
      go_wp2_with (first | (go_at_call 143; refine (token_name.letter_same _ _ _ HLt.out).mono ?_; rintro e w' ⟨rfl, rfl⟩) | (go_at_call 145; refine (token_name.digit_same _ _ _ HDg.out).mono ?_; rintro e w' ⟨rfl, rfl⟩))
      exact bodyPost_ret (v := .tuple #[.agg #[.int .i64 0, .string (⟨#[]⟩ : ByteArray), .int .i64 0, .int .i64 0], .int .i64 a, .int .i64 1]) (by simp [results, Try.results144, go_sem]) rfl ⟨rfl, by repeat (first | (with_reducible exact Below.refl _ _) | (with_reducible refine below_alloc ?_ _) | (with_reducible refine pw_below_drewN ?_ _) | (with_reducible refine below_set ?_ ?_) | omega)⟩
   ·obtain ⟨r, p, hr, hnx⟩ := token_name.nx_high Try.prog (w.alloc (Obj.cells #[Value.int IntKind.i64 0, Value.string { data := #[] }, Value.int IntKind.i64 0, Value.int IntKind.i64 0] 91)) (w.heap.size + 1) (s.extract a s.size) pos (token_name.aw_size w) hlt2 (by omega)
    have hc : decide ((r : Int) ≥ 128) = true := by simp; omega
    have HN : Hid (token_name.nb (bt s ((a + pos : Nat) : Int)) = false) := Lib.hid (by
     rw [← HB.out]
     generalize (((s.extract a s.size)[pos]'hlt2).toNat) = c at *
     unfold token_name.nb; simp; omega)
    have HST := Lib.hid (token_name.stop_step s a pos E hlt _ HN.out HS.out); have hEq : a + pos = E := HST.out; obtain rfl := hEq
    have h33 : 32 < pos := by omega
    go_wp2
    exact bodyPost_ret (v := .tuple #[.agg #[.int .i64 0, .string (⟨#[]⟩ : ByteArray), .int .i64 0, .int .i64 0], .int .i64 a, .int .i64 1]) (by simp [results, Try.results144, go_sem]) rfl ⟨rfl, by repeat (first | (with_reducible exact Below.refl _ _) | (with_reducible refine below_alloc ?_ _) | (with_reducible refine pw_below_drewN ?_ _) | (with_reducible refine below_set ?_ ?_) | omega)⟩
  ·have hlt2 : ¬ pos < (s.extract a s.size).size := by rw [HX.out]; omega
   have hnx := fun ty => token_name.nx_end Try.prog (w.alloc (Obj.cells #[Value.int IntKind.i64 0, Value.string { data := #[] }, Value.int IntKind.i64 0, Value.int IntKind.i64 0] 91)) (w.heap.size + 1) (s.extract a s.size) pos ty (token_name.aw_size w) hlt2
   have hEq : s.size = E := by have := HS.out; rw [show s.size - a - pos = 0 by omega] at this; unfold token_name.stop at this; omega
   obtain rfl := hEq
   have h33 : a + 32 < s.size := by omega
   go_wp2
   exact bodyPost_ret (v := .tuple #[.agg #[.int .i64 0, .string (⟨#[]⟩ : ByteArray), .int .i64 0, .int .i64 0], .int .i64 a, .int .i64 1]) (by simp [results, Try.results144, go_sem]) rfl ⟨rfl, by repeat (first | (with_reducible exact Below.refl _ _) | (with_reducible refine below_alloc ?_ _) | (with_reducible refine pw_below_drewN ?_ _) | (with_reducible refine below_set ?_ ?_) | omega)⟩

set_option maxHeartbeats 4000000 in
theorem token_name.core_true (k : Nat) (s : ByteArray) (a : Nat) (w : World) (ha : a ≤ s.size) (hs : s.size ≤ 9223372036854775807) (E : Nat) (hE : token_name.stop s (s.size - a) a = E) (h32 : E ≤ a + 32) (hw : schema_Word.f k (s.extract a E) = some true) :
  Calls Try.prog 144 #[.string s, .int .i64 a] w (token_name.Post w 2 (s.extract a E) 0 a E 0) := by
 have hu_tok := Try.underlying91; have HE := Lib.hid hE; clear hE
 have hx : (s.extract a s.size).size = s.size - a := by simp [ByteArray.size_extract]
 have HX := Lib.hid hx; clear hx; have HWd := Lib.hid hw; clear hw
 go_enter Try.func144, Try.ntmps144
 go_wp2
 go_loopw [7] (fun v w' => ∃ pos : Nat, w' = (w.alloc (Obj.cells #[Value.int IntKind.i64 0, Value.string { data := #[] }, Value.int IntKind.i64 0, Value.int IntKind.i64 0] 91)).alloc (.stringIter (s.extract a s.size) pos) ∧ v = .int .i64 s.size ∧ a + pos ≤ s.size ∧ token_name.stop s (s.size - a - pos) (a + pos) = E) (fun _ w' => s.size - w'.iterPos (w.heap.size + 1))
 case atStart => exact ⟨0, rfl, rfl, by omega, HE.out⟩
 case round =>
  obtain ⟨pos, rfl, rfl, hp, he⟩ := hrel; have HS := Lib.hid he; clear he
  by_cases hlt : a + pos < s.size
  ·have hlt2 : pos < (s.extract a s.size).size := by rw [HX.out]; omega
   have HB := Lib.hid (token_name.at_pos s a pos hlt hlt2)
   by_cases h128 : ((s.extract a s.size)[pos]'hlt2).toNat < 128
   ·have hnx := fun ty => token_name.nx_ascii Try.prog (w.alloc (Obj.cells #[Value.int IntKind.i64 0, Value.string { data := #[] }, Value.int IntKind.i64 0, Value.int IntKind.i64 0] 91)) (w.heap.size + 1) (s.extract a s.size) pos ty (token_name.aw_size w) hlt2 _ rfl h128
    generalize (((s.extract a s.size)[pos]'hlt2).toNat) = c at *
    have hc : decide ((c : Int) ≥ 128) = false := by simp; omega
    obtain ⟨bl, hl⟩ : ∃ b, (decide (97 ≤ (c : Int) ∧ (c : Int) ≤ 122) || decide ((c : Int) = 95)) = b := ⟨_, rfl⟩
    obtain ⟨bd, hd⟩ : ∃ b, decide (48 ≤ (c : Int) ∧ (c : Int) ≤ 57) = b := ⟨_, rfl⟩
    have HLt := Lib.hid hl; have HDg := Lib.hid hd; clear hl hd; have HN : Hid (token_name.nb (bt s ((a + pos : Nat) : Int)) = (bl || bd)) := Lib.hid (by rw [← HB.out]; unfold token_name.nb; rw [HLt.out, HDg.out]); have HST := Lib.hid (token_name.stop_step s a pos E hlt _ HN.out HS.out)
    cases bl with
    | true =>
     go_wp2_with (first | (go_at_call 143; refine (token_name.letter_same _ _ _ HLt.out).mono ?_; rintro e w' ⟨rfl, rfl⟩) | (go_at_call 145; refine (token_name.digit_same _ _ _ HDg.out).mono ?_; rintro e w' ⟨rfl, rfl⟩))
     refine ⟨⟨pos + 1, rfl, rfl, by omega, HST.out⟩, ?_⟩; rw [token_name.iter_at, token_name.iter_at]; omega
    | false =>
     cases bd with
     | true =>
      go_wp2_with (first | (go_at_call 143; refine (token_name.letter_same _ _ _ HLt.out).mono ?_; rintro e w' ⟨rfl, rfl⟩) | (go_at_call 145; refine (token_name.digit_same _ _ _ HDg.out).mono ?_; rintro e w' ⟨rfl, rfl⟩))
      refine ⟨⟨pos + 1, rfl, rfl, by omega, HST.out⟩, ?_⟩; rw [token_name.iter_at, token_name.iter_at]; omega
     | false =>
      have hEq : a + pos = E := HST.out; obtain rfl := hEq
      have h33 : pos ≤ 32 := by omega
      have hsl := token_name.slice_at s a pos hp
      go_wp2_with (first | (go_at_call 143; refine (token_name.letter_same _ _ _ HLt.out).mono ?_; rintro e w' ⟨rfl, rfl⟩) | (go_at_call 145; refine (token_name.digit_same _ _ _ HDg.out).mono ?_; rintro e w' ⟨rfl, rfl⟩))
      refine (schema_Word.calls k _ _ _ HWd.out).mono ?_; rintro e w1 ⟨rfl, hd⟩; have hb := hd.below; clear hd; obtain ⟨hcc, hff⟩ := token_name.bcell hb
      have hz : w.heap.size + 1 + 1 < w1.heap.size := by have := hb.size; simp at this; omega
      have HBel := Lib.hid (Below.trans (below_alloc (below_alloc (below_alloc (Below.refl w.heap.size w) _) _) _) (hb.mono (by simp; omega))); clear hb
      go_wp2_with fail
      have g0 : w1.cell? ⟨w.heap.size, 0, none⟩ = some (.int .i64 0) := by rw [hcc _ _ (by simp; omega)]; simp [go_sem]
      have g1 : w1.cell? ⟨w.heap.size, 1, none⟩ = some (.string (⟨#[]⟩ : ByteArray)) := by rw [hcc _ _ (by simp; omega)]; simp [go_sem]
      have g2 : w1.cell? ⟨w.heap.size, 2, none⟩ = some (.int .i64 0) := by rw [hcc _ _ (by simp; omega)]; simp [go_sem]
      have g3 : w1.cell? ⟨w.heap.size, 3, none⟩ = some (.int .i64 0) := by rw [hcc _ _ (by simp; omega)]; simp [go_sem]
      have gg : ∀ x j, (w1.setCell ⟨w.heap.size + 1 + 1, 0, none⟩ x).cell? ⟨w.heap.size, j, none⟩ = w1.cell? ⟨w.heap.size, j, none⟩ := fun x j => by first | exact World.cell?_setCell_other _ _ _ _ (by simp) | exact World.cell?_setCell_other _ _ _ _ (by simp; omega) | exact World.cell?_setCell_other (by simp) | exact World.cell?_setCell_other (by simp; omega)
      refine bodyPost_ret (v := .tuple #[.agg #[.int .i64 2, .string (s.extract a (a + pos)), .int .i64 0, .int .i64 a], .int .i64 ((a : Int) + pos), .int .i64 0]) (by simp [results, Try.results144, go_sem, gg, g0, g1, g2, g3]) rfl ⟨by simp, ?_⟩
      repeat (first | (with_reducible exact HBel.out) | (with_reducible exact Below.refl _ _) | (with_reducible refine below_alloc ?_ _) | (with_reducible refine pw_below_drewN ?_ _) | (with_reducible refine below_set ?_ ?_) | omega)
   ·obtain ⟨r, p, hr, hnx⟩ := token_name.nx_high Try.prog (w.alloc (Obj.cells #[Value.int IntKind.i64 0, Value.string { data := #[] }, Value.int IntKind.i64 0, Value.int IntKind.i64 0] 91)) (w.heap.size + 1) (s.extract a s.size) pos (token_name.aw_size w) hlt2 (by omega)
    have hc : decide ((r : Int) ≥ 128) = true := by simp; omega
    have HN : Hid (token_name.nb (bt s ((a + pos : Nat) : Int)) = false) := Lib.hid (by
     rw [← HB.out]
     generalize (((s.extract a s.size)[pos]'hlt2).toNat) = c at *
     unfold token_name.nb; simp; omega)
    have HST := Lib.hid (token_name.stop_step s a pos E hlt _ HN.out HS.out); have hEq : a + pos = E := HST.out; obtain rfl := hEq
    have h33 : pos ≤ 32 := by omega
    have hsl := token_name.slice_at s a pos hp
    go_wp2_with fail
    refine (schema_Word.calls k _ _ _ HWd.out).mono ?_; rintro e w1 ⟨rfl, hd⟩; have hb := hd.below; clear hd; obtain ⟨hcc, hff⟩ := token_name.bcell hb
    have hz : w.heap.size + 1 + 1 < w1.heap.size := by have := hb.size; simp at this; omega
    have HBel := Lib.hid (Below.trans (below_alloc (below_alloc (below_alloc (Below.refl w.heap.size w) _) _) _) (hb.mono (by simp; omega))); clear hb
    go_wp2_with fail
    have g0 : w1.cell? ⟨w.heap.size, 0, none⟩ = some (.int .i64 0) := by rw [hcc _ _ (by simp; omega)]; simp [go_sem]
    have g1 : w1.cell? ⟨w.heap.size, 1, none⟩ = some (.string (⟨#[]⟩ : ByteArray)) := by rw [hcc _ _ (by simp; omega)]; simp [go_sem]
    have g2 : w1.cell? ⟨w.heap.size, 2, none⟩ = some (.int .i64 0) := by rw [hcc _ _ (by simp; omega)]; simp [go_sem]
    have g3 : w1.cell? ⟨w.heap.size, 3, none⟩ = some (.int .i64 0) := by rw [hcc _ _ (by simp; omega)]; simp [go_sem]
    have gg : ∀ x j, (w1.setCell ⟨w.heap.size + 1 + 1, 0, none⟩ x).cell? ⟨w.heap.size, j, none⟩ = w1.cell? ⟨w.heap.size, j, none⟩ := fun x j => by first | exact World.cell?_setCell_other _ _ _ _ (by simp) | exact World.cell?_setCell_other _ _ _ _ (by simp; omega) | exact World.cell?_setCell_other (by simp) | exact World.cell?_setCell_other (by simp; omega)
    refine bodyPost_ret (v := .tuple #[.agg #[.int .i64 2, .string (s.extract a (a + pos)), .int .i64 0, .int .i64 a], .int .i64 ((a : Int) + pos), .int .i64 0]) (by simp [results, Try.results144, go_sem, gg, g0, g1, g2, g3]) rfl ⟨by simp, ?_⟩
    repeat (first | (with_reducible exact HBel.out) | (with_reducible exact Below.refl _ _) | (with_reducible refine below_alloc ?_ _) | (with_reducible refine pw_below_drewN ?_ _) | (with_reducible refine below_set ?_ ?_) | omega)
  ·have hlt2 : ¬ pos < (s.extract a s.size).size := by rw [HX.out]; omega
   have hnx := fun ty => token_name.nx_end Try.prog (w.alloc (Obj.cells #[Value.int IntKind.i64 0, Value.string { data := #[] }, Value.int IntKind.i64 0, Value.int IntKind.i64 0] 91)) (w.heap.size + 1) (s.extract a s.size) pos ty (token_name.aw_size w) hlt2
   have hEq : s.size = E := by have := HS.out; rw [show s.size - a - pos = 0 by omega] at this; unfold token_name.stop at this; omega
   obtain rfl := hEq
   have h33 : s.size ≤ a + 32 := by omega
   go_wp2_with fail
   refine (schema_Word.calls k _ _ _ HWd.out).mono ?_; rintro e w1 ⟨rfl, hd⟩; have hb := hd.below; clear hd; obtain ⟨hcc, hff⟩ := token_name.bcell hb
   have hz : w.heap.size + 1 + 1 < w1.heap.size := by have := hb.size; simp at this; omega
   have HBel := Lib.hid (Below.trans (below_alloc (below_alloc (below_alloc (Below.refl w.heap.size w) _) _) _) (hb.mono (by simp; omega))); clear hb
   go_wp2_with fail
   have g0 : w1.cell? ⟨w.heap.size, 0, none⟩ = some (.int .i64 0) := by rw [hcc _ _ (by simp; omega)]; simp [go_sem]
   have g1 : w1.cell? ⟨w.heap.size, 1, none⟩ = some (.string (⟨#[]⟩ : ByteArray)) := by rw [hcc _ _ (by simp; omega)]; simp [go_sem]
   have g2 : w1.cell? ⟨w.heap.size, 2, none⟩ = some (.int .i64 0) := by rw [hcc _ _ (by simp; omega)]; simp [go_sem]
   have g3 : w1.cell? ⟨w.heap.size, 3, none⟩ = some (.int .i64 0) := by rw [hcc _ _ (by simp; omega)]; simp [go_sem]
   have gg : ∀ x j, (w1.setCell ⟨w.heap.size + 1 + 1, 0, none⟩ x).cell? ⟨w.heap.size, j, none⟩ = w1.cell? ⟨w.heap.size, j, none⟩ := fun x j => by first | exact World.cell?_setCell_other _ _ _ _ (by simp) | exact World.cell?_setCell_other _ _ _ _ (by simp; omega) | exact World.cell?_setCell_other (by simp) | exact World.cell?_setCell_other (by simp; omega)
   refine bodyPost_ret (v := .tuple #[.agg #[.int .i64 2, .string (s.extract a s.size), .int .i64 0, .int .i64 a], .int .i64 (s.size : Int), .int .i64 0]) (by simp [results, Try.results144, go_sem, gg, g0, g1, g2, g3]) rfl ⟨by simp, ?_⟩
   repeat (first | (with_reducible exact HBel.out) | (with_reducible exact Below.refl _ _) | (with_reducible refine below_alloc ?_ _) | (with_reducible refine pw_below_drewN ?_ _) | (with_reducible refine below_set ?_ ?_) | omega)

set_option maxHeartbeats 4000000 in
theorem token_name.core_false (k : Nat) (s : ByteArray) (a : Nat) (w : World) (ha : a ≤ s.size) (hs : s.size ≤ 9223372036854775807) (E : Nat) (hE : token_name.stop s (s.size - a) a = E) (h32 : E ≤ a + 32) (hw : schema_Word.f k (s.extract a E) = some false) :
  Calls Try.prog 144 #[.string s, .int .i64 a] w (token_name.Post w 1 (s.extract a E) 0 a E 0) := by
 have hu_tok := Try.underlying91; have HE := Lib.hid hE; clear hE
 have hx : (s.extract a s.size).size = s.size - a := by simp [ByteArray.size_extract]
 have HX := Lib.hid hx; clear hx; have HWd := Lib.hid hw; clear hw
 go_enter Try.func144, Try.ntmps144
 go_wp2
 go_loopw [7] (fun v w' => ∃ pos : Nat, w' = (w.alloc (Obj.cells #[Value.int IntKind.i64 0, Value.string { data := #[] }, Value.int IntKind.i64 0, Value.int IntKind.i64 0] 91)).alloc (.stringIter (s.extract a s.size) pos) ∧ v = .int .i64 s.size ∧ a + pos ≤ s.size ∧ token_name.stop s (s.size - a - pos) (a + pos) = E) (fun _ w' => s.size - w'.iterPos (w.heap.size + 1))
 case atStart => exact ⟨0, rfl, rfl, by omega, HE.out⟩
 case round =>
  obtain ⟨pos, rfl, rfl, hp, he⟩ := hrel; have HS := Lib.hid he; clear he
  by_cases hlt : a + pos < s.size
  ·have hlt2 : pos < (s.extract a s.size).size := by rw [HX.out]; omega
   have HB := Lib.hid (token_name.at_pos s a pos hlt hlt2)
   by_cases h128 : ((s.extract a s.size)[pos]'hlt2).toNat < 128
   ·have hnx := fun ty => token_name.nx_ascii Try.prog (w.alloc (Obj.cells #[Value.int IntKind.i64 0, Value.string { data := #[] }, Value.int IntKind.i64 0, Value.int IntKind.i64 0] 91)) (w.heap.size + 1) (s.extract a s.size) pos ty (token_name.aw_size w) hlt2 _ rfl h128
    generalize (((s.extract a s.size)[pos]'hlt2).toNat) = c at *
    have hc : decide ((c : Int) ≥ 128) = false := by simp; omega
    obtain ⟨bl, hl⟩ : ∃ b, (decide (97 ≤ (c : Int) ∧ (c : Int) ≤ 122) || decide ((c : Int) = 95)) = b := ⟨_, rfl⟩
    obtain ⟨bd, hd⟩ : ∃ b, decide (48 ≤ (c : Int) ∧ (c : Int) ≤ 57) = b := ⟨_, rfl⟩
    have HLt := Lib.hid hl; have HDg := Lib.hid hd; clear hl hd; have HN : Hid (token_name.nb (bt s ((a + pos : Nat) : Int)) = (bl || bd)) := Lib.hid (by rw [← HB.out]; unfold token_name.nb; rw [HLt.out, HDg.out]); have HST := Lib.hid (token_name.stop_step s a pos E hlt _ HN.out HS.out)
    cases bl with
    | true =>
     go_wp2_with (first | (go_at_call 143; refine (token_name.letter_same _ _ _ HLt.out).mono ?_; rintro e w' ⟨rfl, rfl⟩) | (go_at_call 145; refine (token_name.digit_same _ _ _ HDg.out).mono ?_; rintro e w' ⟨rfl, rfl⟩))
     refine ⟨⟨pos + 1, rfl, rfl, by omega, HST.out⟩, ?_⟩; rw [token_name.iter_at, token_name.iter_at]; omega
    | false =>
     cases bd with
     | true =>
      go_wp2_with (first | (go_at_call 143; refine (token_name.letter_same _ _ _ HLt.out).mono ?_; rintro e w' ⟨rfl, rfl⟩) | (go_at_call 145; refine (token_name.digit_same _ _ _ HDg.out).mono ?_; rintro e w' ⟨rfl, rfl⟩))
      refine ⟨⟨pos + 1, rfl, rfl, by omega, HST.out⟩, ?_⟩; rw [token_name.iter_at, token_name.iter_at]; omega
     | false =>
      have hEq : a + pos = E := HST.out; obtain rfl := hEq
      have h33 : pos ≤ 32 := by omega
      have hsl := token_name.slice_at s a pos hp
      go_wp2_with (first | (go_at_call 143; refine (token_name.letter_same _ _ _ HLt.out).mono ?_; rintro e w' ⟨rfl, rfl⟩) | (go_at_call 145; refine (token_name.digit_same _ _ _ HDg.out).mono ?_; rintro e w' ⟨rfl, rfl⟩))
      refine (schema_Word.calls k _ _ _ HWd.out).mono ?_; rintro e w1 ⟨rfl, hd⟩; have hb := hd.below; clear hd; obtain ⟨hcc, hff⟩ := token_name.bcell hb
      have hz : w.heap.size + 1 + 1 < w1.heap.size := by have := hb.size; simp at this; omega
      have HBel := Lib.hid (Below.trans (below_alloc (below_alloc (below_alloc (Below.refl w.heap.size w) _) _) _) (hb.mono (by simp; omega))); clear hb
      go_wp2_with fail
      have g0 : w1.cell? ⟨w.heap.size, 0, none⟩ = some (.int .i64 0) := by rw [hcc _ _ (by simp; omega)]; simp [go_sem]
      have g1 : w1.cell? ⟨w.heap.size, 1, none⟩ = some (.string (⟨#[]⟩ : ByteArray)) := by rw [hcc _ _ (by simp; omega)]; simp [go_sem]
      have g2 : w1.cell? ⟨w.heap.size, 2, none⟩ = some (.int .i64 0) := by rw [hcc _ _ (by simp; omega)]; simp [go_sem]
      have g3 : w1.cell? ⟨w.heap.size, 3, none⟩ = some (.int .i64 0) := by rw [hcc _ _ (by simp; omega)]; simp [go_sem]
      have gg : ∀ x j, (w1.setCell ⟨w.heap.size + 1 + 1, 0, none⟩ x).cell? ⟨w.heap.size, j, none⟩ = w1.cell? ⟨w.heap.size, j, none⟩ := fun x j => by first | exact World.cell?_setCell_other _ _ _ _ (by simp) | exact World.cell?_setCell_other _ _ _ _ (by simp; omega) | exact World.cell?_setCell_other (by simp) | exact World.cell?_setCell_other (by simp; omega)
      refine bodyPost_ret (v := .tuple #[.agg #[.int .i64 1, .string (s.extract a (a + pos)), .int .i64 0, .int .i64 a], .int .i64 ((a : Int) + pos), .int .i64 0]) (by simp [results, Try.results144, go_sem, gg, g0, g1, g2, g3]) rfl ⟨by simp, ?_⟩
      repeat (first | (with_reducible exact HBel.out) | (with_reducible exact Below.refl _ _) | (with_reducible refine below_alloc ?_ _) | (with_reducible refine pw_below_drewN ?_ _) | (with_reducible refine below_set ?_ ?_) | omega)
   ·obtain ⟨r, p, hr, hnx⟩ := token_name.nx_high Try.prog (w.alloc (Obj.cells #[Value.int IntKind.i64 0, Value.string { data := #[] }, Value.int IntKind.i64 0, Value.int IntKind.i64 0] 91)) (w.heap.size + 1) (s.extract a s.size) pos (token_name.aw_size w) hlt2 (by omega)
    have hc : decide ((r : Int) ≥ 128) = true := by simp; omega
    have HN : Hid (token_name.nb (bt s ((a + pos : Nat) : Int)) = false) := Lib.hid (by
     rw [← HB.out]
     generalize (((s.extract a s.size)[pos]'hlt2).toNat) = c at *
     unfold token_name.nb; simp; omega)
    have HST := Lib.hid (token_name.stop_step s a pos E hlt _ HN.out HS.out); have hEq : a + pos = E := HST.out; obtain rfl := hEq
    have h33 : pos ≤ 32 := by omega
    have hsl := token_name.slice_at s a pos hp
    go_wp2_with fail
    refine (schema_Word.calls k _ _ _ HWd.out).mono ?_; rintro e w1 ⟨rfl, hd⟩; have hb := hd.below; clear hd; obtain ⟨hcc, hff⟩ := token_name.bcell hb
    have hz : w.heap.size + 1 + 1 < w1.heap.size := by have := hb.size; simp at this; omega
    have HBel := Lib.hid (Below.trans (below_alloc (below_alloc (below_alloc (Below.refl w.heap.size w) _) _) _) (hb.mono (by simp; omega))); clear hb
    go_wp2_with fail
    have g0 : w1.cell? ⟨w.heap.size, 0, none⟩ = some (.int .i64 0) := by rw [hcc _ _ (by simp; omega)]; simp [go_sem]
    have g1 : w1.cell? ⟨w.heap.size, 1, none⟩ = some (.string (⟨#[]⟩ : ByteArray)) := by rw [hcc _ _ (by simp; omega)]; simp [go_sem]
    have g2 : w1.cell? ⟨w.heap.size, 2, none⟩ = some (.int .i64 0) := by rw [hcc _ _ (by simp; omega)]; simp [go_sem]
    have g3 : w1.cell? ⟨w.heap.size, 3, none⟩ = some (.int .i64 0) := by rw [hcc _ _ (by simp; omega)]; simp [go_sem]
    have gg : ∀ x j, (w1.setCell ⟨w.heap.size + 1 + 1, 0, none⟩ x).cell? ⟨w.heap.size, j, none⟩ = w1.cell? ⟨w.heap.size, j, none⟩ := fun x j => by first | exact World.cell?_setCell_other _ _ _ _ (by simp) | exact World.cell?_setCell_other _ _ _ _ (by simp; omega) | exact World.cell?_setCell_other (by simp) | exact World.cell?_setCell_other (by simp; omega)
    refine bodyPost_ret (v := .tuple #[.agg #[.int .i64 1, .string (s.extract a (a + pos)), .int .i64 0, .int .i64 a], .int .i64 ((a : Int) + pos), .int .i64 0]) (by simp [results, Try.results144, go_sem, gg, g0, g1, g2, g3]) rfl ⟨by simp, ?_⟩
    repeat (first | (with_reducible exact HBel.out) | (with_reducible exact Below.refl _ _) | (with_reducible refine below_alloc ?_ _) | (with_reducible refine pw_below_drewN ?_ _) | (with_reducible refine below_set ?_ ?_) | omega)
  ·have hlt2 : ¬ pos < (s.extract a s.size).size := by rw [HX.out]; omega
   have hnx := fun ty => token_name.nx_end Try.prog (w.alloc (Obj.cells #[Value.int IntKind.i64 0, Value.string { data := #[] }, Value.int IntKind.i64 0, Value.int IntKind.i64 0] 91)) (w.heap.size + 1) (s.extract a s.size) pos ty (token_name.aw_size w) hlt2
   have hEq : s.size = E := by have := HS.out; rw [show s.size - a - pos = 0 by omega] at this; unfold token_name.stop at this; omega
   obtain rfl := hEq
   have h33 : s.size ≤ a + 32 := by omega
   go_wp2_with fail
   refine (schema_Word.calls k _ _ _ HWd.out).mono ?_; rintro e w1 ⟨rfl, hd⟩; have hb := hd.below; clear hd; obtain ⟨hcc, hff⟩ := token_name.bcell hb
   have hz : w.heap.size + 1 + 1 < w1.heap.size := by have := hb.size; simp at this; omega
   have HBel := Lib.hid (Below.trans (below_alloc (below_alloc (below_alloc (Below.refl w.heap.size w) _) _) _) (hb.mono (by simp; omega))); clear hb
   go_wp2_with fail
   have g0 : w1.cell? ⟨w.heap.size, 0, none⟩ = some (.int .i64 0) := by rw [hcc _ _ (by simp; omega)]; simp [go_sem]
   have g1 : w1.cell? ⟨w.heap.size, 1, none⟩ = some (.string (⟨#[]⟩ : ByteArray)) := by rw [hcc _ _ (by simp; omega)]; simp [go_sem]
   have g2 : w1.cell? ⟨w.heap.size, 2, none⟩ = some (.int .i64 0) := by rw [hcc _ _ (by simp; omega)]; simp [go_sem]
   have g3 : w1.cell? ⟨w.heap.size, 3, none⟩ = some (.int .i64 0) := by rw [hcc _ _ (by simp; omega)]; simp [go_sem]
   have gg : ∀ x j, (w1.setCell ⟨w.heap.size + 1 + 1, 0, none⟩ x).cell? ⟨w.heap.size, j, none⟩ = w1.cell? ⟨w.heap.size, j, none⟩ := fun x j => by first | exact World.cell?_setCell_other _ _ _ _ (by simp) | exact World.cell?_setCell_other _ _ _ _ (by simp; omega) | exact World.cell?_setCell_other (by simp) | exact World.cell?_setCell_other (by simp; omega)
   refine bodyPost_ret (v := .tuple #[.agg #[.int .i64 1, .string (s.extract a s.size), .int .i64 0, .int .i64 a], .int .i64 (s.size : Int), .int .i64 0]) (by simp [results, Try.results144, go_sem, gg, g0, g1, g2, g3]) rfl ⟨by simp, ?_⟩
   repeat (first | (with_reducible exact HBel.out) | (with_reducible exact Below.refl _ _) | (with_reducible refine below_alloc ?_ _) | (with_reducible refine pw_below_drewN ?_ _) | (with_reducible refine below_set ?_ ?_) | omega)

theorem token_name.calls (k : Nat) (a0 : ByteArray) (a1 : Int) (r1 : Int) (r2 : ByteArray) (r3 : Int) (r4 : Int) (r5 : Int) (r6 : Int) (w : World) (h : token_name.f k a0 a1 = some (r1, r2, r3, r4, r5, r6)) :
  Calls Try.prog 144 #[.string a0, .int .i64 a1] w fun e w' => e = .returned (.tuple #[.agg #[.int .i64 r1, .string r2, .int .i64 r3, .int .i64 r4], .int .i64 r5, .int .i64 r6]) ∧ Below w.heap.size w w' := by
 unfold token_name.f at h
 split at h
 ·rename_i c
  obtain ⟨c0, c1, c2⟩ := c; obtain ⟨a, rfl⟩ := Int.eq_ofNat_of_zero_le c0; rw [Int.toNat_natCast] at h
  obtain ⟨E, hE⟩ : ∃ E, token_name.stop a0 (a0.size - a) a = E := ⟨_, rfl⟩
  rw [hE] at h
  split at h
  ·rename_i c3
   obtain ⟨rfl, rfl, rfl, rfl, rfl, rfl⟩ : 0 = r1 ∧ (⟨#[]⟩ : ByteArray) = r2 ∧ 0 = r3 ∧ 0 = r4 ∧ (a : Int) = r5 ∧ 1 = r6 := by simpa using h
   exact token_name.core_long k a0 a w (by omega) c2 E hE (by omega)
  ·rename_i c3
   rw [Option.bind_eq_some_iff] at h; obtain ⟨t, ht, h⟩ := h
   cases t with
   | true =>
    obtain ⟨rfl, rfl, rfl, rfl, rfl, rfl⟩ : 2 = r1 ∧ a0.extract a E = r2 ∧ 0 = r3 ∧ (a : Int) = r4 ∧ (E : Int) = r5 ∧ 0 = r6 := by simpa using h
    exact token_name.core_true k a0 a w (by omega) c2 E hE (by omega) ht
   | false =>
    obtain ⟨rfl, rfl, rfl, rfl, rfl, rfl⟩ : 1 = r1 ∧ a0.extract a E = r2 ∧ 0 = r3 ∧ (a : Int) = r4 ∧ (E : Int) = r5 ∧ 0 = r6 := by simpa using h
    exact token_name.core_false k a0 a w (by omega) c2 E hE (by omega) ht
 ·exact absurd h (by simp)

end Go.Proofs.Ytcfgjaggccnoaaa.PParseSmall
