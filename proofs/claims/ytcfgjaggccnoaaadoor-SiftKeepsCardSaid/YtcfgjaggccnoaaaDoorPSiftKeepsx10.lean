import Derived.Test.YtcfgjaggccnoaaaDoorPSiftKeepsx0
import Derived.Test.YtcfgjaggccnoaaaDoorPSiftKeepsx1
namespace Go.Proofs.YtcfgjaggccnoaaaDoor.PSiftKeeps
open Go.RowKit Go.Proofs.YtcfgjaggccnoaaaDoorW.PrintWords Go.Proofs.YtcfgjaggccnoaaaDoorW.PrintLast Go.Proofs.YtcfgjaggccnoaaaDoorW.PrintMore
attribute [local go_sem] max2_int min2_int max_two min_two max_three min_three max_four min_four
set_option linter.unusedVariables false
set_option maxHeartbeats 8000000
set_option linter.unusedSimpArgs false
set_option maxRecDepth 100000

def w20_code.f (a0 : Int) : Option (Int) := some a0
theorem w20_code.calls (a0 : Int) (r : Int) (w : World) (h : w20_code.f a0 = some r) :
  Calls Tryd.prog 44 #[.int .i64 a0] w fun e w' => e = .returned (.int .i64 r) ∧ Drawn0 w w' := by
 have H : (some a0) = some r := h; clear h; obtain rfl := Option.some.inj H
 go_enter Tryd.func44, Tryd.ntmps44
 go_wp2
 go_ret
 exact ⟨rs_, by repeat (first | exact Drawn0.refl _ | apply Drawn0.step)⟩

def r20_wholes.l0 : Nat → List (List (S23)) → List (List (S23)) → Int → Option ((List (List (S23))))
 | 0, _, _, _ => none
 | k + 1, x0, x3, x4 => if x4 < (x0.length : Int) then (if 0 ≤ x4 then ((r20_Whole.f k (rd_L6 x0 x4)).bind fun t334 => (if t334 = true then (if x3.length < 5864062014805 then (r20_wholes.l0 k x0 (x3 ++ [rd_L6 x0 x4]) (wrap64 (x4 + 1))) else (none)) else (r20_wholes.l0 k x0 x3 (wrap64 (x4 + 1))))) else (none)) else (some x3)
def r20_wholes.f (k : Nat) (l0 : List (List (S23))) : Option ((List (List (S23)))) := r20_wholes.l0 k l0 ([] : List (List (S23))) 0
theorem r20_wholes.mono_l : ∀ k, (∀ y0 y1 y2, LeO (r20_wholes.l0 k y0 y1 y2) (r20_wholes.l0 (k + 1) y0 y1 y2))
 | 0 => fun _ _ _ r h => by simp [r20_wholes.l0] at h
 | k + 1 => by
  have ih0 := r20_wholes.mono_l k
  ·intro y0 y1 y2
   unfold r20_wholes.l0
   repeat' first
   | (with_reducible exact ih0 _ _ _)
   | (with_reducible exact r20_Whole.mono _ _)
   | (with_reducible exact LeO.refl _)
   | (with_reducible exact LeO.none _)
   | (with_reducible refine LeO.ite ?_ ?_)
   | (with_reducible refine LeO.bind ?_ (fun _ => ?_))
   | exact ih0 _ _ _
   | exact r20_Whole.mono _ _
   | exact LeO.none _
   | refine LeO.ite ?_ ?_
   | refine LeO.bind ?_ (fun _ => ?_)
theorem r20_wholes.mono : ∀ a0 k, LeO (r20_wholes.f k a0) (r20_wholes.f (k + 1) a0) := by
 intro a0 k; have ih0 := r20_wholes.mono_l k; unfold r20_wholes.f
 repeat' first
   | (with_reducible exact ih0 _ _ _)
   | (with_reducible exact r20_Whole.mono _ _)
   | (with_reducible exact LeO.refl _)
   | (with_reducible exact LeO.none _)
   | (with_reducible refine LeO.ite ?_ ?_)
   | (with_reducible refine LeO.bind ?_ (fun _ => ?_))
   | exact ih0 _ _ _
   | exact r20_Whole.mono _ _
   | exact LeO.none _
   | refine LeO.ite ?_ ?_
   | refine LeO.bind ?_ (fun _ => ?_)
theorem r20_wholes.calls (k : Nat) (P0_ : Nat → Prop) (A0 : Option Addr) (c0 : Nat) (l0 : List (List (S23))) (r : List (List (S23))) (w : World) (hs0 : Kd.V (Kd.slice 23 k23) 24 w w.heap.size (fun k_ => P0_ k_) (.slice A0 l0.length c0) l0) (h : r20_wholes.f k l0 = some r) :
  Calls Tryd.prog 85 #[.slice A0 l0.length c0] w fun e w' => ∃ v0_ : Value, e = .returned (v0_) ∧ Kd.N (Kd.slice 23 k23) 24 w' w.heap.size (fun k_ => (P0_ k_ ∨ w.heap.size ≤ k_)) v0_ r ∧ Below w.heap.size w w' := by
 have HO0 := am_ (show Kd.V (Kd.slice 23 k23) 24 w w.heap.size (fun k_ => (P0_ k_ ∨ w.heap.size ≤ k_)) (.slice A0 l0.length c0) l0 from Kd.V_mono hs0 (fun k_ hk => .inl hk)); have HB := am_ (Below.refl w.heap.size w); have H : (r20_wholes.l0 k l0 ([] : List (List (S23))) 0) = some r := h; clear h; have H' := am_ H; clear H
 go_enter Tryd.func85, Tryd.ntmps85
 go_wp2
 go_loopg [3, 4] k (fun kq v3 v4 w' => ∃ (x3_1 : List (List (S23))) (x4_1 : Int), v4 = .int .i64 x4_1 ∧ Aside0 (r20_wholes.l0 kq l0 x3_1 x4_1 = some r) ∧ Aside0 (kq ≤ k) ∧ Aside0 (Kd.V (Kd.slice 23 k23) 24 w' w.heap.size (fun k_ => (P0_ k_ ∨ w.heap.size ≤ k_) ∧ some k_ ≠ (v3 : Value).ownBlock) (.slice A0 l0.length c0) l0) ∧ Aside0 (Kd.N (Kd.slice 23 k23) 24 w' w.heap.size (fun k_ => (P0_ k_ ∨ w.heap.size ≤ k_)) v3 x3_1) ∧ Aside0 (Below w.heap.size w w'))
 case atStart => exact ⟨(([] : List (List (S23)))), (0), (rs_), H', ⟨Nat.le_refl _⟩, ⟨by (with_reducible repeat (first | apply Kd.V_alloc | apply Kd.V_drewN | apply Kd.V_drew)); exact Kd.V_mono HO0.out (fun _ hk => ⟨hk, (by simp [Value.ownBlock])⟩)⟩, ⟨by first | exact Kd.S_nil _ _ _ _ _ | exact Kd.N_nil _ _ _ _ _ | exact Kd.V_nil _ _ _ _ _ | exact Kd.Q_nil _ _ _ _ _ | exact Kd.R_nil _ _ _ _ _⟩, ⟨bl_⟩⟩
 case round =>
  clear H'; obtain ⟨x3_1, x4_1, rfl, HA, HK1, HO_0, HO_3, HB⟩ := hrel
  cases gk with
  | zero => exact absurd HA.out (by simp [r20_wholes.l0])
  | succ k1 =>
   have H := HA.out; clear HA; simp only [r20_wholes.l0] at H
   by_cases c2 : x4_1 < (l0.length : Int)
   ·rw [if_pos c2] at H
    have c2b0 : decide (x4_1 < (l0.length : Int)) = true := decide_eq_true c2; clear c2
    by_cases c3 : 0 ≤ x4_1
    ·rw [if_pos c3] at H
     have c3b0 : decide (0 ≤ x4_1) = true := decide_eq_true c3; clear c3; replace H := Option.bind_eq_some_iff.mp H; obtain ⟨t334, A40, H⟩ := H; replace H : (if t334 = true then (if x3_1.length < 5864062014805 then (r20_wholes.l0 k1 l0 (x3_1 ++ [rd_L6 l0 x4_1]) (wrap64 (x4_1 + 1))) else (none)) else (r20_wholes.l0 k1 l0 x3_1 (wrap64 (x4_1 + 1)))) = some r := H; have A4 := am_ A40; clear A40
     by_cases c5 : t334 = true
     ·subst c5
      have H1 : (if x3_1.length < 5864062014805 then (r20_wholes.l0 k1 l0 (x3_1 ++ [rd_L6 l0 x4_1]) (wrap64 (x4_1 + 1))) else (none)) = some r := by rw [if_pos rfl] at H; exact H
      clear H; have H := H1; clear H1
      by_cases c6 : x3_1.length < 5864062014805
      ·rw [if_pos c6] at H
       have LMc6 := am_ c6; clear c6
       obtain ⟨y336, hy336⟩ : ∃ y_ : List (List (S23)), y_ = (x3_1 ++ [rd_L6 l0 x4_1]) := ⟨_, rfl⟩
       replace H : (r20_wholes.l0 k1 l0 y336 (wrap64 (x4_1 + 1))) = some r := by first | (rw [hy336]; with_reducible exact H) | (have H2_ := (Option.bind_some _ _).symm.trans H; rw [hy336]; with_reducible exact H2_) | (have H2_ := (Option.bind_some _ _).symm.trans H; with_reducible exact H2_) | with_reducible exact H | (rw [hy336]; exact H) | exact H
       have Ny336 := am_ hy336; clear hy336; have H' := am_ H; clear H; have p333 : 0 ≤ (x4_1 : Int) := of_decide_eq_true (as_); have q333 : x4_1 < (l0.length : Int) := of_decide_eq_true (as_); obtain ⟨ad333, A333_0, c333_0, e333, hx333_0, hl333_0, hi333_0⟩ := at_L6 (Kd.V_reads' HO_0.out).2.2 x4_1 p333 q333; cases e333; obtain ⟨ce333, hce333, hMe333, hcc333⟩ := Kd.V_get HO_0.out [] x4_1 p333 (by first | exact q333 | exact of_decide_eq_true (as_) | (have e_ := (Kd.V_reads' HO_0.out).1; omega)); obtain ⟨ua333_0, uc333_0, rfl, ul333_0, ge333_0⟩ := Kd.FK_slice_open hMe333; have hv333_0 := hcc333 0 _ rfl; rw [Nat.add_zero, show ((Kd.slice 23 k23)).sz = 1 from rfl, Nat.mul_one] at hv333_0; replace hv333_0 := Option.some.inj (hv333_0.symm.trans hx333_0)
       injection hv333_0 with hva_ hvn_ hvc_
       rw [hva_] at ge333_0; rw [hvc_] at ul333_0; have HL333_0 := am_ (show Kd.V k23 23 _ w.heap.size _ _ (rd_L6 l0 x4_1) from Kd.V_mk ul333_0 ge333_0); clear hva_ hvn_ hvc_ ge333_0 ul333_0; clear hcc333 hce333; have HR333_0 := am_ hi333_0; have HC333_0 := am_ hl333_0; clear hi333_0 hl333_0; replace p333 := eq_true p333; replace q333 := eq_true q333
       go_wp2_with (first | ((with_reducible refine gate_callee (f := 22) rfl ?_); refine goesL_ (some 15) rfl rfl Tryd.func22 (by kernel_rfl) rfl #[.slice A333_0 (rd_L6 l0 x4_1).length c333_0] rfl (by (try simp only [List.map_toArray, List.map_cons, List.map_nil]); first | done | rfl | (simp only [List.length_drop, List.length_take]; rfl)) ?_; (with_reducible refine (r20_Whole.calls k1 _ _ (rd_L6 l0 x4_1) true _ ?side1 ?side2 A4.out).mono ?_); (case side1 => repeat (first | exact (by repeat (first | (with_reducible exact HR333_0.out) | (with_reducible refine Kd.C_alloc ?_ _) | (with_reducible refine Kd.C_drewN ?_ _) | (with_reducible refine Kd.C_drew ?_) | exact HR333_0.out)) | (with_reducible refine Kd.C_alloc ?_ _) | (with_reducible refine Kd.C_drewN ?_ _) | (with_reducible refine Kd.C_drew ?_))); (case side2 => exact HC333_0.out); rintro e w' ⟨rfl, ⟨nd, rfl⟩⟩; refine ⟨_, rfl, ?_⟩; have p335 : 0 ≤ (x4_1 : Int) := of_decide_eq_true (as_); have q335 : x4_1 < (l0.length : Int) := of_decide_eq_true (as_); obtain ⟨ad335, A335_0, c335_0, e335, hx335_0, hl335_0, hi335_0⟩ := at_L6 (Kd.V_reads' HO_0.out).2.2 x4_1 p335 q335; obtain rfl : ad333 = ad335 := (by injection e335); obtain ⟨ce335, hce335, hMe335, hcc335⟩ := Kd.V_get HO_0.out [] x4_1 p335 (by first | exact q335 | exact of_decide_eq_true (as_) | (have e_ := (Kd.V_reads' HO_0.out).1; omega)); obtain ⟨ua335_0, uc335_0, rfl, ul335_0, ge335_0⟩ := Kd.FK_slice_open hMe335; have hv335_0 := hcc335 0 _ rfl; rw [Nat.add_zero, show ((Kd.slice 23 k23)).sz = 1 from rfl, Nat.mul_one] at hv335_0; replace hv335_0 := Option.some.inj (hv335_0.symm.trans hx335_0); injection hv335_0 with hva_ hvn_ hvc_; rw [hva_] at ge335_0; rw [hvc_] at ul335_0; have HL335_0 := am_ (show Kd.V k23 23 _ w.heap.size _ _ (rd_L6 l0 x4_1) from Kd.V_mk ul335_0 ge335_0); clear hva_ hvn_ hvc_ ge335_0 ul335_0; clear hcc335 hce335; have HR335_0 := am_ hi335_0; have HC335_0 := am_ hl335_0; clear hi335_0 hl335_0; replace p335 := eq_true p335; replace q335 := eq_true q335; have ea_ := Option.some.inj (hx333_0.symm.trans hx335_0); injection ea_ with ea_ en_ ec_; subst ea_; subst ec_; clear en_) | ((with_reducible refine gate_builtin (b := .append) (xs := #[.tmp 16, .tmp 21]) rfl ?_); at_builtin; refine Kd.N_append (Kd.slice 23 k23) (w0 := w) w.heap.size rfl (.tmp 16) (.tmp 21) 26 24 (.slice none 0 0) 24 rfl Tryd.underlying26 info24 rfl (by decide) (by omega) u3 x3_1 (rd_L6 l0 x4_1) [.slice A333_0 (rd_L6 l0 x4_1).length c333_0] (fun k_ => (P0_ k_ ∨ w.heap.size ≤ k_)) (fun k_ => ((fun k_ => (P0_ k_ ∨ w.heap.size ≤ k_))) k_ ∧ some k_ ≠ (u3 : Value).ownBlock) rfl rfl ?aP (fun _ hk => hk) ?aF ?aO ?aB ?aS ?aL ?_; (case aP => exact (Kd.FK_slice_mk (Kd.V_reads' (Kd.V_mono (ok' := (fun k_ => ((fun k_ => (P0_ k_ ∨ w.heap.size ≤ k_))) k_ ∧ some k_ ≠ (u3 : Value).ownBlock)) (kv_ (HL335_0.out)) (fun k_ hk => ⟨hk.1, hk.2⟩))).2.1 (Kd.V_F (Kd.V_mono (ok' := (fun k_ => ((fun k_ => (P0_ k_ ∨ w.heap.size ≤ k_))) k_ ∧ some k_ ≠ (u3 : Value).ownBlock)) (kv_ (HL335_0.out)) (fun k_ hk => ⟨hk.1, hk.2⟩))))); (case aB => exact (bl_)); (case aF => exact (fun k_ hk => (.inr (Nat.le_trans (below_size (bl_)) hk)))); (case aO => exact (kn_ HO_3.out)); (case aS => exact (below_size (bl_))); (case aL => have := LMc6.out; omega); intro v337 w7 ho hb hg hat; rw [← Ny336.out] at ho; replace HO_0 := am_ (Kd.V_afterv (ok := (fun k_ => (P0_ k_ ∨ w.heap.size ≤ k_))) (kv_ HO_0.out) hg hat); replace HL333_0 := am_ (Kd.V_afterv (ok := (fun k_ => (P0_ k_ ∨ w.heap.size ≤ k_))) (kv_ HL333_0.out) hg hat); replace HL335_0 := am_ (Kd.V_afterv (ok := (fun k_ => (P0_ k_ ∨ w.heap.size ≤ k_))) (kv_ HL335_0.out) hg hat); have HO338 := am_ (ho); replace HB := am_ (hb); clear HO_3; clear ho hb hg hat))
       go_roundg k1
       case measure => have := HK1.out; omega
       case rel => exact ⟨(y336), (wrap64 (x4_1 + 1)), (rs_), H', ⟨by have := HK1.out; omega⟩, ⟨kv_ HO_0.out⟩, ⟨kn_ HO338.out⟩, ⟨bl_⟩⟩
      ·rw [if_neg c6] at H
       exact absurd H (by simp)
     ·replace c5 := Bool.eq_false_iff.mpr c5
      subst c5
      have H1 : (r20_wholes.l0 k1 l0 x3_1 (wrap64 (x4_1 + 1))) = some r := by rw [if_neg (show ¬ (false = true) by decide)] at H; exact H
      clear H; have H := H1; clear H1; have H' := am_ H; clear H; have p333 : 0 ≤ (x4_1 : Int) := of_decide_eq_true (as_); have q333 : x4_1 < (l0.length : Int) := of_decide_eq_true (as_); obtain ⟨ad333, A333_0, c333_0, e333, hx333_0, hl333_0, hi333_0⟩ := at_L6 (Kd.V_reads' HO_0.out).2.2 x4_1 p333 q333; cases e333; obtain ⟨ce333, hce333, hMe333, hcc333⟩ := Kd.V_get HO_0.out [] x4_1 p333 (by first | exact q333 | exact of_decide_eq_true (as_) | (have e_ := (Kd.V_reads' HO_0.out).1; omega)); obtain ⟨ua333_0, uc333_0, rfl, ul333_0, ge333_0⟩ := Kd.FK_slice_open hMe333; have hv333_0 := hcc333 0 _ rfl; rw [Nat.add_zero, show ((Kd.slice 23 k23)).sz = 1 from rfl, Nat.mul_one] at hv333_0; replace hv333_0 := Option.some.inj (hv333_0.symm.trans hx333_0)
      injection hv333_0 with hva_ hvn_ hvc_
      rw [hva_] at ge333_0; rw [hvc_] at ul333_0; have HL333_0 := am_ (show Kd.V k23 23 _ w.heap.size _ _ (rd_L6 l0 x4_1) from Kd.V_mk ul333_0 ge333_0); clear hva_ hvn_ hvc_ ge333_0 ul333_0; clear hcc333 hce333; have HR333_0 := am_ hi333_0; have HC333_0 := am_ hl333_0; clear hi333_0 hl333_0; replace p333 := eq_true p333; replace q333 := eq_true q333
      go_wp2_with (first | ((with_reducible refine gate_callee (f := 22) rfl ?_); refine goesL_ (some 15) rfl rfl Tryd.func22 (by kernel_rfl) rfl #[.slice A333_0 (rd_L6 l0 x4_1).length c333_0] rfl (by (try simp only [List.map_toArray, List.map_cons, List.map_nil]); first | done | rfl | (simp only [List.length_drop, List.length_take]; rfl)) ?_; (with_reducible refine (r20_Whole.calls k1 _ _ (rd_L6 l0 x4_1) false _ ?side1 ?side2 A4.out).mono ?_); (case side1 => repeat (first | exact (by repeat (first | (with_reducible exact HR333_0.out) | (with_reducible refine Kd.C_alloc ?_ _) | (with_reducible refine Kd.C_drewN ?_ _) | (with_reducible refine Kd.C_drew ?_) | exact HR333_0.out)) | (with_reducible refine Kd.C_alloc ?_ _) | (with_reducible refine Kd.C_drewN ?_ _) | (with_reducible refine Kd.C_drew ?_))); (case side2 => exact HC333_0.out); rintro e w' ⟨rfl, ⟨nd, rfl⟩⟩; refine ⟨_, rfl, ?_⟩))
      go_roundg k1
      case measure => have := HK1.out; omega
      case rel => exact ⟨(x3_1), (wrap64 (x4_1 + 1)), (rs_), H', ⟨by have := HK1.out; omega⟩, ⟨kv_ HO_0.out⟩, ⟨kn_ HO_3.out⟩, ⟨bl_⟩⟩
    ·rw [if_neg c3] at H
     exact absurd H (by simp)
   ·rw [if_neg c2] at H
    have c2b0 : decide (x4_1 < (l0.length : Int)) = false := decide_eq_false c2; clear c2; obtain rfl := Option.some.inj H
    go_wp2
    go_ret
    exact ⟨_, ew_, kn_ HO_3.out, bl_⟩

def r20_Count.f (k : Nat) (l0 : List (List (S23))) : Option (Int) := (r20_wholes.f k l0).bind fun t339 => (some (t339.length : Int))
theorem r20_Count.mono : ∀ a0 k, LeO (r20_Count.f k a0) (r20_Count.f (k + 1) a0) := by
 intro a0 k; unfold r20_Count.f
 repeat' first
   | (with_reducible exact r20_wholes.mono _ _)
   | (with_reducible exact LeO.refl _)
   | (with_reducible exact LeO.none _)
   | (with_reducible refine LeO.ite ?_ ?_)
   | (with_reducible refine LeO.bind ?_ (fun _ => ?_))
   | exact r20_wholes.mono _ _
   | exact LeO.none _
   | refine LeO.ite ?_ ?_
   | refine LeO.bind ?_ (fun _ => ?_)
theorem r20_Count.calls (k : Nat) (A0 : Option Addr) (c0 : Nat) (l0 : List (List (S23))) (r : Int) (w : World) (hr0 : Kd.C (Kd.slice 23 k23) w A0 l0.length l0) (hc0 : l0.length ≤ c0) (h : r20_Count.f k l0 = some r) :
  Calls Tryd.prog 45 #[.slice A0 l0.length c0] w fun e w' => e = .returned (.int .i64 r) ∧ Below w.heap.size w w' := by
 have HR0 := am_ hr0; have HC0 := am_ hc0; clear hr0 hc0; have HB := am_ (Below.refl w.heap.size w); have H : ((r20_wholes.f k l0).bind fun t339 => (some (t339.length : Int))) = some r := h; clear h; replace H := Option.bind_eq_some_iff.mp H; obtain ⟨t339, A20, H⟩ := H; replace H : (some (t339.length : Int)) = some r := H; have A2 := am_ A20; clear A20; obtain rfl := Option.some.inj H
 go_enter Tryd.func45, Tryd.ntmps45
 go_wp2_with (first | ((with_reducible refine gate_callee (f := 85) rfl ?_); refine goesL_ (some 4) rfl rfl Tryd.func85 (by kernel_rfl) rfl #[.slice A0 l0.length c0] rfl (by (try simp only [List.map_toArray, List.map_cons, List.map_nil]); first | done | rfl | (simp only [List.length_drop, List.length_take]; rfl)) ?_; (with_reducible refine (r20_wholes.calls k (fun k_ => k_ < w.heap.size) _ _ l0 t339 _ ?side1 A2.out).mono ?_); (case side1 => exact Kd.V_mk HC0.out (Kd.F_below (Kd.C_F (Kd.heap_slice 23 k23_heap) HR0.out) (bl_))); rintro e w3 ⟨v340, rfl, ho0, hb⟩; refine ⟨_, rfl, ?_⟩; have HO341 := am_ (Kd.N_lower (Kd.N_mono (ok' := fun k_ => True) ho0 (fun k_ hk_ => trivial)) (below_size (bl_))); replace HB := am_ (below_step (bl_) hb); (try clear hb); (try clear hb2); (try clear hk); (try clear hi); (try clear ho0); obtain ⟨Ao4, co4, eo4⟩ := Kd.N_slice HO341.out; subst eo4))
 go_ret
 exact ⟨ew_, bl_⟩

end Go.Proofs.YtcfgjaggccnoaaaDoor.PSiftKeeps
