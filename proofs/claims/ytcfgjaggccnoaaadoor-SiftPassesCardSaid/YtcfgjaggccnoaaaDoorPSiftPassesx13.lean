import Derived.Test.YtcfgjaggccnoaaaDoorPSiftPassesx0
import Derived.Test.YtcfgjaggccnoaaaDoorPSiftPassesx1
import Derived.Test.YtcfgjaggccnoaaaDoorPSiftPassesx8
import Derived.Test.YtcfgjaggccnoaaaDoorPSiftPassesx9
import Derived.Test.YtcfgjaggccnoaaaDoorPSiftPassesx12
namespace Go.Proofs.YtcfgjaggccnoaaaDoor.PSiftPasses
open Go.RowKit Go.Proofs.YtcfgjaggccnoaaaDoorW.PrintWords Go.Proofs.YtcfgjaggccnoaaaDoorW.PrintLast Go.Proofs.YtcfgjaggccnoaaaDoorW.PrintMore
attribute [local go_sem] max2_int min2_int max_two min_two max_three min_three max_four min_four
set_option linter.unusedVariables false
set_option linter.unusedSimpArgs false
set_option maxRecDepth 100000

mutual
def trommelref20_Passes.l0 : Nat → Int → Int → Int → List (List (S23)) → List (S23) → List (List (S23)) → Int → Int → Option (Bool)
 | 0, _, _, _, _, _, _, _, _ => none
 | k + 1, x0, x1, x2, x3, x4, x11, x12, x13 => if x13 < (x11.length : Int) then (if 0 ≤ x13 then (if ((rd_L6 x11 x13).length : Int) > x12 then (trommelref20_Passes.l0 k x0 x1 x2 x3 x4 x11 ((rd_L6 x11 x13).length : Int) (wrap64 (x13 + 1))) else (trommelref20_Passes.l0 k x0 x1 x2 x3 x4 x11 x12 (wrap64 (x13 + 1)))) else (none)) else (if (x11.length : Int) = 0 then (trommelref20_Passes.j1 k x0 x1 x2 x3 x4 x11 true) else ((trommelref20_Whole.f k x4).bind fun t400 => (if t400 = true then (trommelref20_Passes.j1 k x0 x1 x2 x3 x4 x11 (decide ((x4.length : Int) > x12))) else (trommelref20_Passes.j1 k x0 x1 x2 x3 x4 x11 true))))
def trommelref20_Passes.j1 : Nat → Int → Int → Int → List (List (S23)) → List (S23) → List (List (S23)) → Bool → Option (Bool)
 | 0, _, _, _, _, _, _, _ => none
 | k + 1, x0, x1, x2, x3, x4, x11, x50 => if x50 = true then (some false) else (trommelref20_Passes.l1 k x0 x1 x2 x3 x4 x11 0)
def trommelref20_Passes.l1 : Nat → Int → Int → Int → List (List (S23)) → List (S23) → List (List (S23)) → Int → Option (Bool)
 | 0, _, _, _, _, _, _, _ => none
 | k + 1, x0, x1, x2, x3, x4, x11, x14 => if x14 < (x4.length : Int) then (trommelref20_Passes.l2 k x0 x1 x2 x3 x4 x11 x14 ([] : List (S23)) 0) else ((trommelref20_Bits.f k x0 x1 x2 x3).bind fun bt409 => ((trommelref17_Row.f k x0 x4).bind fun t413 => ((trommelref18_Has.f k bt409.1 bt409.2 t413).bind fun t414 => (some t414))))
def trommelref20_Passes.l2 : Nat → Int → Int → Int → List (List (S23)) → List (S23) → List (List (S23)) → Int → List (S23) → Int → Option (Bool)
 | 0, _, _, _, _, _, _, _, _, _ => none
 | k + 1, x0, x1, x2, x3, x4, x11, x14, x15, x16 => if x16 < (x11.length : Int) then (if 0 ≤ x16 then (if x14 < ((rd_L6 x11 x16).length : Int) then (if 0 ≤ x14 then (if x15.length < 4398046511104 then (trommelref20_Passes.l2 k x0 x1 x2 x3 x4 x11 x14 (x15 ++ [(⟨(rd_T23 (rd_L6 x11 x16) x14).f0, (rd_T23 (rd_L6 x11 x16) x14).f1, (rd_T23 (rd_L6 x11 x16) x14).f2⟩ : S23)]) (wrap64 (x16 + 1))) else (none)) else (none)) else (trommelref20_Passes.l2 k x0 x1 x2 x3 x4 x11 x14 x15 (wrap64 (x16 + 1)))) else (none)) else (if 0 ≤ x14 then (if x14 < (x4.length : Int) then ((trommelref19_Has.f k x15 ((rd_T23 x4 x14).f0) ((rd_T23 x4 x14).f1) ((rd_T23 x4 x14).f2)).bind fun t408 => (if t408 = true then (trommelref20_Passes.l1 k x0 x1 x2 x3 x4 x11 (wrap64 (x14 + 1))) else (some false))) else (none)) else (none))
end
def trommelref20_Passes.f (k : Nat) (a0 : Int) (a1 : Int) (a2 : Int) (l3 : List (List (S23))) (l4 : List (S23)) : Option (Bool) := (trommelref20_wholes.f k l3).bind fun t395 => (trommelref20_Passes.l0 k a0 a1 a2 l3 l4 t395 0 0)
theorem trommelref20_Passes.mono_l : ∀ k, (∀ y0 y1 y2 y3 y4 y5 y6 y7, LeO (trommelref20_Passes.l0 k y0 y1 y2 y3 y4 y5 y6 y7) (trommelref20_Passes.l0 (k + 1) y0 y1 y2 y3 y4 y5 y6 y7)) ∧ (∀ y0 y1 y2 y3 y4 y5 y6, LeO (trommelref20_Passes.j1 k y0 y1 y2 y3 y4 y5 y6) (trommelref20_Passes.j1 (k + 1) y0 y1 y2 y3 y4 y5 y6)) ∧ (∀ y0 y1 y2 y3 y4 y5 y6, LeO (trommelref20_Passes.l1 k y0 y1 y2 y3 y4 y5 y6) (trommelref20_Passes.l1 (k + 1) y0 y1 y2 y3 y4 y5 y6)) ∧ (∀ y0 y1 y2 y3 y4 y5 y6 y7 y8, LeO (trommelref20_Passes.l2 k y0 y1 y2 y3 y4 y5 y6 y7 y8) (trommelref20_Passes.l2 (k + 1) y0 y1 y2 y3 y4 y5 y6 y7 y8))
 | 0 => ⟨fun _ _ _ _ _ _ _ _ r h => by simp [trommelref20_Passes.l0] at h, fun _ _ _ _ _ _ _ r h => by simp [trommelref20_Passes.j1] at h, fun _ _ _ _ _ _ _ r h => by simp [trommelref20_Passes.l1] at h, fun _ _ _ _ _ _ _ _ _ r h => by simp [trommelref20_Passes.l2] at h⟩
 | k + 1 => by
  obtain ⟨ih0, ih1, ih2, ih3⟩ := trommelref20_Passes.mono_l k
  refine ⟨?_, ?_, ?_, ?_⟩
  ·intro y0 y1 y2 y3 y4 y5 y6 y7
   unfold trommelref20_Passes.l0
   repeat' first
   | (with_reducible exact ih0 _ _ _ _ _ _ _ _)
   | (with_reducible exact ih1 _ _ _ _ _ _ _)
   | (with_reducible exact ih2 _ _ _ _ _ _ _)
   | (with_reducible exact ih3 _ _ _ _ _ _ _ _ _)
   | (with_reducible exact trommelref17_Row.mono _ _ _)
   | (with_reducible exact trommelref18_Has.mono _ _ _ _)
   | (with_reducible exact trommelref19_Has.mono _ _ _ _ _)
   | (with_reducible exact trommelref20_Bits.mono _ _ _ _ _)
   | (with_reducible exact trommelref20_Whole.mono _ _)
   | (with_reducible exact trommelref20_wholes.mono _ _)
   | (with_reducible exact LeO.refl _)
   | (with_reducible exact LeO.none _)
   | (with_reducible refine LeO.ite ?_ ?_)
   | (with_reducible refine LeO.bind ?_ (fun _ => ?_))
   | exact ih0 _ _ _ _ _ _ _ _
   | exact ih1 _ _ _ _ _ _ _
   | exact ih2 _ _ _ _ _ _ _
   | exact ih3 _ _ _ _ _ _ _ _ _
   | exact trommelref17_Row.mono _ _ _
   | exact trommelref18_Has.mono _ _ _ _
   | exact trommelref19_Has.mono _ _ _ _ _
   | exact trommelref20_Bits.mono _ _ _ _ _
   | exact trommelref20_Whole.mono _ _
   | exact trommelref20_wholes.mono _ _
   | exact LeO.none _
   | refine LeO.ite ?_ ?_
   | refine LeO.bind ?_ (fun _ => ?_)
  ·intro y0 y1 y2 y3 y4 y5 y6
   unfold trommelref20_Passes.j1
   repeat' first
   | (with_reducible exact ih0 _ _ _ _ _ _ _ _)
   | (with_reducible exact ih1 _ _ _ _ _ _ _)
   | (with_reducible exact ih2 _ _ _ _ _ _ _)
   | (with_reducible exact ih3 _ _ _ _ _ _ _ _ _)
   | (with_reducible exact trommelref17_Row.mono _ _ _)
   | (with_reducible exact trommelref18_Has.mono _ _ _ _)
   | (with_reducible exact trommelref19_Has.mono _ _ _ _ _)
   | (with_reducible exact trommelref20_Bits.mono _ _ _ _ _)
   | (with_reducible exact trommelref20_Whole.mono _ _)
   | (with_reducible exact trommelref20_wholes.mono _ _)
   | (with_reducible exact LeO.refl _)
   | (with_reducible exact LeO.none _)
   | (with_reducible refine LeO.ite ?_ ?_)
   | (with_reducible refine LeO.bind ?_ (fun _ => ?_))
   | exact ih0 _ _ _ _ _ _ _ _
   | exact ih1 _ _ _ _ _ _ _
   | exact ih2 _ _ _ _ _ _ _
   | exact ih3 _ _ _ _ _ _ _ _ _
   | exact trommelref17_Row.mono _ _ _
   | exact trommelref18_Has.mono _ _ _ _
   | exact trommelref19_Has.mono _ _ _ _ _
   | exact trommelref20_Bits.mono _ _ _ _ _
   | exact trommelref20_Whole.mono _ _
   | exact trommelref20_wholes.mono _ _
   | exact LeO.none _
   | refine LeO.ite ?_ ?_
   | refine LeO.bind ?_ (fun _ => ?_)
  ·intro y0 y1 y2 y3 y4 y5 y6
   unfold trommelref20_Passes.l1
   repeat' first
   | (with_reducible exact ih0 _ _ _ _ _ _ _ _)
   | (with_reducible exact ih1 _ _ _ _ _ _ _)
   | (with_reducible exact ih2 _ _ _ _ _ _ _)
   | (with_reducible exact ih3 _ _ _ _ _ _ _ _ _)
   | (with_reducible exact trommelref17_Row.mono _ _ _)
   | (with_reducible exact trommelref18_Has.mono _ _ _ _)
   | (with_reducible exact trommelref19_Has.mono _ _ _ _ _)
   | (with_reducible exact trommelref20_Bits.mono _ _ _ _ _)
   | (with_reducible exact trommelref20_Whole.mono _ _)
   | (with_reducible exact trommelref20_wholes.mono _ _)
   | (with_reducible exact LeO.refl _)
   | (with_reducible exact LeO.none _)
   | (with_reducible refine LeO.ite ?_ ?_)
   | (with_reducible refine LeO.bind ?_ (fun _ => ?_))
   | exact ih0 _ _ _ _ _ _ _ _
   | exact ih1 _ _ _ _ _ _ _
   | exact ih2 _ _ _ _ _ _ _
   | exact ih3 _ _ _ _ _ _ _ _ _
   | exact trommelref17_Row.mono _ _ _
   | exact trommelref18_Has.mono _ _ _ _
   | exact trommelref19_Has.mono _ _ _ _ _
   | exact trommelref20_Bits.mono _ _ _ _ _
   | exact trommelref20_Whole.mono _ _
   | exact trommelref20_wholes.mono _ _
   | exact LeO.none _
   | refine LeO.ite ?_ ?_
   | refine LeO.bind ?_ (fun _ => ?_)
  ·intro y0 y1 y2 y3 y4 y5 y6 y7 y8
   unfold trommelref20_Passes.l2
   repeat' first
   | (with_reducible exact ih0 _ _ _ _ _ _ _ _)
   | (with_reducible exact ih1 _ _ _ _ _ _ _)
   | (with_reducible exact ih2 _ _ _ _ _ _ _)
   | (with_reducible exact ih3 _ _ _ _ _ _ _ _ _)
   | (with_reducible exact trommelref17_Row.mono _ _ _)
   | (with_reducible exact trommelref18_Has.mono _ _ _ _)
   | (with_reducible exact trommelref19_Has.mono _ _ _ _ _)
   | (with_reducible exact trommelref20_Bits.mono _ _ _ _ _)
   | (with_reducible exact trommelref20_Whole.mono _ _)
   | (with_reducible exact trommelref20_wholes.mono _ _)
   | (with_reducible exact LeO.refl _)
   | (with_reducible exact LeO.none _)
   | (with_reducible refine LeO.ite ?_ ?_)
   | (with_reducible refine LeO.bind ?_ (fun _ => ?_))
   | exact ih0 _ _ _ _ _ _ _ _
   | exact ih1 _ _ _ _ _ _ _
   | exact ih2 _ _ _ _ _ _ _
   | exact ih3 _ _ _ _ _ _ _ _ _
   | exact trommelref17_Row.mono _ _ _
   | exact trommelref18_Has.mono _ _ _ _
   | exact trommelref19_Has.mono _ _ _ _ _
   | exact trommelref20_Bits.mono _ _ _ _ _
   | exact trommelref20_Whole.mono _ _
   | exact trommelref20_wholes.mono _ _
   | exact LeO.none _
   | refine LeO.ite ?_ ?_
   | refine LeO.bind ?_ (fun _ => ?_)
theorem trommelref20_Passes.mono : ∀ a0 a1 a2 a3 a4 k, LeO (trommelref20_Passes.f k a0 a1 a2 a3 a4) (trommelref20_Passes.f (k + 1) a0 a1 a2 a3 a4) := by
 intro a0 a1 a2 a3 a4 k
 obtain ⟨ih0, ih1, ih2, ih3⟩ := trommelref20_Passes.mono_l k
 unfold trommelref20_Passes.f
 repeat' first
   | (with_reducible exact ih0 _ _ _ _ _ _ _ _)
   | (with_reducible exact ih1 _ _ _ _ _ _ _)
   | (with_reducible exact ih2 _ _ _ _ _ _ _)
   | (with_reducible exact ih3 _ _ _ _ _ _ _ _ _)
   | (with_reducible exact trommelref17_Row.mono _ _ _)
   | (with_reducible exact trommelref18_Has.mono _ _ _ _)
   | (with_reducible exact trommelref19_Has.mono _ _ _ _ _)
   | (with_reducible exact trommelref20_Bits.mono _ _ _ _ _)
   | (with_reducible exact trommelref20_Whole.mono _ _)
   | (with_reducible exact trommelref20_wholes.mono _ _)
   | (with_reducible exact LeO.refl _)
   | (with_reducible exact LeO.none _)
   | (with_reducible refine LeO.ite ?_ ?_)
   | (with_reducible refine LeO.bind ?_ (fun _ => ?_))
   | exact ih0 _ _ _ _ _ _ _ _
   | exact ih1 _ _ _ _ _ _ _
   | exact ih2 _ _ _ _ _ _ _
   | exact ih3 _ _ _ _ _ _ _ _ _
   | exact trommelref17_Row.mono _ _ _
   | exact trommelref18_Has.mono _ _ _ _
   | exact trommelref19_Has.mono _ _ _ _ _
   | exact trommelref20_Bits.mono _ _ _ _ _
   | exact trommelref20_Whole.mono _ _
   | exact trommelref20_wholes.mono _ _
   | exact LeO.none _
   | refine LeO.ite ?_ ?_
   | refine LeO.bind ?_ (fun _ => ?_)
set_option maxHeartbeats 8000000 in
set_option maxRecDepth 100000 in
theorem trommelref20_Passes.calls (k : Nat) (a0 : Int) (a1 : Int) (a2 : Int) (A3 : Option Addr) (c3 : Nat) (l3 : List (List (S23))) (A4 : Option Addr) (c4 : Nat) (l4 : List (S23)) (r : Bool) (w : World) (hr3 : Kd.C (Kd.slice 23 k23) w A3 l3.length l3) (hc3 : l3.length ≤ c3) (hr4 : Kd.C k23 w A4 l4.length l4) (hc4 : l4.length ≤ c4) (h : trommelref20_Passes.f k a0 a1 a2 l3 l4 = some r) :
  Calls Tryd.prog 47 #[.int .i64 a0, .int .i64 a1, .int .i64 a2, .slice A3 l3.length c3, .slice A4 l4.length c4] w fun e w' => e = .returned (.bool r) ∧ Below w.heap.size w w' := by
 have hu23 := Tryd.underlying23
 have HR3 := am_ hr3
 have HC3 := am_ hc3
 clear hr3 hc3
 have HR4 := am_ hr4
 have HC4 := am_ hc4
 clear hr4 hc4
 have HB := am_ (Below.refl w.heap.size w)
 have H : ((trommelref20_wholes.f k l3).bind fun t395 => (trommelref20_Passes.l0 k a0 a1 a2 l3 l4 t395 0 0)) = some r := h
 clear h
 replace H := Option.bind_eq_some_iff.mp H
 obtain ⟨t395, A60, H⟩ := H
 replace H : (trommelref20_Passes.l0 k a0 a1 a2 l3 l4 t395 0 0) = some r := H
 have A6 := am_ A60
 clear A60
 have H' := am_ H
 clear H
 go_enter Tryd.func47, Tryd.ntmps47
 go_wp2_with (first | ((with_reducible refine gate_callee (f := 85) rfl ?_); refine goesL_ (some 18) rfl rfl Tryd.func85 (by kernel_rfl) rfl #[.slice A3 l3.length c3] rfl (by (try simp only [List.map_toArray, List.map_cons, List.map_nil]); first | done | rfl | (simp only [List.length_drop, List.length_take]; rfl)) ?_; (with_reducible refine (trommelref20_wholes.calls k (fun k_ => k_ < w.heap.size) _ _ l3 t395 _ ?side1 A6.out).mono ?_); (case side1 => exact Kd.V_mk HC3.out (Kd.F_below (Kd.C_F (Kd.heap_slice 23 k23_heap) HR3.out) (bl_))); rintro e w7 ⟨v396, rfl, ho0, hb⟩; refine ⟨_, rfl, ?_⟩; have HO397 := am_ (Kd.N_lower (Kd.N_mono (ok' := fun k_ => True) ho0 (fun k_ hk_ => trivial)) (below_size (bl_))); replace HB := am_ (below_step (bl_) hb); (try clear hb); (try clear hb2); (try clear hk); (try clear hi); (try clear ho0)))
 go_loopg [12, 13] k (fun kq v12 v13 w' => ∃ (x12_1 : Int) (x13_1 : Int), v12 = .int .i64 x12_1 ∧ v13 = .int .i64 x13_1 ∧ Aside0 (trommelref20_Passes.l0 kq a0 a1 a2 l3 l4 t395 x12_1 x13_1 = some r) ∧ Aside0 (kq ≤ k) ∧ Aside0 (Kd.N (Kd.slice 23 k23) 24 w' w.heap.size (fun _ => True) v396 t395) ∧ Aside0 (Below w.heap.size w w'))
 case atStart => exact ⟨(0), (0), (rs_), (rs_), H', ⟨Nat.le_refl _⟩, ⟨kn_ HO397.out⟩, ⟨bl_⟩⟩
 case round =>
  clear H'
  try clear p2
  try clear c3
  try clear c4
  obtain ⟨x12_1, x13_1, rfl, rfl, HA, HK1, HO_11, HB⟩ := hrel
  cases gk with
  | zero => exact absurd HA.out (by simp [trommelref20_Passes.l0])
  | succ k1 =>
   have H := HA.out
   clear HA
   simp only [trommelref20_Passes.l0] at H
   by_cases c8 : x13_1 < (t395.length : Int)
   ·rw [if_pos c8] at H
    have c8b0 : decide (x13_1 < (t395.length : Int)) = true := decide_eq_true c8
    clear c8
    by_cases c9 : 0 ≤ x13_1
    ·rw [if_pos c9] at H
     have c9b0 : decide (0 ≤ x13_1) = true := decide_eq_true c9
     clear c9
     by_cases c10 : ((rd_L6 t395 x13_1).length : Int) > x12_1
     ·rw [if_pos c10] at H
      have c10b0 : decide (x12_1 < ((rd_L6 t395 x13_1).length : Int)) = true := decide_eq_true c10
      clear c10
      have H' := am_ H
      clear H
      obtain ⟨Ao11, co11, eo11⟩ := Kd.N_slice HO_11.out
      subst eo11
      have p398 : 0 ≤ (x13_1 : Int) := of_decide_eq_true (as_)
      have q398 : x13_1 < (t395.length : Int) := of_decide_eq_true (as_)
      obtain ⟨ad398, A398_0, c398_0, e398, hx398_0, hl398_0, hi398_0⟩ := at_L6 (Kd.N_reads' HO_11.out).2.2 x13_1 p398 q398
      cases e398
      obtain ⟨ce398, hce398, hMe398, hcc398⟩ := Kd.N_get HO_11.out [] x13_1 p398 (by first | exact q398 | exact of_decide_eq_true (as_) | (have e_ := (Kd.N_reads' HO_11.out).1; omega))
      obtain ⟨ua398_0, uc398_0, rfl, ul398_0, ge398_0⟩ := Kd.FK_slice_open hMe398
      have hv398_0 := hcc398 0 _ rfl
      rw [Nat.add_zero, show ((Kd.slice 23 k23)).sz = 1 from rfl, Nat.mul_one] at hv398_0
      replace hv398_0 := Option.some.inj (hv398_0.symm.trans hx398_0)
      injection hv398_0 with hva_ hvn_ hvc_
      rw [hva_] at ge398_0
      rw [hvc_] at ul398_0
      have HL398_0 := am_ (show Kd.V k23 23 _ w.heap.size _ _ (rd_L6 t395 x13_1) from Kd.V_mk ul398_0 ge398_0)
      clear hva_ hvn_ hvc_ ge398_0 ul398_0
      clear hcc398 hce398
      have HR398_0 := am_ hi398_0
      have HC398_0 := am_ hl398_0
      clear hi398_0 hl398_0
      replace p398 := eq_true p398
      replace q398 := eq_true q398
      have p399 : 0 ≤ (x13_1 : Int) := of_decide_eq_true (as_)
      have q399 : x13_1 < (t395.length : Int) := of_decide_eq_true (as_)
      obtain ⟨ad399, A399_0, c399_0, e399, hx399_0, hl399_0, hi399_0⟩ := at_L6 (Kd.N_reads' HO_11.out).2.2 x13_1 p399 q399
      obtain rfl : ad398 = ad399 := (by injection e399)
      obtain ⟨ce399, hce399, hMe399, hcc399⟩ := Kd.N_get HO_11.out [] x13_1 p399 (by first | exact q399 | exact of_decide_eq_true (as_) | (have e_ := (Kd.N_reads' HO_11.out).1; omega))
      obtain ⟨ua399_0, uc399_0, rfl, ul399_0, ge399_0⟩ := Kd.FK_slice_open hMe399
      have hv399_0 := hcc399 0 _ rfl
      rw [Nat.add_zero, show ((Kd.slice 23 k23)).sz = 1 from rfl, Nat.mul_one] at hv399_0
      replace hv399_0 := Option.some.inj (hv399_0.symm.trans hx399_0)
      injection hv399_0 with hva_ hvn_ hvc_
      rw [hva_] at ge399_0
      rw [hvc_] at ul399_0
      have HL399_0 := am_ (show Kd.V k23 23 _ w.heap.size _ _ (rd_L6 t395 x13_1) from Kd.V_mk ul399_0 ge399_0)
      clear hva_ hvn_ hvc_ ge399_0 ul399_0
      clear hcc399 hce399
      have HR399_0 := am_ hi399_0
      have HC399_0 := am_ hl399_0
      clear hi399_0 hl399_0
      replace p399 := eq_true p399
      replace q399 := eq_true q399
      have ea_ := Option.some.inj (hx398_0.symm.trans hx399_0)
      injection ea_ with ea_ en_ ec_
      subst ea_
      subst ec_
      clear en_
      go_wp2
      go_roundg k1
      case measure => have := HK1.out; omega
      case rel => exact ⟨(((rd_L6 t395 x13_1).length : Int)), (wrap64 (x13_1 + 1)), (rs_), (rs_), H', ⟨by have := HK1.out; omega⟩, ⟨kn_ HO_11.out⟩, ⟨bl_⟩⟩
     ·rw [if_neg c10] at H
      have c10b0 : decide (x12_1 < ((rd_L6 t395 x13_1).length : Int)) = false := decide_eq_false c10
      clear c10
      have H' := am_ H
      clear H
      obtain ⟨Ao12, co12, eo12⟩ := Kd.N_slice HO_11.out
      subst eo12
      have p398 : 0 ≤ (x13_1 : Int) := of_decide_eq_true (as_)
      have q398 : x13_1 < (t395.length : Int) := of_decide_eq_true (as_)
      obtain ⟨ad398, A398_0, c398_0, e398, hx398_0, hl398_0, hi398_0⟩ := at_L6 (Kd.N_reads' HO_11.out).2.2 x13_1 p398 q398
      cases e398
      obtain ⟨ce398, hce398, hMe398, hcc398⟩ := Kd.N_get HO_11.out [] x13_1 p398 (by first | exact q398 | exact of_decide_eq_true (as_) | (have e_ := (Kd.N_reads' HO_11.out).1; omega))
      obtain ⟨ua398_0, uc398_0, rfl, ul398_0, ge398_0⟩ := Kd.FK_slice_open hMe398
      have hv398_0 := hcc398 0 _ rfl
      rw [Nat.add_zero, show ((Kd.slice 23 k23)).sz = 1 from rfl, Nat.mul_one] at hv398_0
      replace hv398_0 := Option.some.inj (hv398_0.symm.trans hx398_0)
      injection hv398_0 with hva_ hvn_ hvc_
      rw [hva_] at ge398_0
      rw [hvc_] at ul398_0
      have HL398_0 := am_ (show Kd.V k23 23 _ w.heap.size _ _ (rd_L6 t395 x13_1) from Kd.V_mk ul398_0 ge398_0)
      clear hva_ hvn_ hvc_ ge398_0 ul398_0
      clear hcc398 hce398
      have HR398_0 := am_ hi398_0
      have HC398_0 := am_ hl398_0
      clear hi398_0 hl398_0
      replace p398 := eq_true p398
      replace q398 := eq_true q398
      go_wp2
      go_roundg k1
      case measure => have := HK1.out; omega
      case rel => exact ⟨(x12_1), (wrap64 (x13_1 + 1)), (rs_), (rs_), H', ⟨by have := HK1.out; omega⟩, ⟨kn_ HO_11.out⟩, ⟨bl_⟩⟩
    ·rw [if_neg c9] at H
     exact absurd H (by simp)
   ·rw [if_neg c8] at H
    have c8b0 : decide (x13_1 < (t395.length : Int)) = false := decide_eq_false c8
    clear c8
    have HC13 := am_ H
    clear H
    obtain ⟨Ao14, co14, eo14⟩ := Kd.N_slice HO_11.out
    subst eo14
    go_upto_region 8 with (fail)
    go_cut [50] (fun v50 wc => ∃ (kq : Nat) (x50_12 : Bool), v50 = .bool x50_12 ∧ Aside0 (trommelref20_Passes.j1 kq a0 a1 a2 l3 l4 t395 x50_12 = some r) ∧ Aside0 (kq ≤ k1) ∧ Aside0 (Kd.N (Kd.slice 23 k23) 24 wc w.heap.size (fun _ => True) (.slice Ao14 t395.length co14) t395) ∧ Aside0 (Below w.heap.size w wc))
    case first =>
     have H := HC13.out
     clear HC13
     by_cases c15 : (t395.length : Int) = 0
     ·rw [if_pos c15] at H
      have c15b0 : ((t395.length : Int) == 0) = true := beq_iff_eq.mpr c15
      have c15b1 : ((t395.length : Int) != 0) = false := bne_eq_false_iff_eq.mpr c15
      clear c15
      (first | rw [c15b0] | (simp only [i64_w, i32_w]; rw [c15b0]) | skip)
      have H' := am_ H
      clear H
      go_wp2
      go_meet
      case rel => exact ⟨_, (true), (rs_), H', ⟨by have := HK1.out; first | omega | exact Nat.le_refl _⟩, ⟨kn_ HO_11.out⟩, ⟨bl_⟩⟩
     ·rw [if_neg c15] at H
      have c15b0 : ((t395.length : Int) == 0) = false := beq_eq_false_iff_ne.mpr c15
      have c15b1 : ((t395.length : Int) != 0) = true := bne_iff_ne.mpr c15
      have c15b2 : ¬ (t395 = []) := fun h_ => c15 (by rw [h_]; rfl)
      (first | rw [c15b0] | (simp only [i64_w, i32_w]; rw [c15b0]) | skip)
      replace H := Option.bind_eq_some_iff.mp H
      obtain ⟨t400, A160, H⟩ := H
      replace H : (if t400 = true then (trommelref20_Passes.j1 k1 a0 a1 a2 l3 l4 t395 (decide ((l4.length : Int) > x12_1))) else (trommelref20_Passes.j1 k1 a0 a1 a2 l3 l4 t395 true)) = some r := H
      have A16 := am_ A160
      clear A160
      by_cases c17 : t400 = true
      ·subst c17
       have H1 : (trommelref20_Passes.j1 k1 a0 a1 a2 l3 l4 t395 (decide ((l4.length : Int) > x12_1))) = some r := by rw [if_pos rfl] at H; exact H
       clear H
       have H := H1
       clear H1
       have H' := am_ H
       clear H
       go_wp2_with (first | (go_at_call 22; (with_reducible refine (trommelref20_Whole.calls k1 _ _ l4 true _ ?side1 ?side2 A16.out).mono ?_); (case side1 => repeat (first | exact (Kd.C_below HR4.out HB.out) | (with_reducible refine Kd.C_alloc ?_ _) | (with_reducible refine Kd.C_drewN ?_ _) | (with_reducible refine Kd.C_drew ?_))); (case side2 => exact HC4.out); rintro e w' ⟨rfl, ⟨nd, rfl⟩⟩))
       go_meet
       case rel => exact ⟨_, (decide ((l4.length : Int) > x12_1)), (rs_), H', ⟨by have := HK1.out; first | omega | exact Nat.le_refl _⟩, ⟨kn_ HO_11.out⟩, ⟨bl_⟩⟩
      ·replace c17 := Bool.eq_false_iff.mpr c17
       subst c17
       have H1 : (trommelref20_Passes.j1 k1 a0 a1 a2 l3 l4 t395 true) = some r := by rw [if_neg (show ¬ (false = true) by decide)] at H; exact H
       clear H
       have H := H1
       clear H1
       have H' := am_ H
       clear H
       go_wp2_with (first | (go_at_call 22; (with_reducible refine (trommelref20_Whole.calls k1 _ _ l4 false _ ?side1 ?side2 A16.out).mono ?_); (case side1 => repeat (first | exact (Kd.C_below HR4.out HB.out) | (with_reducible refine Kd.C_alloc ?_ _) | (with_reducible refine Kd.C_drewN ?_ _) | (with_reducible refine Kd.C_drew ?_))); (case side2 => exact HC4.out); rintro e w' ⟨rfl, ⟨nd, rfl⟩⟩))
       go_meet
       case rel => exact ⟨_, (true), (rs_), H', ⟨by have := HK1.out; first | omega | exact Nat.le_refl _⟩, ⟨kn_ HO_11.out⟩, ⟨bl_⟩⟩
    case rest =>
     clear HC13
     try clear c1
     try clear p2
     try clear c3
     try clear p3
     try clear q3
     try clear hx3
     try clear c4
     try clear p6
     try clear c8
     try clear c8b0
     try clear c9
     try clear c9b0
     try clear c10
     try clear c10b0
     try clear c15
     try clear c15b0
     try clear c15b1
     try clear c15b2
     try clear c17
     try clear hx398_0
     try clear hx399_0
     try clear p2
     try clear p398
     try clear p399
     try clear q398
     try clear q399
     obtain ⟨kq, x50_12, rfl, HA, HJ12, HO_11, HB⟩ := hcut
     cases kq with
     | zero => exact absurd HA.out (by simp [trommelref20_Passes.j1])
     | succ kj12 =>
      have H := HA.out
      clear HA
      simp only [trommelref20_Passes.j1] at H
      by_cases c18 : x50_12 = true
      ·subst c18
       have H1 : (some false) = some r := by rw [if_pos rfl] at H; exact H
       clear H
       have H := H1
       clear H1
       obtain rfl := Option.some.inj H
       go_wp2
       go_ret
       exact ⟨ew_, bl_⟩
      ·replace c18 := Bool.eq_false_iff.mpr c18
       subst c18
       have H1 : (trommelref20_Passes.l1 kj12 a0 a1 a2 l3 l4 t395 0) = some r := by rw [if_neg (show ¬ (false = true) by decide)] at H; exact H
       clear H
       have H := H1
       clear H1
       have H' := am_ H
       clear H
       go_wp2
       go_loopg [14] kj12 (fun kq v14 w' => ∃ (x14_3 : Int), v14 = .int .i64 x14_3 ∧ Aside0 (trommelref20_Passes.l1 kq a0 a1 a2 l3 l4 t395 x14_3 = some r) ∧ Aside0 (kq ≤ kj12) ∧ Aside0 (Kd.N (Kd.slice 23 k23) 24 w' w.heap.size (fun _ => True) (.slice Ao14 t395.length co14) t395) ∧ Aside0 (Below w.heap.size w w'))
       case atStart => exact ⟨(0), (rs_), H', ⟨Nat.le_refl _⟩, ⟨kn_ HO_11.out⟩, ⟨bl_⟩⟩
       case round =>
        clear H'
        try clear c1
        try clear p2
        try clear c3
        try clear p3
        try clear q3
        try clear hx3
        try clear c4
        try clear p6
        try clear c8
        try clear c8b0
        try clear c9
        try clear c9b0
        try clear c10
        try clear c10b0
        try clear c15
        try clear c15b0
        try clear c15b1
        try clear c15b2
        try clear c17
        try clear c18
        try clear hx398_0
        try clear hx399_0
        try clear p2
        try clear p3
        try clear p398
        try clear p399
        try clear p6
        try clear q3
        try clear q398
        try clear q399
        obtain ⟨x14_3, rfl, HA, HK3, HO_11, HB⟩ := hrel
        cases gk with
        | zero => exact absurd HA.out (by simp [trommelref20_Passes.l1])
        | succ k3 =>
         have H := HA.out
         clear HA
         simp only [trommelref20_Passes.l1] at H
         by_cases c19 : x14_3 < (l4.length : Int)
         ·rw [if_pos c19] at H
          have c19b0 : decide (x14_3 < (l4.length : Int)) = true := decide_eq_true c19
          clear c19
          have H' := am_ H
          clear H
          go_wp2
          go_loopg [15, 16] k3 (fun kq v15 v16 w' => ∃ (x15_4 : List (S23)) (x16_4 : Int), v16 = .int .i64 x16_4 ∧ Aside0 (trommelref20_Passes.l2 kq a0 a1 a2 l3 l4 t395 x14_3 x15_4 x16_4 = some r) ∧ Aside0 (kq ≤ k3) ∧ Aside0 (Kd.N (Kd.slice 23 k23) 24 w' w.heap.size (fun k_ => some k_ ≠ (v15 : Value).ownBlock) (.slice Ao14 t395.length co14) t395) ∧ Aside0 (Kd.R k23 23 w' w.heap.size (fun _ => True) v15 x15_4) ∧ Aside0 (Below w.heap.size w w'))
          case atStart => exact ⟨(([] : List (S23))), (0), (rs_), H', ⟨Nat.le_refl _⟩, ⟨by (with_reducible repeat (first | apply Kd.N_alloc | apply Kd.N_drewN | apply Kd.N_drew)); exact Kd.N_mono HO_11.out (fun _ hk => (by simp [Value.ownBlock]))⟩, ⟨by first | exact Kd.R_nil _ _ _ _ _ | exact Kd.N_nil _ _ _ _ _ | exact Kd.V_nil _ _ _ _ _ | exact Kd.Q_nil _ _ _ _ _ | exact Kd.S_nil _ _ _ _ _⟩, ⟨bl_⟩⟩
          case round =>
           clear H'
           try clear c1
           try clear p2
           try clear c3
           try clear p3
           try clear q3
           try clear hx3
           try clear c4
           try clear p6
           try clear c8
           try clear c8b0
           try clear c9
           try clear c9b0
           try clear c10
           try clear c10b0
           try clear c15
           try clear c15b0
           try clear c15b1
           try clear c15b2
           try clear c17
           try clear c18
           try clear c19
           try clear c19b0
           try clear hx398_0
           try clear hx399_0
           try clear p2
           try clear p3
           try clear p398
           try clear p399
           try clear p6
           try clear q3
           try clear q398
           try clear q399
           obtain ⟨x15_4, x16_4, rfl, HA, HK4, HO_11, HO_15, HB⟩ := hrel
           cases gk with
           | zero => exact absurd HA.out (by simp [trommelref20_Passes.l2])
           | succ k4 =>
            have H := HA.out
            clear HA
            simp only [trommelref20_Passes.l2] at H
            by_cases c20 : x16_4 < (t395.length : Int)
            ·rw [if_pos c20] at H
             have c20b0 : decide (x16_4 < (t395.length : Int)) = true := decide_eq_true c20
             clear c20
             by_cases c21 : 0 ≤ x16_4
             ·rw [if_pos c21] at H
              have c21b0 : decide (0 ≤ x16_4) = true := decide_eq_true c21
              clear c21
              by_cases c22 : x14_3 < ((rd_L6 t395 x16_4).length : Int)
              ·rw [if_pos c22] at H
               have c22b0 : decide (x14_3 < ((rd_L6 t395 x16_4).length : Int)) = true := decide_eq_true c22
               clear c22
               by_cases c23 : 0 ≤ x14_3
               ·rw [if_pos c23] at H
                have c23b0 : decide (0 ≤ x14_3) = true := decide_eq_true c23
                clear c23
                by_cases c24 : x15_4.length < 4398046511104
                ·rw [if_pos c24] at H
                 have LMc24 := am_ c24
                 clear c24
                 obtain ⟨y404, hy404⟩ : ∃ y_ : List (S23), y_ = (x15_4 ++ [(⟨(rd_T23 (rd_L6 t395 x16_4) x14_3).f0, (rd_T23 (rd_L6 t395 x16_4) x14_3).f1, (rd_T23 (rd_L6 t395 x16_4) x14_3).f2⟩ : S23)]) := ⟨_, rfl⟩
                 replace H : (trommelref20_Passes.l2 k4 a0 a1 a2 l3 l4 t395 x14_3 y404 (wrap64 (x16_4 + 1))) = some r := by first | (rw [hy404]; with_reducible exact H) | (have H2_ := (Option.bind_some _ _).symm.trans H; rw [hy404]; with_reducible exact H2_) | (have H2_ := (Option.bind_some _ _).symm.trans H; with_reducible exact H2_) | with_reducible exact H | (rw [hy404]; exact H) | exact H
                 have Ny404 := am_ hy404
                 clear hy404
                 have H' := am_ H
                 clear H
                 have p401 : 0 ≤ (x16_4 : Int) := of_decide_eq_true (as_)
                 have q401 : x16_4 < (t395.length : Int) := of_decide_eq_true (as_)
                 obtain ⟨ad401, A401_0, c401_0, e401, hx401_0, hl401_0, hi401_0⟩ := at_L6 (Kd.N_reads' HO_11.out).2.2 x16_4 p401 q401
                 cases e401
                 obtain ⟨ce401, hce401, hMe401, hcc401⟩ := Kd.N_get HO_11.out [] x16_4 p401 (by first | exact q401 | exact of_decide_eq_true (as_) | (have e_ := (Kd.N_reads' HO_11.out).1; omega))
                 obtain ⟨ua401_0, uc401_0, rfl, ul401_0, ge401_0⟩ := Kd.FK_slice_open hMe401
                 have hv401_0 := hcc401 0 _ rfl
                 rw [Nat.add_zero, show ((Kd.slice 23 k23)).sz = 1 from rfl, Nat.mul_one] at hv401_0
                 replace hv401_0 := Option.some.inj (hv401_0.symm.trans hx401_0)
                 injection hv401_0 with hva_ hvn_ hvc_
                 rw [hva_] at ge401_0
                 rw [hvc_] at ul401_0
                 have HL401_0 := am_ (show Kd.V k23 23 _ w.heap.size _ _ (rd_L6 t395 x16_4) from Kd.V_mk ul401_0 ge401_0)
                 clear hva_ hvn_ hvc_ ge401_0 ul401_0
                 clear hcc401 hce401
                 have HR401_0 := am_ hi401_0
                 have HC401_0 := am_ hl401_0
                 clear hi401_0 hl401_0
                 replace p401 := eq_true p401
                 replace q401 := eq_true q401
                 have p402 : 0 ≤ (x16_4 : Int) := of_decide_eq_true (as_)
                 have q402 : x16_4 < (t395.length : Int) := of_decide_eq_true (as_)
                 obtain ⟨ad402, A402_0, c402_0, e402, hx402_0, hl402_0, hi402_0⟩ := at_L6 (Kd.N_reads' HO_11.out).2.2 x16_4 p402 q402
                 obtain rfl : ad401 = ad402 := (by injection e402)
                 obtain ⟨ce402, hce402, hMe402, hcc402⟩ := Kd.N_get HO_11.out [] x16_4 p402 (by first | exact q402 | exact of_decide_eq_true (as_) | (have e_ := (Kd.N_reads' HO_11.out).1; omega))
                 obtain ⟨ua402_0, uc402_0, rfl, ul402_0, ge402_0⟩ := Kd.FK_slice_open hMe402
                 have hv402_0 := hcc402 0 _ rfl
                 rw [Nat.add_zero, show ((Kd.slice 23 k23)).sz = 1 from rfl, Nat.mul_one] at hv402_0
                 replace hv402_0 := Option.some.inj (hv402_0.symm.trans hx402_0)
                 injection hv402_0 with hva_ hvn_ hvc_
                 rw [hva_] at ge402_0
                 rw [hvc_] at ul402_0
                 have HL402_0 := am_ (show Kd.V k23 23 _ w.heap.size _ _ (rd_L6 t395 x16_4) from Kd.V_mk ul402_0 ge402_0)
                 clear hva_ hvn_ hvc_ ge402_0 ul402_0
                 clear hcc402 hce402
                 have HR402_0 := am_ hi402_0
                 have HC402_0 := am_ hl402_0
                 clear hi402_0 hl402_0
                 replace p402 := eq_true p402
                 replace q402 := eq_true q402
                 have ea_ := Option.some.inj (hx401_0.symm.trans hx402_0)
                 injection ea_ with ea_ en_ ec_
                 subst ea_
                 subst ec_
                 clear en_
                 have p403 : 0 ≤ (x14_3 : Int) := of_decide_eq_true (as_)
                 have q403 : x14_3 < ((rd_L6 t395 x16_4).length : Int) := of_decide_eq_true (as_)
                 obtain ⟨ad403, e403, hx403_0, hx403_1, hx403_2⟩ := at_T23 (by repeat (first | (with_reducible exact HR402_0.out) | (with_reducible refine Kd.C_alloc ?_ _) | (with_reducible refine Kd.C_drewN ?_ _) | (with_reducible refine Kd.C_drew ?_) | exact HR402_0.out)) x14_3 p403 q403
                 cases e403
                 replace p403 := eq_true p403
                 replace q403 := eq_true q403
                 go_wp2_with (first | ((with_reducible refine gate_builtin (b := .append) (xs := #[.tmp 70, .tmp 78]) rfl ?_); (try (refine gate_guard (by rfl) ?_; dsimp only)); at_builtin; refine Kd.R_append k23 (w0 := w) w.heap.size rfl (.tmp 70) (.tmp 78) 24 23 (.agg #[(.int .i64 0), (.int .i64 0), (.string ⟨#[]⟩)]) 32 rfl Tryd.underlying24 info23 rfl (by decide) (by omega) u15 x15_4 (⟨(rd_T23 (rd_L6 t395 x16_4) x14_3).f0, (rd_T23 (rd_L6 t395 x16_4) x14_3).f1, (rd_T23 (rd_L6 t395 x16_4) x14_3).f2⟩ : S23) [.int .i64 ((rd_T23 (rd_L6 t395 x16_4) x14_3).f0), .int .i64 ((rd_T23 (rd_L6 t395 x16_4) x14_3).f1), .string ((rd_T23 (rd_L6 t395 x16_4) x14_3).f2)] (fun _ => True) (fun _ => False) rfl rfl ?aP (fun _ hk => hk.elim) ?aF ?aO ?aB ?aS ?aL ?_; (case aP => exact k23_mkM _ _ _ (⟨(rd_T23 (rd_L6 t395 x16_4) x14_3).f0, (rd_T23 (rd_L6 t395 x16_4) x14_3).f1, (rd_T23 (rd_L6 t395 x16_4) x14_3).f2⟩ : S23)); (case aB => exact (bl_)); (case aF => exact (fun _ _ => trivial)); (case aO => exact (kr_ HO_15.out)); (case aS => exact (below_size (bl_))); (case aL => have := LMc24.out; omega); intro v405 w25 ho hb hg hat; rw [← Ny404.out] at ho; replace HO_11 := am_ (Kd.N_afterv (ok := (fun _ => True)) (by (with_reducible repeat (first | apply Kd.N_alloc | apply Kd.N_drewN | apply Kd.N_drew)); exact Kd.N_mono HO_11.out (fun _ hk => ⟨trivial, hk⟩)) hg hat); replace HL401_0 := am_ (Kd.V_afterv (ok := (fun k_ => some k_ ≠ (.slice (some ad401) t395.length co14 : Value).ownBlock)) (by (with_reducible repeat (first | apply Kd.V_alloc | apply Kd.V_drewN | apply Kd.V_drew)); exact Kd.V_mono HL401_0.out (fun _ hk => ⟨hk.2, hk.1⟩)) hg hat); replace HL402_0 := am_ (Kd.V_afterv (ok := (fun k_ => some k_ ≠ (.slice (some ad401) t395.length co14 : Value).ownBlock)) (by (with_reducible repeat (first | apply Kd.V_alloc | apply Kd.V_drewN | apply Kd.V_drew)); exact Kd.V_mono HL402_0.out (fun _ hk => ⟨hk.2, hk.1⟩)) hg hat); have HO406 := am_ (ho); replace HB := am_ (hb); clear HO_15; clear ho hb hg hat))
                 go_roundg k4
                 case measure => have := HK1.out; have := HJ12.out; have := HK3.out; have := HK4.out; omega
                 case rel => exact ⟨(y404), (wrap64 (x16_4 + 1)), (rs_), H', ⟨by have := HK1.out; have := HJ12.out; have := HK3.out; have := HK4.out; omega⟩, ⟨by (with_reducible repeat (first | apply Kd.N_alloc | apply Kd.N_drewN | apply Kd.N_drew)); exact Kd.N_mono HO_11.out (fun _ hk => hk.2)⟩, ⟨kr_ HO406.out⟩, ⟨bl_⟩⟩
                ·rw [if_neg c24] at H
                 exact absurd H (by simp)
               ·rw [if_neg c23] at H
                exact absurd H (by simp)
              ·rw [if_neg c22] at H
               have c22b0 : decide (x14_3 < ((rd_L6 t395 x16_4).length : Int)) = false := decide_eq_false c22
               clear c22
               have H' := am_ H
               clear H
               have p401 : 0 ≤ (x16_4 : Int) := of_decide_eq_true (as_)
               have q401 : x16_4 < (t395.length : Int) := of_decide_eq_true (as_)
               obtain ⟨ad401, A401_0, c401_0, e401, hx401_0, hl401_0, hi401_0⟩ := at_L6 (Kd.N_reads' HO_11.out).2.2 x16_4 p401 q401
               cases e401
               obtain ⟨ce401, hce401, hMe401, hcc401⟩ := Kd.N_get HO_11.out [] x16_4 p401 (by first | exact q401 | exact of_decide_eq_true (as_) | (have e_ := (Kd.N_reads' HO_11.out).1; omega))
               obtain ⟨ua401_0, uc401_0, rfl, ul401_0, ge401_0⟩ := Kd.FK_slice_open hMe401
               have hv401_0 := hcc401 0 _ rfl
               rw [Nat.add_zero, show ((Kd.slice 23 k23)).sz = 1 from rfl, Nat.mul_one] at hv401_0
               replace hv401_0 := Option.some.inj (hv401_0.symm.trans hx401_0)
               injection hv401_0 with hva_ hvn_ hvc_
               rw [hva_] at ge401_0
               rw [hvc_] at ul401_0
               have HL401_0 := am_ (show Kd.V k23 23 _ w.heap.size _ _ (rd_L6 t395 x16_4) from Kd.V_mk ul401_0 ge401_0)
               clear hva_ hvn_ hvc_ ge401_0 ul401_0
               clear hcc401 hce401
               have HR401_0 := am_ hi401_0
               have HC401_0 := am_ hl401_0
               clear hi401_0 hl401_0
               replace p401 := eq_true p401
               replace q401 := eq_true q401
               go_wp2
               go_roundg k4
               case measure => have := HK1.out; have := HJ12.out; have := HK3.out; have := HK4.out; omega
               case rel => exact ⟨(x15_4), (wrap64 (x16_4 + 1)), (rs_), H', ⟨by have := HK1.out; have := HJ12.out; have := HK3.out; have := HK4.out; omega⟩, ⟨kn_ HO_11.out⟩, ⟨kr_ HO_15.out⟩, ⟨bl_⟩⟩
             ·rw [if_neg c21] at H
              exact absurd H (by simp)
            ·rw [if_neg c20] at H
             have c20b0 : decide (x16_4 < (t395.length : Int)) = false := decide_eq_false c20
             clear c20
             by_cases c26 : 0 ≤ x14_3
             ·rw [if_pos c26] at H
              have c26b0 : decide (0 ≤ x14_3) = true := decide_eq_true c26
              clear c26
              by_cases c27 : x14_3 < (l4.length : Int)
              ·rw [if_pos c27] at H
               have c27b0 : decide (x14_3 < (l4.length : Int)) = true := decide_eq_true c27
               clear c27
               replace H := Option.bind_eq_some_iff.mp H
               obtain ⟨t408, A280, H⟩ := H
               replace H : (if t408 = true then (trommelref20_Passes.l1 k4 a0 a1 a2 l3 l4 t395 (wrap64 (x14_3 + 1))) else (some false)) = some r := H
               have A28 := am_ A280
               clear A280
               by_cases c29 : t408 = true
               ·subst c29
                have H1 : (trommelref20_Passes.l1 k4 a0 a1 a2 l3 l4 t395 (wrap64 (x14_3 + 1))) = some r := by rw [if_pos rfl] at H; exact H
                clear H
                have H := H1
                clear H1
                have H' := am_ H
                clear H
                have p407 : 0 ≤ (x14_3 : Int) := of_decide_eq_true (as_)
                have q407 : x14_3 < (l4.length : Int) := of_decide_eq_true (as_)
                obtain ⟨ad407, e407, hx407_0, hx407_1, hx407_2⟩ := at_T23 HR4.out x14_3 p407 q407
                cases e407
                replace hx407_0 := (HB.out.cell (World.block_lt_of_cell? w _ hx407_0)).trans hx407_0
                replace hx407_1 := (HB.out.cell (World.block_lt_of_cell? w _ hx407_1)).trans hx407_1
                replace hx407_2 := (HB.out.cell (World.block_lt_of_cell? w _ hx407_2)).trans hx407_2
                replace p407 := eq_true p407
                replace q407 := eq_true q407
                obtain ⟨Ao30, co30, eo30⟩ := Kd.R_slice HO_15.out
                subst eo30
                go_wp2_with (first | ((with_reducible refine gate_callee (f := 88) rfl ?_); refine goesL_ (some 85) rfl rfl Tryd.func88 (by kernel_rfl) rfl #[.slice Ao30 x15_4.length co30, .agg #[.int .i64 ((rd_T23 l4 x14_3).f0), .int .i64 ((rd_T23 l4 x14_3).f1), .string ((rd_T23 l4 x14_3).f2)]] rfl (by (try simp only [List.map_toArray, List.map_cons, List.map_nil]); first | done | rfl | (simp only [List.length_drop, List.length_take]; rfl)) ?_; (with_reducible refine (trommelref19_Has.calls k4 _ _ x15_4 ((rd_T23 l4 x14_3).f0) ((rd_T23 l4 x14_3).f1) ((rd_T23 l4 x14_3).f2) true _ ?side1 ?side2 A28.out).mono ?_); (case side1 => repeat (first | exact (Kd.R_reads' HO_15.out).2.2 | (with_reducible refine Kd.C_alloc ?_ _) | (with_reducible refine Kd.C_drewN ?_ _) | (with_reducible refine Kd.C_drew ?_))); (case side2 => exact (Kd.R_reads' HO_15.out).2.1); rintro e w31 ⟨rfl, hb⟩; refine ⟨_, rfl, ?_⟩; replace HO_11 := am_ (Kd.N_below (kn_ HO_11.out) hb); replace HO_15 := am_ (Kd.R_below (kr_ HO_15.out) hb); replace HB := am_ (below_step (bl_) hb); (try clear hb); (try clear hb2); (try clear hk); (try clear hi)))
                go_roundg k4
                case measure => have := HK1.out; have := HJ12.out; have := HK3.out; have := HK4.out; omega
                case rel => exact ⟨(wrap64 (x14_3 + 1)), (rs_), H', ⟨by have := HK1.out; have := HJ12.out; have := HK3.out; have := HK4.out; omega⟩, ⟨by (with_reducible repeat (first | apply Kd.N_alloc | apply Kd.N_drewN | apply Kd.N_drew)); exact Kd.N_mono HO_11.out (fun _ hk => trivial)⟩, ⟨bl_⟩⟩
               ·replace c29 := Bool.eq_false_iff.mpr c29
                subst c29
                have H1 : (some false) = some r := by rw [if_neg (show ¬ (false = true) by decide)] at H; exact H
                clear H
                have H := H1
                clear H1
                obtain rfl := Option.some.inj H
                have p407 : 0 ≤ (x14_3 : Int) := of_decide_eq_true (as_)
                have q407 : x14_3 < (l4.length : Int) := of_decide_eq_true (as_)
                obtain ⟨ad407, e407, hx407_0, hx407_1, hx407_2⟩ := at_T23 HR4.out x14_3 p407 q407
                cases e407
                replace hx407_0 := (HB.out.cell (World.block_lt_of_cell? w _ hx407_0)).trans hx407_0
                replace hx407_1 := (HB.out.cell (World.block_lt_of_cell? w _ hx407_1)).trans hx407_1
                replace hx407_2 := (HB.out.cell (World.block_lt_of_cell? w _ hx407_2)).trans hx407_2
                replace p407 := eq_true p407
                replace q407 := eq_true q407
                obtain ⟨Ao32, co32, eo32⟩ := Kd.R_slice HO_15.out
                subst eo32
                go_wp2_with (first | ((with_reducible refine gate_callee (f := 88) rfl ?_); refine goesL_ (some 85) rfl rfl Tryd.func88 (by kernel_rfl) rfl #[.slice Ao32 x15_4.length co32, .agg #[.int .i64 ((rd_T23 l4 x14_3).f0), .int .i64 ((rd_T23 l4 x14_3).f1), .string ((rd_T23 l4 x14_3).f2)]] rfl (by (try simp only [List.map_toArray, List.map_cons, List.map_nil]); first | done | rfl | (simp only [List.length_drop, List.length_take]; rfl)) ?_; (with_reducible refine (trommelref19_Has.calls k4 _ _ x15_4 ((rd_T23 l4 x14_3).f0) ((rd_T23 l4 x14_3).f1) ((rd_T23 l4 x14_3).f2) false _ ?side1 ?side2 A28.out).mono ?_); (case side1 => repeat (first | exact (Kd.R_reads' HO_15.out).2.2 | (with_reducible refine Kd.C_alloc ?_ _) | (with_reducible refine Kd.C_drewN ?_ _) | (with_reducible refine Kd.C_drew ?_))); (case side2 => exact (Kd.R_reads' HO_15.out).2.1); rintro e w33 ⟨rfl, hb⟩; refine ⟨_, rfl, ?_⟩; replace HO_11 := am_ (Kd.N_below (kn_ HO_11.out) hb); replace HO_15 := am_ (Kd.R_below (kr_ HO_15.out) hb); replace HB := am_ (below_step (bl_) hb); (try clear hb); (try clear hb2); (try clear hk); (try clear hi)))
                go_ret
                exact ⟨ew_, bl_⟩
              ·rw [if_neg c27] at H
               exact absurd H (by simp)
             ·rw [if_neg c26] at H
              exact absurd H (by simp)
         ·rw [if_neg c19] at H
          have c19b0 : decide (x14_3 < (l4.length : Int)) = false := decide_eq_false c19
          clear c19
          replace H := Option.bind_eq_some_iff.mp H
          obtain ⟨⟨t409, t412⟩, A340, H⟩ := H
          replace H : ((trommelref17_Row.f k3 a0 l4).bind fun t413 => ((trommelref18_Has.f k3 t409 t412 t413).bind fun t414 => (some t414))) = some r := H
          have A34 := am_ A340
          clear A340
          replace H := Option.bind_eq_some_iff.mp H
          obtain ⟨t413, A350, H⟩ := H
          replace H : ((trommelref18_Has.f k3 t409 t412 t413).bind fun t414 => (some t414)) = some r := H
          have A35 := am_ A350
          clear A350
          replace H := Option.bind_eq_some_iff.mp H
          obtain ⟨t414, A360, H⟩ := H
          replace H : (some t414) = some r := H
          have A36 := am_ A360
          clear A360
          obtain rfl := Option.some.inj H
          go_wp2_with (first | ((with_reducible refine gate_callee (f := 46) rfl ?_); refine goesL_ (some 91) rfl rfl Tryd.func46 (by kernel_rfl) rfl #[.int .i64 a0, .int .i64 a1, .int .i64 a2, .slice A3 l3.length c3] rfl (by (try simp only [List.map_toArray, List.map_cons, List.map_nil]); first | done | rfl | (simp only [List.length_drop, List.length_take]; rfl)) ?_; (with_reducible refine (trommelref20_Bits.calls k3 a0 a1 a2 _ _ l3 t409 t412 _ ?side1 ?side2 A34.out).mono ?_); (case side1 => repeat (first | exact (Kd.C_below HR3.out HB.out) | (with_reducible refine Kd.C_alloc ?_ _) | (with_reducible refine Kd.C_drewN ?_ _) | (with_reducible refine Kd.C_drew ?_))); (case side2 => exact HC3.out); rintro e w37 ⟨v410, rfl, ho0, hb⟩; refine ⟨_, rfl, ?_⟩; replace HO_11 := am_ (Kd.N_elder' (kn_ HO_11.out) (Kd.R_base ho0) hb); have HO411 := am_ (Kd.R_lower ho0 (below_size (bl_))); replace HB := am_ (below_step (bl_) hb); (try clear hb); (try clear hb2); (try clear hk); (try clear hi); (try clear ho0)) | ((with_reducible refine gate_callee (f := 16) rfl ?_); refine goesL_ (some 94) rfl rfl Tryd.func16 (by kernel_rfl) rfl #[.int .i64 a0, .slice A4 l4.length c4] rfl (by (try simp only [List.map_toArray, List.map_cons, List.map_nil]); first | done | rfl | (simp only [List.length_drop, List.length_take]; rfl)) ?_; (with_reducible refine (trommelref17_Row.calls k3 a0 _ _ l4 t413 _ ?side1 ?side2 A35.out).mono ?_); (case side1 => repeat (first | exact (Kd.C_below HR4.out HB.out) | (with_reducible refine Kd.C_alloc ?_ _) | (with_reducible refine Kd.C_drewN ?_ _) | (with_reducible refine Kd.C_drew ?_))); (case side2 => exact HC4.out); rintro e w38 ⟨rfl, hb⟩; refine ⟨_, rfl, ?_⟩; replace HO_11 := am_ (Kd.N_below (kn_ HO_11.out) hb); replace HO411 := am_ (Kd.R_below (kr_ HO411.out) hb); replace HB := am_ (below_step (bl_) hb); (try clear hb); (try clear hb2); (try clear hk); (try clear hi); obtain ⟨Ao39, co39, eo39⟩ := Kd.R_slice HO411.out; subst eo39) | ((with_reducible refine gate_callee (f := 89) rfl ?_); refine goesL_ (some 95) rfl rfl Tryd.func89 (by kernel_rfl) rfl #[.agg #[.slice Ao39 t409.length co39, .int .i64 t412], .int .u64 t413] rfl (by (try simp only [List.map_toArray, List.map_cons, List.map_nil]); first | done | rfl | (simp only [List.length_drop, List.length_take]; rfl)) ?_; (with_reducible refine (trommelref18_Has.calls k3 _ _ t409 t412 t413 t414 _ ?side1 ?side2 A36.out).mono ?_); (case side1 => repeat (first | exact (Kd.R_reads' HO411.out).2.2 | (with_reducible refine Kd.C_alloc ?_ _) | (with_reducible refine Kd.C_drewN ?_ _) | (with_reducible refine Kd.C_drew ?_))); (case side2 => exact (Kd.R_reads' HO411.out).2.1); rintro e w40 ⟨rfl, hb⟩; refine ⟨_, rfl, ?_⟩; replace HO_11 := am_ (Kd.N_below (kn_ HO_11.out) hb); replace HO411 := am_ (Kd.R_below (kr_ HO411.out) hb); replace HB := am_ (below_step (bl_) hb); (try clear hb); (try clear hb2); (try clear hk); (try clear hi)))
          go_ret
          exact ⟨ew_, bl_⟩

def bits_OnesCount64.f (a0 : Int) : Option (Int) := some (Go.bits .and .i64 (wrap64 (IntKind.u64.wrap ((IntKind.u64.wrap ((IntKind.u64.wrap ((Go.bits .and .u64 (IntKind.u64.wrap (((IntKind.u64.wrap ((Go.bits .and .u64 ((IntKind.u64.wrap ((Go.bits .and .u64 (a0 / 2) 6148914691236517205) + (Go.bits .and .u64 a0 6148914691236517205))) / 4) 3689348814741910323) + (Go.bits .and .u64 (IntKind.u64.wrap ((Go.bits .and .u64 (a0 / 2) 6148914691236517205) + (Go.bits .and .u64 a0 6148914691236517205))) 3689348814741910323))) / 16) + (IntKind.u64.wrap ((Go.bits .and .u64 ((IntKind.u64.wrap ((Go.bits .and .u64 (a0 / 2) 6148914691236517205) + (Go.bits .and .u64 a0 6148914691236517205))) / 4) 3689348814741910323) + (Go.bits .and .u64 (IntKind.u64.wrap ((Go.bits .and .u64 (a0 / 2) 6148914691236517205) + (Go.bits .and .u64 a0 6148914691236517205))) 3689348814741910323))))) 1085102592571150095) + ((Go.bits .and .u64 (IntKind.u64.wrap (((IntKind.u64.wrap ((Go.bits .and .u64 ((IntKind.u64.wrap ((Go.bits .and .u64 (a0 / 2) 6148914691236517205) + (Go.bits .and .u64 a0 6148914691236517205))) / 4) 3689348814741910323) + (Go.bits .and .u64 (IntKind.u64.wrap ((Go.bits .and .u64 (a0 / 2) 6148914691236517205) + (Go.bits .and .u64 a0 6148914691236517205))) 3689348814741910323))) / 16) + (IntKind.u64.wrap ((Go.bits .and .u64 ((IntKind.u64.wrap ((Go.bits .and .u64 (a0 / 2) 6148914691236517205) + (Go.bits .and .u64 a0 6148914691236517205))) / 4) 3689348814741910323) + (Go.bits .and .u64 (IntKind.u64.wrap ((Go.bits .and .u64 (a0 / 2) 6148914691236517205) + (Go.bits .and .u64 a0 6148914691236517205))) 3689348814741910323))))) 1085102592571150095) / 256))) + ((IntKind.u64.wrap ((Go.bits .and .u64 (IntKind.u64.wrap (((IntKind.u64.wrap ((Go.bits .and .u64 ((IntKind.u64.wrap ((Go.bits .and .u64 (a0 / 2) 6148914691236517205) + (Go.bits .and .u64 a0 6148914691236517205))) / 4) 3689348814741910323) + (Go.bits .and .u64 (IntKind.u64.wrap ((Go.bits .and .u64 (a0 / 2) 6148914691236517205) + (Go.bits .and .u64 a0 6148914691236517205))) 3689348814741910323))) / 16) + (IntKind.u64.wrap ((Go.bits .and .u64 ((IntKind.u64.wrap ((Go.bits .and .u64 (a0 / 2) 6148914691236517205) + (Go.bits .and .u64 a0 6148914691236517205))) / 4) 3689348814741910323) + (Go.bits .and .u64 (IntKind.u64.wrap ((Go.bits .and .u64 (a0 / 2) 6148914691236517205) + (Go.bits .and .u64 a0 6148914691236517205))) 3689348814741910323))))) 1085102592571150095) + ((Go.bits .and .u64 (IntKind.u64.wrap (((IntKind.u64.wrap ((Go.bits .and .u64 ((IntKind.u64.wrap ((Go.bits .and .u64 (a0 / 2) 6148914691236517205) + (Go.bits .and .u64 a0 6148914691236517205))) / 4) 3689348814741910323) + (Go.bits .and .u64 (IntKind.u64.wrap ((Go.bits .and .u64 (a0 / 2) 6148914691236517205) + (Go.bits .and .u64 a0 6148914691236517205))) 3689348814741910323))) / 16) + (IntKind.u64.wrap ((Go.bits .and .u64 ((IntKind.u64.wrap ((Go.bits .and .u64 (a0 / 2) 6148914691236517205) + (Go.bits .and .u64 a0 6148914691236517205))) / 4) 3689348814741910323) + (Go.bits .and .u64 (IntKind.u64.wrap ((Go.bits .and .u64 (a0 / 2) 6148914691236517205) + (Go.bits .and .u64 a0 6148914691236517205))) 3689348814741910323))))) 1085102592571150095) / 256))) / 65536))) + ((IntKind.u64.wrap ((IntKind.u64.wrap ((Go.bits .and .u64 (IntKind.u64.wrap (((IntKind.u64.wrap ((Go.bits .and .u64 ((IntKind.u64.wrap ((Go.bits .and .u64 (a0 / 2) 6148914691236517205) + (Go.bits .and .u64 a0 6148914691236517205))) / 4) 3689348814741910323) + (Go.bits .and .u64 (IntKind.u64.wrap ((Go.bits .and .u64 (a0 / 2) 6148914691236517205) + (Go.bits .and .u64 a0 6148914691236517205))) 3689348814741910323))) / 16) + (IntKind.u64.wrap ((Go.bits .and .u64 ((IntKind.u64.wrap ((Go.bits .and .u64 (a0 / 2) 6148914691236517205) + (Go.bits .and .u64 a0 6148914691236517205))) / 4) 3689348814741910323) + (Go.bits .and .u64 (IntKind.u64.wrap ((Go.bits .and .u64 (a0 / 2) 6148914691236517205) + (Go.bits .and .u64 a0 6148914691236517205))) 3689348814741910323))))) 1085102592571150095) + ((Go.bits .and .u64 (IntKind.u64.wrap (((IntKind.u64.wrap ((Go.bits .and .u64 ((IntKind.u64.wrap ((Go.bits .and .u64 (a0 / 2) 6148914691236517205) + (Go.bits .and .u64 a0 6148914691236517205))) / 4) 3689348814741910323) + (Go.bits .and .u64 (IntKind.u64.wrap ((Go.bits .and .u64 (a0 / 2) 6148914691236517205) + (Go.bits .and .u64 a0 6148914691236517205))) 3689348814741910323))) / 16) + (IntKind.u64.wrap ((Go.bits .and .u64 ((IntKind.u64.wrap ((Go.bits .and .u64 (a0 / 2) 6148914691236517205) + (Go.bits .and .u64 a0 6148914691236517205))) / 4) 3689348814741910323) + (Go.bits .and .u64 (IntKind.u64.wrap ((Go.bits .and .u64 (a0 / 2) 6148914691236517205) + (Go.bits .and .u64 a0 6148914691236517205))) 3689348814741910323))))) 1085102592571150095) / 256))) + ((IntKind.u64.wrap ((Go.bits .and .u64 (IntKind.u64.wrap (((IntKind.u64.wrap ((Go.bits .and .u64 ((IntKind.u64.wrap ((Go.bits .and .u64 (a0 / 2) 6148914691236517205) + (Go.bits .and .u64 a0 6148914691236517205))) / 4) 3689348814741910323) + (Go.bits .and .u64 (IntKind.u64.wrap ((Go.bits .and .u64 (a0 / 2) 6148914691236517205) + (Go.bits .and .u64 a0 6148914691236517205))) 3689348814741910323))) / 16) + (IntKind.u64.wrap ((Go.bits .and .u64 ((IntKind.u64.wrap ((Go.bits .and .u64 (a0 / 2) 6148914691236517205) + (Go.bits .and .u64 a0 6148914691236517205))) / 4) 3689348814741910323) + (Go.bits .and .u64 (IntKind.u64.wrap ((Go.bits .and .u64 (a0 / 2) 6148914691236517205) + (Go.bits .and .u64 a0 6148914691236517205))) 3689348814741910323))))) 1085102592571150095) + ((Go.bits .and .u64 (IntKind.u64.wrap (((IntKind.u64.wrap ((Go.bits .and .u64 ((IntKind.u64.wrap ((Go.bits .and .u64 (a0 / 2) 6148914691236517205) + (Go.bits .and .u64 a0 6148914691236517205))) / 4) 3689348814741910323) + (Go.bits .and .u64 (IntKind.u64.wrap ((Go.bits .and .u64 (a0 / 2) 6148914691236517205) + (Go.bits .and .u64 a0 6148914691236517205))) 3689348814741910323))) / 16) + (IntKind.u64.wrap ((Go.bits .and .u64 ((IntKind.u64.wrap ((Go.bits .and .u64 (a0 / 2) 6148914691236517205) + (Go.bits .and .u64 a0 6148914691236517205))) / 4) 3689348814741910323) + (Go.bits .and .u64 (IntKind.u64.wrap ((Go.bits .and .u64 (a0 / 2) 6148914691236517205) + (Go.bits .and .u64 a0 6148914691236517205))) 3689348814741910323))))) 1085102592571150095) / 256))) / 65536))) / 4294967296)))) 127)
set_option maxHeartbeats 8000000 in
set_option maxRecDepth 100000 in
theorem bits_OnesCount64.calls (a0 : Int) (r : Int) (w : World) (h : bits_OnesCount64.f a0 = some r) :
  Calls Tryd.prog 124 #[.int .u64 a0] w fun e w' => e = .returned (.int .i64 r) ∧ Drawn0 w w' := by
 have H : (some (Go.bits .and .i64 (wrap64 (IntKind.u64.wrap ((IntKind.u64.wrap ((IntKind.u64.wrap ((Go.bits .and .u64 (IntKind.u64.wrap (((IntKind.u64.wrap ((Go.bits .and .u64 ((IntKind.u64.wrap ((Go.bits .and .u64 (a0 / 2) 6148914691236517205) + (Go.bits .and .u64 a0 6148914691236517205))) / 4) 3689348814741910323) + (Go.bits .and .u64 (IntKind.u64.wrap ((Go.bits .and .u64 (a0 / 2) 6148914691236517205) + (Go.bits .and .u64 a0 6148914691236517205))) 3689348814741910323))) / 16) + (IntKind.u64.wrap ((Go.bits .and .u64 ((IntKind.u64.wrap ((Go.bits .and .u64 (a0 / 2) 6148914691236517205) + (Go.bits .and .u64 a0 6148914691236517205))) / 4) 3689348814741910323) + (Go.bits .and .u64 (IntKind.u64.wrap ((Go.bits .and .u64 (a0 / 2) 6148914691236517205) + (Go.bits .and .u64 a0 6148914691236517205))) 3689348814741910323))))) 1085102592571150095) + ((Go.bits .and .u64 (IntKind.u64.wrap (((IntKind.u64.wrap ((Go.bits .and .u64 ((IntKind.u64.wrap ((Go.bits .and .u64 (a0 / 2) 6148914691236517205) + (Go.bits .and .u64 a0 6148914691236517205))) / 4) 3689348814741910323) + (Go.bits .and .u64 (IntKind.u64.wrap ((Go.bits .and .u64 (a0 / 2) 6148914691236517205) + (Go.bits .and .u64 a0 6148914691236517205))) 3689348814741910323))) / 16) + (IntKind.u64.wrap ((Go.bits .and .u64 ((IntKind.u64.wrap ((Go.bits .and .u64 (a0 / 2) 6148914691236517205) + (Go.bits .and .u64 a0 6148914691236517205))) / 4) 3689348814741910323) + (Go.bits .and .u64 (IntKind.u64.wrap ((Go.bits .and .u64 (a0 / 2) 6148914691236517205) + (Go.bits .and .u64 a0 6148914691236517205))) 3689348814741910323))))) 1085102592571150095) / 256))) + ((IntKind.u64.wrap ((Go.bits .and .u64 (IntKind.u64.wrap (((IntKind.u64.wrap ((Go.bits .and .u64 ((IntKind.u64.wrap ((Go.bits .and .u64 (a0 / 2) 6148914691236517205) + (Go.bits .and .u64 a0 6148914691236517205))) / 4) 3689348814741910323) + (Go.bits .and .u64 (IntKind.u64.wrap ((Go.bits .and .u64 (a0 / 2) 6148914691236517205) + (Go.bits .and .u64 a0 6148914691236517205))) 3689348814741910323))) / 16) + (IntKind.u64.wrap ((Go.bits .and .u64 ((IntKind.u64.wrap ((Go.bits .and .u64 (a0 / 2) 6148914691236517205) + (Go.bits .and .u64 a0 6148914691236517205))) / 4) 3689348814741910323) + (Go.bits .and .u64 (IntKind.u64.wrap ((Go.bits .and .u64 (a0 / 2) 6148914691236517205) + (Go.bits .and .u64 a0 6148914691236517205))) 3689348814741910323))))) 1085102592571150095) + ((Go.bits .and .u64 (IntKind.u64.wrap (((IntKind.u64.wrap ((Go.bits .and .u64 ((IntKind.u64.wrap ((Go.bits .and .u64 (a0 / 2) 6148914691236517205) + (Go.bits .and .u64 a0 6148914691236517205))) / 4) 3689348814741910323) + (Go.bits .and .u64 (IntKind.u64.wrap ((Go.bits .and .u64 (a0 / 2) 6148914691236517205) + (Go.bits .and .u64 a0 6148914691236517205))) 3689348814741910323))) / 16) + (IntKind.u64.wrap ((Go.bits .and .u64 ((IntKind.u64.wrap ((Go.bits .and .u64 (a0 / 2) 6148914691236517205) + (Go.bits .and .u64 a0 6148914691236517205))) / 4) 3689348814741910323) + (Go.bits .and .u64 (IntKind.u64.wrap ((Go.bits .and .u64 (a0 / 2) 6148914691236517205) + (Go.bits .and .u64 a0 6148914691236517205))) 3689348814741910323))))) 1085102592571150095) / 256))) / 65536))) + ((IntKind.u64.wrap ((IntKind.u64.wrap ((Go.bits .and .u64 (IntKind.u64.wrap (((IntKind.u64.wrap ((Go.bits .and .u64 ((IntKind.u64.wrap ((Go.bits .and .u64 (a0 / 2) 6148914691236517205) + (Go.bits .and .u64 a0 6148914691236517205))) / 4) 3689348814741910323) + (Go.bits .and .u64 (IntKind.u64.wrap ((Go.bits .and .u64 (a0 / 2) 6148914691236517205) + (Go.bits .and .u64 a0 6148914691236517205))) 3689348814741910323))) / 16) + (IntKind.u64.wrap ((Go.bits .and .u64 ((IntKind.u64.wrap ((Go.bits .and .u64 (a0 / 2) 6148914691236517205) + (Go.bits .and .u64 a0 6148914691236517205))) / 4) 3689348814741910323) + (Go.bits .and .u64 (IntKind.u64.wrap ((Go.bits .and .u64 (a0 / 2) 6148914691236517205) + (Go.bits .and .u64 a0 6148914691236517205))) 3689348814741910323))))) 1085102592571150095) + ((Go.bits .and .u64 (IntKind.u64.wrap (((IntKind.u64.wrap ((Go.bits .and .u64 ((IntKind.u64.wrap ((Go.bits .and .u64 (a0 / 2) 6148914691236517205) + (Go.bits .and .u64 a0 6148914691236517205))) / 4) 3689348814741910323) + (Go.bits .and .u64 (IntKind.u64.wrap ((Go.bits .and .u64 (a0 / 2) 6148914691236517205) + (Go.bits .and .u64 a0 6148914691236517205))) 3689348814741910323))) / 16) + (IntKind.u64.wrap ((Go.bits .and .u64 ((IntKind.u64.wrap ((Go.bits .and .u64 (a0 / 2) 6148914691236517205) + (Go.bits .and .u64 a0 6148914691236517205))) / 4) 3689348814741910323) + (Go.bits .and .u64 (IntKind.u64.wrap ((Go.bits .and .u64 (a0 / 2) 6148914691236517205) + (Go.bits .and .u64 a0 6148914691236517205))) 3689348814741910323))))) 1085102592571150095) / 256))) + ((IntKind.u64.wrap ((Go.bits .and .u64 (IntKind.u64.wrap (((IntKind.u64.wrap ((Go.bits .and .u64 ((IntKind.u64.wrap ((Go.bits .and .u64 (a0 / 2) 6148914691236517205) + (Go.bits .and .u64 a0 6148914691236517205))) / 4) 3689348814741910323) + (Go.bits .and .u64 (IntKind.u64.wrap ((Go.bits .and .u64 (a0 / 2) 6148914691236517205) + (Go.bits .and .u64 a0 6148914691236517205))) 3689348814741910323))) / 16) + (IntKind.u64.wrap ((Go.bits .and .u64 ((IntKind.u64.wrap ((Go.bits .and .u64 (a0 / 2) 6148914691236517205) + (Go.bits .and .u64 a0 6148914691236517205))) / 4) 3689348814741910323) + (Go.bits .and .u64 (IntKind.u64.wrap ((Go.bits .and .u64 (a0 / 2) 6148914691236517205) + (Go.bits .and .u64 a0 6148914691236517205))) 3689348814741910323))))) 1085102592571150095) + ((Go.bits .and .u64 (IntKind.u64.wrap (((IntKind.u64.wrap ((Go.bits .and .u64 ((IntKind.u64.wrap ((Go.bits .and .u64 (a0 / 2) 6148914691236517205) + (Go.bits .and .u64 a0 6148914691236517205))) / 4) 3689348814741910323) + (Go.bits .and .u64 (IntKind.u64.wrap ((Go.bits .and .u64 (a0 / 2) 6148914691236517205) + (Go.bits .and .u64 a0 6148914691236517205))) 3689348814741910323))) / 16) + (IntKind.u64.wrap ((Go.bits .and .u64 ((IntKind.u64.wrap ((Go.bits .and .u64 (a0 / 2) 6148914691236517205) + (Go.bits .and .u64 a0 6148914691236517205))) / 4) 3689348814741910323) + (Go.bits .and .u64 (IntKind.u64.wrap ((Go.bits .and .u64 (a0 / 2) 6148914691236517205) + (Go.bits .and .u64 a0 6148914691236517205))) 3689348814741910323))))) 1085102592571150095) / 256))) / 65536))) / 4294967296)))) 127)) = some r := h
 clear h
 obtain rfl := Option.some.inj H
 go_enter Tryd.func124, Tryd.ntmps124
 go_wp2
 go_ret
 exact ⟨rs_, by repeat (first | exact Drawn0.refl _ | apply Drawn0.step)⟩

def bloom_Ones.l0 : Nat → Int → List Int → Int → Int → Option (Int)
 | 0, _, _, _, _ => none
 | k + 1, x3, x7, x8, x9 => if x9 < x8 then (if 0 ≤ x9 then (if x9 < (x7.length : Int) then ((bits_OnesCount64.f (rd x7 x9)).bind fun t417 => (bloom_Ones.l0 k (wrap64 (x3 + t417)) x7 x8 (wrap64 (x9 + 1)))) else (none)) else (none)) else (some x3)
def bloom_Ones.f (k : Nat) (l0_0 : List Int) (a0_1 : Int) : Option (Int) := bloom_Ones.l0 k 0 l0_0 (l0_0.length : Int) 0
theorem bloom_Ones.mono_l : ∀ k, (∀ y0 y1 y2 y3, LeO (bloom_Ones.l0 k y0 y1 y2 y3) (bloom_Ones.l0 (k + 1) y0 y1 y2 y3))
 | 0 => fun _ _ _ _ r h => by simp [bloom_Ones.l0] at h
 | k + 1 => by
  have ih0 := bloom_Ones.mono_l k
  ·intro y0 y1 y2 y3
   unfold bloom_Ones.l0
   repeat' first
   | (with_reducible exact ih0 _ _ _ _)
   | (with_reducible exact LeO.refl _)
   | (with_reducible exact LeO.none _)
   | (with_reducible refine LeO.ite ?_ ?_)
   | (with_reducible refine LeO.bind ?_ (fun _ => ?_))
   | exact ih0 _ _ _ _
   | exact LeO.none _
   | refine LeO.ite ?_ ?_
   | refine LeO.bind ?_ (fun _ => ?_)
theorem bloom_Ones.mono : ∀ a0 a1 k, LeO (bloom_Ones.f k a0 a1) (bloom_Ones.f (k + 1) a0 a1) := by
 intro a0 a1 k
 have ih0 := bloom_Ones.mono_l k
 unfold bloom_Ones.f
 repeat' first
   | (with_reducible exact ih0 _ _ _ _)
   | (with_reducible exact LeO.refl _)
   | (with_reducible exact LeO.none _)
   | (with_reducible refine LeO.ite ?_ ?_)
   | (with_reducible refine LeO.bind ?_ (fun _ => ?_))
   | exact ih0 _ _ _ _
   | exact LeO.none _
   | refine LeO.ite ?_ ?_
   | refine LeO.bind ?_ (fun _ => ?_)
set_option maxHeartbeats 8000000 in
set_option maxRecDepth 100000 in
theorem bloom_Ones.calls (k : Nat) (A0_0 : Option Addr) (c0_0 : Nat) (l0_0 : List Int) (a0_1 : Int) (r : Int) (w : World) (hr0_0 : Kd.C (Kd.int .u64) w A0_0 l0_0.length l0_0) (hc0_0 : l0_0.length ≤ c0_0) (h : bloom_Ones.f k l0_0 a0_1 = some r) :
  Calls Tryd.prog 90 #[.agg #[.slice A0_0 l0_0.length c0_0, .int .i64 a0_1]] w fun e w' => e = .returned (.int .i64 r) ∧ Below w.heap.size w w' := by
 have hu47 := Tryd.underlying47
 have HR0_0 := am_ hr0_0
 have HC0_0 := am_ hc0_0
 clear hr0_0 hc0_0
 have HB := am_ (Below.refl w.heap.size w)
 have H : (bloom_Ones.l0 k 0 l0_0 (l0_0.length : Int) 0) = some r := h
 clear h
 have H' := am_ H
 clear H
 go_enter Tryd.func90, Tryd.ntmps90
 go_wp2_with (first | ((with_reducible refine gate_dst (N := 1) rfl ?_); refine box_event ?hg (N := 1) ?hd (cs := #[.slice A0_0 l0_0.length c0_0, .int .i64 a0_1]) (t := 47) ?hr ?_; (case hd => rfl); (case hg => rfl); (case hr => first | (go_simp; done) | (go_simp; rfl)); intro gb415 hg w2 hbox hb; have BK415 := am_ (hbox); have GW415 := am_ ((by rw [hg]; exact (below_size (bl_)) : w.heap.size ≤ gb415)); have GE415 := am_ ((by rw [hg]; exact (below_size (bl_)) : w.heap.size ≤ gb415)); replace HB := am_ (below_step (bl_) hb); clear hb hbox hg; have hcz3_0 : w2.cell? ⟨gb415, 0, none⟩ = some (.slice A0_0 l0_0.length c0_0) := (blk_cell BK415.out 0).trans rfl; have hcz3_1 : w2.cell? ⟨gb415, 1, none⟩ = some (.int .i64 a0_1) := (blk_cell BK415.out 1).trans rfl; have hfz3_0 := blk_frozen BK415.out 0; have hfz3_1 := blk_frozen BK415.out 1))
 go_loopg [3, 9] k (fun kq v3 v9 w' => ∃ (x3_1 : Int) (x9_1 : Int), v3 = .int .i64 x3_1 ∧ v9 = .int .i64 x9_1 ∧ Aside0 (bloom_Ones.l0 kq x3_1 l0_0 (l0_0.length : Int) x9_1 = some r) ∧ Aside0 (kq ≤ k) ∧ Aside0 (w'.heap[gb415]? = some (.cells #[(.slice A0_0 l0_0.length c0_0), .int .i64 a0_1] 47 (0, 0))) ∧ Aside0 (Below w.heap.size w w'))
 case atStart => exact ⟨(0), (0), (rs_), (rs_), H', ⟨Nat.le_refl _⟩, ⟨bk_ BK415.out⟩, ⟨bl_⟩⟩
 case round =>
  clear H'
  try clear p2
  try clear hcz3_0
  try clear hcz3_1
  try clear hfz3_0
  try clear hfz3_1
  obtain ⟨x3_1, x9_1, rfl, rfl, HA, HK1, BK415, HB⟩ := hrel
  cases gk with
  | zero => exact absurd HA.out (by simp [bloom_Ones.l0])
  | succ k1 =>
   have H := HA.out
   clear HA
   simp only [bloom_Ones.l0] at H
   by_cases c4 : x9_1 < (l0_0.length : Int)
   ·rw [if_pos c4] at H
    have c4b0 : decide (x9_1 < (l0_0.length : Int)) = true := decide_eq_true c4
    clear c4
    by_cases c5 : 0 ≤ x9_1
    ·rw [if_pos c5] at H
     have c5b0 : decide (0 ≤ x9_1) = true := decide_eq_true c5
     clear c5
     by_cases c6 : x9_1 < (l0_0.length : Int)
     ·rw [if_pos c6] at H
      have c6b0 : decide (x9_1 < (l0_0.length : Int)) = true := decide_eq_true c6
      clear c6
      replace H := Option.bind_eq_some_iff.mp H
      obtain ⟨t417, A70, H⟩ := H
      replace H : (bloom_Ones.l0 k1 (wrap64 (x3_1 + t417)) l0_0 (l0_0.length : Int) (wrap64 (x9_1 + 1))) = some r := H
      have A7 := am_ A70
      clear A70
      have H' := am_ H
      clear H
      have p416 : 0 ≤ (x9_1 : Int) := of_decide_eq_true (as_)
      have q416 : x9_1 < (l0_0.length : Int) := of_decide_eq_true (as_)
      obtain ⟨ad416, e416, hx416_0⟩ := Kd.at_int HR0_0.out x9_1 p416 q416
      cases e416
      replace hx416_0 := (HB.out.cell (World.block_lt_of_cell? w _ hx416_0)).trans hx416_0
      replace p416 := eq_true p416
      replace q416 := eq_true q416
      go_wp2_with (first | ((with_reducible refine gate_callee (f := 124) rfl ?_); refine goesL_ (some 15) rfl rfl Tryd.func124 (by kernel_rfl) rfl #[.int .u64 (rd l0_0 x9_1)] rfl (by (try simp only [List.map_toArray, List.map_cons, List.map_nil]); first | done | rfl | (simp only [List.length_drop, List.length_take]; rfl)) ?_; (with_reducible refine (bits_OnesCount64.calls (rd l0_0 x9_1) t417 _ A7.out).mono ?_); rintro e w' ⟨rfl, ⟨nd, rfl⟩⟩; refine ⟨_, rfl, ?_⟩))
      go_roundg k1
      case measure => have := HK1.out; omega
      case rel => exact ⟨(wrap64 (x3_1 + t417)), (wrap64 (x9_1 + 1)), (rs_), (rs_), H', ⟨by have := HK1.out; omega⟩, ⟨bk_ BK415.out⟩, ⟨bl_⟩⟩
     ·rw [if_neg c6] at H
      exact absurd H (by simp)
    ·rw [if_neg c5] at H
     exact absurd H (by simp)
   ·rw [if_neg c4] at H
    have c4b0 : decide (x9_1 < (l0_0.length : Int)) = false := decide_eq_false c4
    clear c4
    obtain rfl := Option.some.inj H
    go_wp2
    go_ret
    exact ⟨ew_, bl_⟩

def sift_Ones.f (k : Nat) (l0_0 : List Int) (a0_1 : Int) (l0_2 : List (S106)) (a0_3 : Int) (a0_4 : Int) (a0_5 : Bool) : Option (Int) := (bloom_Ones.f k l0_0 a0_1).bind fun t419 => (some t419)
theorem sift_Ones.mono : ∀ a0 a1 a2 a3 a4 a5 k, LeO (sift_Ones.f k a0 a1 a2 a3 a4 a5) (sift_Ones.f (k + 1) a0 a1 a2 a3 a4 a5) := by
 intro a0 a1 a2 a3 a4 a5 k
 unfold sift_Ones.f
 repeat' first
   | (with_reducible exact bloom_Ones.mono _ _ _)
   | (with_reducible exact LeO.refl _)
   | (with_reducible exact LeO.none _)
   | (with_reducible refine LeO.ite ?_ ?_)
   | (with_reducible refine LeO.bind ?_ (fun _ => ?_))
   | exact bloom_Ones.mono _ _ _
   | exact LeO.none _
   | refine LeO.ite ?_ ?_
   | refine LeO.bind ?_ (fun _ => ?_)
set_option maxHeartbeats 8000000 in
set_option maxRecDepth 100000 in
theorem sift_Ones.calls (k : Nat) (A0_0 : Option Addr) (c0_0 : Nat) (l0_0 : List Int) (a0_1 : Int) (A0_2 : Option Addr) (c0_2 : Nat) (l0_2 : List (S106)) (a0_3 : Int) (a0_4 : Int) (a0_5 : Bool) (r : Int) (w : World) (hr0_0 : Kd.C (Kd.int .u64) w A0_0 l0_0.length l0_0) (hc0_0 : l0_0.length ≤ c0_0) (hr0_2 : Kd.C k106 w A0_2 l0_2.length l0_2) (hc0_2 : l0_2.length ≤ c0_2) (h : sift_Ones.f k l0_0 a0_1 l0_2 a0_3 a0_4 a0_5 = some r) :
  Calls Tryd.prog 48 #[.agg #[.slice A0_0 l0_0.length c0_0, .int .i64 a0_1, .slice A0_2 l0_2.length c0_2, .int .i64 a0_3, .int .i64 a0_4, .bool a0_5]] w fun e w' => e = .returned (.int .i64 r) ∧ Below w.heap.size w w' := by
 have hu50 := Tryd.underlying50
 have hu47 := Tryd.underlying47
 have HR0_0 := am_ hr0_0
 have HC0_0 := am_ hc0_0
 clear hr0_0 hc0_0
 have HR0_2 := am_ hr0_2
 have HC0_2 := am_ hc0_2
 clear hr0_2 hc0_2
 have HB := am_ (Below.refl w.heap.size w)
 have H : ((bloom_Ones.f k l0_0 a0_1).bind fun t419 => (some t419)) = some r := h
 clear h
 replace H := Option.bind_eq_some_iff.mp H
 obtain ⟨t419, A20, H⟩ := H
 replace H : (some t419) = some r := H
 have A2 := am_ A20
 clear A20
 obtain rfl := Option.some.inj H
 go_enter Tryd.func48, Tryd.ntmps48
 go_wp2_with (first | ((with_reducible refine gate_dst (N := 1) rfl ?_); refine box_event ?hg (N := 1) ?hd (cs := #[.slice A0_0 l0_0.length c0_0, .int .i64 a0_1, .slice A0_2 l0_2.length c0_2, .int .i64 a0_3, .int .i64 a0_4, .bool a0_5]) (t := 50) ?hr ?_; (case hd => rfl); (case hg => rfl); (case hr => first | (go_simp; done) | (go_simp; rfl)); intro gb418 hg w3 hbox hb; have BK418 := am_ (hbox); have GW418 := am_ ((by rw [hg]; exact (below_size (bl_)) : w.heap.size ≤ gb418)); have GE418 := am_ ((by rw [hg]; exact (below_size (bl_)) : w.heap.size ≤ gb418)); replace HB := am_ (below_step (bl_) hb); clear hb hbox hg; have hcz4_0 : w3.cell? ⟨gb418, 0, none⟩ = some (.slice A0_0 l0_0.length c0_0) := (blk_cell BK418.out 0).trans rfl; have hcz4_1 : w3.cell? ⟨gb418, 1, none⟩ = some (.int .i64 a0_1) := (blk_cell BK418.out 1).trans rfl; have hcz4_2 : w3.cell? ⟨gb418, 2, none⟩ = some (.slice A0_2 l0_2.length c0_2) := (blk_cell BK418.out 2).trans rfl; have hcz4_3 : w3.cell? ⟨gb418, 3, none⟩ = some (.int .i64 a0_3) := (blk_cell BK418.out 3).trans rfl; have hcz4_4 : w3.cell? ⟨gb418, 4, none⟩ = some (.int .i64 a0_4) := (blk_cell BK418.out 4).trans rfl; have hcz4_5 : w3.cell? ⟨gb418, 5, none⟩ = some (.bool a0_5) := (blk_cell BK418.out 5).trans rfl; have hfz4_0 := blk_frozen BK418.out 0; have hfz4_1 := blk_frozen BK418.out 1; have hfz4_2 := blk_frozen BK418.out 2; have hfz4_3 := blk_frozen BK418.out 3; have hfz4_4 := blk_frozen BK418.out 4; have hfz4_5 := blk_frozen BK418.out 5) | ((with_reducible refine gate_callee (f := 90) rfl ?_); refine goesL_ (some 5) rfl rfl Tryd.func90 (by kernel_rfl) rfl #[.agg #[.slice A0_0 l0_0.length c0_0, .int .i64 a0_1]] rfl (by (try simp only [List.map_toArray, List.map_cons, List.map_nil]); first | done | rfl | (simp only [List.length_drop, List.length_take]; rfl)) ?_; (with_reducible refine (bloom_Ones.calls k _ _ l0_0 a0_1 t419 _ ?side1 ?side2 A2.out).mono ?_); (case side1 => repeat (first | exact (Kd.C_below HR0_0.out HB.out) | (with_reducible refine Kd.C_alloc ?_ _) | (with_reducible refine Kd.C_drewN ?_ _) | (with_reducible refine Kd.C_drew ?_))); (case side2 => exact HC0_0.out); rintro e w5 ⟨rfl, hb⟩; refine ⟨_, rfl, ?_⟩; replace BK418 := am_ (blk_below (g := gb418) (o := .cells #[.slice A0_0 l0_0.length c0_0, .int .i64 a0_1, .slice A0_2 l0_2.length c0_2, .int .i64 a0_3, .int .i64 a0_4, .bool a0_5] 50 (0, 0)) (bk_ BK418.out) hb); replace HB := am_ (below_step (bl_) hb); (try clear hb); (try clear hb2); (try clear hk); (try clear hi)))
 go_ret
 exact ⟨ew_, bl_⟩

end Go.Proofs.YtcfgjaggccnoaaaDoor.PSiftPasses
