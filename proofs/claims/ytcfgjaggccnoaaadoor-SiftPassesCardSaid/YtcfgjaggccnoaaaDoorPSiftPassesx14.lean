import Derived.Test.YtcfgjaggccnoaaaDoorPSiftPassesx0
import Derived.Test.YtcfgjaggccnoaaaDoorPSiftPassesx1
import Derived.Test.YtcfgjaggccnoaaaDoorPSiftPassesx3
import Derived.Test.YtcfgjaggccnoaaaDoorPSiftPassesx6
import Derived.Test.YtcfgjaggccnoaaaDoorPSiftPassesx7
import Derived.Test.YtcfgjaggccnoaaaDoorPSiftPassesx8
import Derived.Test.YtcfgjaggccnoaaaDoorPSiftPassesx9
import Derived.Test.YtcfgjaggccnoaaaDoorPSiftPassesx13
namespace Go.Proofs.YtcfgjaggccnoaaaDoor.PSiftPasses
open Go.RowKit Go.Proofs.YtcfgjaggccnoaaaDoorW.PrintWords Go.Proofs.YtcfgjaggccnoaaaDoorW.PrintLast Go.Proofs.YtcfgjaggccnoaaaDoorW.PrintMore
attribute [local go_sem] max2_int min2_int max_two min_two max_three min_three max_four min_four
set_option linter.unusedVariables false
set_option linter.unusedSimpArgs false
set_option maxRecDepth 100000

def trommellaw20_SiftPasses.l0 : Nat → Int → Int → Int → List (List (S23)) → List (S23) → Int → Int → List Int → Int → List (S106) → Int → Int → Bool → List Bool → Int → Option (Bool)
 | 0, _, _, _, _, _, _, _, _, _, _, _, _, _, _, _ => none
 | k + 1, x0, x1, x2, x3, x4, x13, x14, x443000, x443001, x443002, x443003, x443004, x443005, x448000, x448001 => if x14 < (x448000.length : Int) then (if 0 ≤ x14 then (if rdOf false x448000 x14 = true then (trommellaw20_SiftPasses.l0 k x0 x1 x2 x3 x4 (wrap64 (x13 + 1)) (wrap64 (x14 + 1)) x443000 x443001 x443002 x443003 x443004 x443005 x448000 x448001) else (trommellaw20_SiftPasses.l0 k x0 x1 x2 x3 x4 x13 (wrap64 (x14 + 1)) x443000 x443001 x443002 x443003 x443004 x443005 x448000 x448001)) else (none)) else ((sift_Passes.f k x443000 x443001 x443002 x443003 x443004 x443005 x4).bind fun t449 => ((trommelref20_Passes.f k x0 x1 x2 x3 x4).bind fun t450 => (if (t449 == t450) = true then ((sift_Count.f x443000 x443001 x443002 x443003 x443004 x443005).bind fun t451 => ((trommelref20_Count.f k x3).bind fun t452 => (if t451 = t452 then ((sift_Ones.f k x443000 x443001 x443002 x443003 x443004 x443005).bind fun t453 => (if t453 = x13 then ((sift_Whole.f k x4).bind fun t454 => ((trommelref20_Whole.f k x4).bind fun t455 => (if (t454 == t455) = true then ((trommellaw20_live.f k).bind fun t456 => (some t456)) else (some false)))) else (some false))) else (some false)))) else (some false))))
def trommellaw20_SiftPasses.f (k : Nat) (a0 : Int) (a1 : Int) (a2 : Int) (l3 : List (List (S23))) (l4 : List (S23)) : Option (Bool) := (trommellaw20_much.f k l3 l4 a1).bind fun t420 => (if t420 = true then ((trommellaw20_live.f k).bind fun t421 => (some t421)) else ((sift_New.f a0 a1 a2).bind fun bt422 => ((sift_Add.f k bt422.1 bt422.2.1 bt422.2.2.1 bt422.2.2.2.1 bt422.2.2.2.2.1 bt422.2.2.2.2.2 l3).bind fun bt432 => ((trommelref20_Bits.f k a0 a1 a2 l3).bind fun bt443 => (trommellaw20_SiftPasses.l0 k a0 a1 a2 l3 l4 0 0 bt432.1 bt432.2.1 bt432.2.2.1 bt432.2.2.2.1 bt432.2.2.2.2.1 bt432.2.2.2.2.2 bt443.1 bt443.2)))))
theorem trommellaw20_SiftPasses.mono_l : ∀ k, (∀ y0 y1 y2 y3 y4 y5 y6 y7 y8 y9 y10 y11 y12 y13 y14, LeO (trommellaw20_SiftPasses.l0 k y0 y1 y2 y3 y4 y5 y6 y7 y8 y9 y10 y11 y12 y13 y14) (trommellaw20_SiftPasses.l0 (k + 1) y0 y1 y2 y3 y4 y5 y6 y7 y8 y9 y10 y11 y12 y13 y14))
 | 0 => fun _ _ _ _ _ _ _ _ _ _ _ _ _ _ _ r h => by simp [trommellaw20_SiftPasses.l0] at h
 | k + 1 => by
  have ih0 := trommellaw20_SiftPasses.mono_l k
  ·intro y0 y1 y2 y3 y4 y5 y6 y7 y8 y9 y10 y11 y12 y13 y14
   unfold trommellaw20_SiftPasses.l0
   repeat' first
   | (with_reducible exact ih0 _ _ _ _ _ _ _ _ _ _ _ _ _ _ _)
   | (with_reducible exact sift_Add.mono _ _ _ _ _ _ _ _)
   | (with_reducible exact sift_Ones.mono _ _ _ _ _ _ _)
   | (with_reducible exact sift_Passes.mono _ _ _ _ _ _ _ _)
   | (with_reducible exact sift_Whole.mono _ _)
   | (with_reducible exact trommellaw20_live.mono _)
   | (with_reducible exact trommellaw20_much.mono _ _ _ _)
   | (with_reducible exact trommelref20_Bits.mono _ _ _ _ _)
   | (with_reducible exact trommelref20_Count.mono _ _)
   | (with_reducible exact trommelref20_Passes.mono _ _ _ _ _ _)
   | (with_reducible exact trommelref20_Whole.mono _ _)
   | (with_reducible exact LeO.refl _)
   | (with_reducible exact LeO.none _)
   | (with_reducible refine LeO.ite ?_ ?_)
   | (with_reducible refine LeO.bind ?_ (fun _ => ?_))
   | exact ih0 _ _ _ _ _ _ _ _ _ _ _ _ _ _ _
   | exact sift_Add.mono _ _ _ _ _ _ _ _
   | exact sift_Ones.mono _ _ _ _ _ _ _
   | exact sift_Passes.mono _ _ _ _ _ _ _ _
   | exact sift_Whole.mono _ _
   | exact trommellaw20_live.mono _
   | exact trommellaw20_much.mono _ _ _ _
   | exact trommelref20_Bits.mono _ _ _ _ _
   | exact trommelref20_Count.mono _ _
   | exact trommelref20_Passes.mono _ _ _ _ _ _
   | exact trommelref20_Whole.mono _ _
   | exact LeO.none _
   | refine LeO.ite ?_ ?_
   | refine LeO.bind ?_ (fun _ => ?_)
theorem trommellaw20_SiftPasses.mono : ∀ a0 a1 a2 a3 a4 k, LeO (trommellaw20_SiftPasses.f k a0 a1 a2 a3 a4) (trommellaw20_SiftPasses.f (k + 1) a0 a1 a2 a3 a4) := by
 intro a0 a1 a2 a3 a4 k
 have ih0 := trommellaw20_SiftPasses.mono_l k
 unfold trommellaw20_SiftPasses.f
 repeat' first
   | (with_reducible exact ih0 _ _ _ _ _ _ _ _ _ _ _ _ _ _ _)
   | (with_reducible exact sift_Add.mono _ _ _ _ _ _ _ _)
   | (with_reducible exact sift_Ones.mono _ _ _ _ _ _ _)
   | (with_reducible exact sift_Passes.mono _ _ _ _ _ _ _ _)
   | (with_reducible exact sift_Whole.mono _ _)
   | (with_reducible exact trommellaw20_live.mono _)
   | (with_reducible exact trommellaw20_much.mono _ _ _ _)
   | (with_reducible exact trommelref20_Bits.mono _ _ _ _ _)
   | (with_reducible exact trommelref20_Count.mono _ _)
   | (with_reducible exact trommelref20_Passes.mono _ _ _ _ _ _)
   | (with_reducible exact trommelref20_Whole.mono _ _)
   | (with_reducible exact LeO.refl _)
   | (with_reducible exact LeO.none _)
   | (with_reducible refine LeO.ite ?_ ?_)
   | (with_reducible refine LeO.bind ?_ (fun _ => ?_))
   | exact ih0 _ _ _ _ _ _ _ _ _ _ _ _ _ _ _
   | exact sift_Add.mono _ _ _ _ _ _ _ _
   | exact sift_Ones.mono _ _ _ _ _ _ _
   | exact sift_Passes.mono _ _ _ _ _ _ _ _
   | exact sift_Whole.mono _ _
   | exact trommellaw20_live.mono _
   | exact trommellaw20_much.mono _ _ _ _
   | exact trommelref20_Bits.mono _ _ _ _ _
   | exact trommelref20_Count.mono _ _
   | exact trommelref20_Passes.mono _ _ _ _ _ _
   | exact trommelref20_Whole.mono _ _
   | exact LeO.none _
   | refine LeO.ite ?_ ?_
   | refine LeO.bind ?_ (fun _ => ?_)
set_option maxHeartbeats 8000000 in
set_option maxRecDepth 100000 in
theorem trommellaw20_SiftPasses.calls (k : Nat) (a0 : Int) (a1 : Int) (a2 : Int) (A3 : Option Addr) (c3 : Nat) (l3 : List (List (S23))) (A4 : Option Addr) (c4 : Nat) (l4 : List (S23)) (r : Bool) (w : World) (hr3 : Kd.C (Kd.slice 23 k23) w A3 l3.length l3) (hc3 : l3.length ≤ c3) (hr4 : Kd.C k23 w A4 l4.length l4) (hc4 : l4.length ≤ c4) (h : trommellaw20_SiftPasses.f k a0 a1 a2 l3 l4 = some r) (HT : Aside0 (TabOK w)) :
  Calls Tryd.prog 9 #[.int .i64 a0, .int .i64 a1, .int .i64 a2, .slice A3 l3.length c3, .slice A4 l4.length c4] w fun e w' => e = .returned (.bool r) ∧ Below w.heap.size w w' := by
 have hu50 := Tryd.underlying50
 have hu79 := Tryd.underlying79
 have HR3 := am_ hr3
 have HC3 := am_ hc3
 clear hr3 hc3
 have HR4 := am_ hr4
 have HC4 := am_ hc4
 clear hr4 hc4
 have HB := am_ (Below.refl w.heap.size w)
 have H : ((trommellaw20_much.f k l3 l4 a1).bind fun t420 => (if t420 = true then ((trommellaw20_live.f k).bind fun t421 => (some t421)) else ((sift_New.f a0 a1 a2).bind fun bt422 => ((sift_Add.f k bt422.1 bt422.2.1 bt422.2.2.1 bt422.2.2.2.1 bt422.2.2.2.2.1 bt422.2.2.2.2.2 l3).bind fun bt432 => ((trommelref20_Bits.f k a0 a1 a2 l3).bind fun bt443 => (trommellaw20_SiftPasses.l0 k a0 a1 a2 l3 l4 0 0 bt432.1 bt432.2.1 bt432.2.2.1 bt432.2.2.2.1 bt432.2.2.2.2.1 bt432.2.2.2.2.2 bt443.1 bt443.2)))))) = some r := h
 clear h
 replace H := Option.bind_eq_some_iff.mp H
 obtain ⟨t420, A60, H⟩ := H
 replace H : (if t420 = true then ((trommellaw20_live.f k).bind fun t421 => (some t421)) else ((sift_New.f a0 a1 a2).bind fun bt422 => ((sift_Add.f k bt422.1 bt422.2.1 bt422.2.2.1 bt422.2.2.2.1 bt422.2.2.2.2.1 bt422.2.2.2.2.2 l3).bind fun bt432 => ((trommelref20_Bits.f k a0 a1 a2 l3).bind fun bt443 => (trommellaw20_SiftPasses.l0 k a0 a1 a2 l3 l4 0 0 bt432.1 bt432.2.1 bt432.2.2.1 bt432.2.2.2.1 bt432.2.2.2.2.1 bt432.2.2.2.2.2 bt443.1 bt443.2))))) = some r := H
 have A6 := am_ A60
 clear A60
 by_cases c7 : t420 = true
 ·subst c7
  have H1 : ((trommellaw20_live.f k).bind fun t421 => (some t421)) = some r := by rw [if_pos rfl] at H; exact H
  clear H
  have H := H1
  clear H1
  replace H := Option.bind_eq_some_iff.mp H
  obtain ⟨t421, A80, H⟩ := H
  replace H : (some t421) = some r := H
  have A8 := am_ A80
  clear A80
  obtain rfl := Option.some.inj H
  go_enter Tryd.func9, Tryd.ntmps9
  go_wp2_with (first | ((with_reducible refine gate_callee (f := 41) rfl ?_); refine goesL_ (some 18) rfl rfl Tryd.func41 (by kernel_rfl) rfl #[.slice A3 l3.length c3, .slice A4 l4.length c4, .int .i64 a1] rfl (by (try simp only [List.map_toArray, List.map_cons, List.map_nil]); first | done | rfl | (simp only [List.length_drop, List.length_take]; rfl)) ?_; (with_reducible refine (trommellaw20_much.calls k (fun k_ => k_ < w.heap.size) _ _ l3 (fun k_ => k_ < w.heap.size) _ _ l4 a1 true _ ?side1 ?side2 A6.out).mono ?_); (case side1 => exact Kd.V_mk HC3.out (Kd.F_below (Kd.C_F (Kd.heap_slice 23 k23_heap) HR3.out) (bl_))); (case side2 => exact Kd.V_mk HC4.out (Kd.F_below (Kd.C_F k23_heap HR4.out) (bl_))); rintro e w9 ⟨rfl, hb⟩; refine ⟨_, rfl, ?_⟩; replace HB := am_ (below_step (bl_) hb); (try clear hb); (try clear hb2); (try clear hk); (try clear hi)) | ((with_reducible refine gate_callee (f := 24) rfl ?_); refine goesL_ (some 19) rfl rfl Tryd.func24 (by kernel_rfl) rfl #[] rfl (by (try simp only [List.map_toArray, List.map_cons, List.map_nil]); first | done | rfl | (simp only [List.length_drop, List.length_take]; rfl)) ?_; (with_reducible refine (trommellaw20_live.calls k  t421 _ A8.out (by first | with_reducible exact HT | exact ⟨TabOK.below HT.out (bl_)⟩)).mono ?_); rintro e w10 ⟨rfl, hb⟩; refine ⟨_, rfl, ?_⟩; replace HB := am_ (below_step (bl_) hb); (try clear hb); (try clear hb2); (try clear hk); (try clear hi)))
  go_ret
  exact ⟨ew_, bl_⟩
 ·replace c7 := Bool.eq_false_iff.mpr c7
  subst c7
  have H1 : ((sift_New.f a0 a1 a2).bind fun bt422 => ((sift_Add.f k bt422.1 bt422.2.1 bt422.2.2.1 bt422.2.2.2.1 bt422.2.2.2.2.1 bt422.2.2.2.2.2 l3).bind fun bt432 => ((trommelref20_Bits.f k a0 a1 a2 l3).bind fun bt443 => (trommellaw20_SiftPasses.l0 k a0 a1 a2 l3 l4 0 0 bt432.1 bt432.2.1 bt432.2.2.1 bt432.2.2.2.1 bt432.2.2.2.2.1 bt432.2.2.2.2.2 bt443.1 bt443.2)))) = some r := by rw [if_neg (show ¬ (false = true) by decide)] at H; exact H
  clear H
  have H := H1
  clear H1
  replace H := Option.bind_eq_some_iff.mp H
  obtain ⟨⟨t422, t425, t426, t429, t430, t431⟩, A110, H⟩ := H
  replace H : ((sift_Add.f k t422 t425 t426 t429 t430 t431 l3).bind fun bt432 => ((trommelref20_Bits.f k a0 a1 a2 l3).bind fun bt443 => (trommellaw20_SiftPasses.l0 k a0 a1 a2 l3 l4 0 0 bt432.1 bt432.2.1 bt432.2.2.1 bt432.2.2.2.1 bt432.2.2.2.2.1 bt432.2.2.2.2.2 bt443.1 bt443.2))) = some r := H
  have A11 := am_ A110
  clear A110
  replace H := Option.bind_eq_some_iff.mp H
  obtain ⟨⟨t432, t435, t436, t439, t440, t441⟩, A120, H⟩ := H
  replace H : ((trommelref20_Bits.f k a0 a1 a2 l3).bind fun bt443 => (trommellaw20_SiftPasses.l0 k a0 a1 a2 l3 l4 0 0 t432 t435 t436 t439 t440 t441 bt443.1 bt443.2)) = some r := H
  have A12 := am_ A120
  clear A120
  replace H := Option.bind_eq_some_iff.mp H
  obtain ⟨⟨t443, t446⟩, A130, H⟩ := H
  replace H : (trommellaw20_SiftPasses.l0 k a0 a1 a2 l3 l4 0 0 t432 t435 t436 t439 t440 t441 t443 t446) = some r := H
  have A13 := am_ A130
  clear A130
  have H' := am_ H
  clear H
  go_enter Tryd.func9, Tryd.ntmps9
  go_wp2_with (first | ((with_reducible refine gate_callee (f := 41) rfl ?_); refine goesL_ (some 18) rfl rfl Tryd.func41 (by kernel_rfl) rfl #[.slice A3 l3.length c3, .slice A4 l4.length c4, .int .i64 a1] rfl (by (try simp only [List.map_toArray, List.map_cons, List.map_nil]); first | done | rfl | (simp only [List.length_drop, List.length_take]; rfl)) ?_; (with_reducible refine (trommellaw20_much.calls k (fun k_ => k_ < w.heap.size) _ _ l3 (fun k_ => k_ < w.heap.size) _ _ l4 a1 false _ ?side1 ?side2 A6.out).mono ?_); (case side1 => exact Kd.V_mk HC3.out (Kd.F_below (Kd.C_F (Kd.heap_slice 23 k23_heap) HR3.out) (bl_))); (case side2 => exact Kd.V_mk HC4.out (Kd.F_below (Kd.C_F k23_heap HR4.out) (bl_))); rintro e w14 ⟨rfl, hb⟩; refine ⟨_, rfl, ?_⟩; replace HB := am_ (below_step (bl_) hb); (try clear hb); (try clear hb2); (try clear hk); (try clear hi)) | ((with_reducible refine gate_callee (f := 42) rfl ?_); refine goesL_ (some 23) rfl rfl Tryd.func42 (by kernel_rfl) rfl #[.int .i64 a0, .int .i64 a1, .int .i64 a2] rfl (by (try simp only [List.map_toArray, List.map_cons, List.map_nil]); first | done | rfl | (simp only [List.length_drop, List.length_take]; rfl)) ?_; (with_reducible refine (sift_New.calls a0 a1 a2 t422 t425 t426 t429 t430 t431 _ A11.out).mono ?_); rintro e w15 ⟨v423, v427, rfl, ho0, ho1, hb⟩; refine ⟨_, rfl, ?_⟩; have HO424 := am_ (Kd.R_lower ho0 (below_size (bl_))); have HO428 := am_ (Kd.R_lower ho1 (below_size (bl_))); replace HB := am_ (below_step (bl_) hb); (try clear hb); (try clear hb2); (try clear hk); (try clear hi); (try clear ho0); (try clear ho1); obtain ⟨Ao16, co16, eo16⟩ := Kd.R_slice HO424.out; subst eo16; obtain ⟨Ao17, co17, eo17⟩ := Kd.R_slice HO428.out; subst eo17) | ((with_reducible refine gate_callee (f := 29) rfl ?_); refine goesL_ (some 25) rfl rfl Tryd.func29 (by kernel_rfl) rfl #[.agg #[.slice Ao16 t422.length co16, .int .i64 t425, .slice Ao17 t426.length co17, .int .i64 t429, .int .i64 t430, .bool t431], .slice A3 l3.length c3] rfl (by (try simp only [List.map_toArray, List.map_cons, List.map_nil]); first | done | rfl | (simp only [List.length_drop, List.length_take]; rfl)) ?_; (with_reducible refine (sift_Add.calls k (fun k_ => some k_ = (.slice Ao16 t422.length co16 : Value).ownBlock) _ _ t422 t425 (fun k_ => some k_ = (.slice Ao17 t426.length co17 : Value).ownBlock) _ _ t426 t429 t430 t431 _ _ l3 t432 t435 t436 t439 t440 t441 _ ?side1 ?side2 ?side3 ?side4 A12.out (by first | with_reducible exact HT | exact ⟨TabOK.below HT.out (bl_)⟩)).mono ?_); (case side1 => exact Kd.R_V (Kd.R_tight rfl (Kd.R_apart' (HO424.out) (Kd.R_typed HO428.out) (by decide)))); (case side2 => exact Kd.R_V (Kd.R_tight rfl (Kd.R_apart' (HO428.out) (Kd.R_typed HO424.out) (by decide)))); (case side3 => repeat (first | exact (Kd.C_below HR3.out HB.out) | (with_reducible refine Kd.C_alloc ?_ _) | (with_reducible refine Kd.C_drewN ?_ _) | (with_reducible refine Kd.C_drew ?_))); (case side4 => exact HC3.out); rintro e w18 ⟨v433, v437, rfl, ho0, ho1, hb⟩; refine ⟨_, rfl, ?_⟩; replace HO424 := am_ (Kd.R_below (kr_ HO424.out) hb); replace HO428 := am_ (Kd.R_below (kr_ HO428.out) hb); have HO434 := am_ (Kd.V_lower (Kd.V_mono (ok' := fun k_ => True) ho0 (fun k_ hk_ => trivial)) (below_size (bl_))); have HO438 := am_ (Kd.V_lower (Kd.V_mono (ok' := fun k_ => True) ho1 (fun k_ hk_ => trivial)) (below_size (bl_))); replace HB := am_ (below_step (bl_) hb); (try clear hb); (try clear hb2); (try clear hk); (try clear hi); (try clear ho0); (try clear ho1)) | ((with_reducible refine gate_dst (N := 11) rfl ?_); refine box_event ?hg (N := 11) ?hd (cs := #[.slice none 0 0, .int .i64 0, .slice none 0 0, .int .i64 0, .int .i64 0, .bool false]) (t := 50) ?hr ?_; (case hd => rfl); (case hg => rfl); (case hr => first | (go_simp; done) | (go_simp; rfl)); intro gb442 hg w19 hbox hb; replace HO424 := am_ (Kd.R_below (kr_ HO424.out) hb); replace HO428 := am_ (Kd.R_below (kr_ HO428.out) hb); replace HO434 := am_ (Kd.V_below (Kd.V_elderB (kv_ HO434.out) gb442 (Nat.le_of_eq hg.symm)) hb); replace HO438 := am_ (Kd.V_below (Kd.V_elderB (kv_ HO438.out) gb442 (Nat.le_of_eq hg.symm)) hb); have BK442 := am_ (hbox); have GW442 := am_ ((by rw [hg]; exact (below_size (bl_)) : w.heap.size ≤ gb442)); have GE442 := am_ ((by rw [hg]; exact (below_size (bl_)) : w.heap.size ≤ gb442)); replace HB := am_ (below_step (bl_) hb); clear hb hbox hg; obtain ⟨Ao20, co20, eo20⟩ := Kd.V_slice HO434.out; subst eo20; have hcz21_0 : w19.cell? ⟨gb442, 0, none⟩ = some (.slice none 0 0) := (blk_cell BK442.out 0).trans rfl; have hcz21_1 : w19.cell? ⟨gb442, 1, none⟩ = some (.int .i64 0) := (blk_cell BK442.out 1).trans rfl; have hcz21_2 : w19.cell? ⟨gb442, 2, none⟩ = some (.slice none 0 0) := (blk_cell BK442.out 2).trans rfl; have hcz21_3 : w19.cell? ⟨gb442, 3, none⟩ = some (.int .i64 0) := (blk_cell BK442.out 3).trans rfl; have hcz21_4 : w19.cell? ⟨gb442, 4, none⟩ = some (.int .i64 0) := (blk_cell BK442.out 4).trans rfl; have hcz21_5 : w19.cell? ⟨gb442, 5, none⟩ = some (.bool false) := (blk_cell BK442.out 5).trans rfl; have hfz21_0 := blk_frozen BK442.out 0; have hfz21_1 := blk_frozen BK442.out 1; have hfz21_2 := blk_frozen BK442.out 2; have hfz21_3 := blk_frozen BK442.out 3; have hfz21_4 := blk_frozen BK442.out 4; have hfz21_5 := blk_frozen BK442.out 5; obtain ⟨Ao22, co22, eo22⟩ := Kd.V_slice HO438.out; subst eo22) | ((with_reducible refine gate_callee (f := 46) rfl ?_); refine goesL_ (some 30) rfl rfl Tryd.func46 (by kernel_rfl) rfl #[.int .i64 a0, .int .i64 a1, .int .i64 a2, .slice A3 l3.length c3] rfl (by (try simp only [List.map_toArray, List.map_cons, List.map_nil]); first | done | rfl | (simp only [List.length_drop, List.length_take]; rfl)) ?_; (with_reducible refine (trommelref20_Bits.calls k a0 a1 a2 _ _ l3 t443 t446 _ ?side1 ?side2 A13.out).mono ?_); (case side1 => exact Kd.C_below HR3.out (bl_)); (case side2 => exact HC3.out); rintro e w23 ⟨v444, rfl, ho0, hb⟩; refine ⟨_, rfl, ?_⟩; replace HO424 := am_ (Kd.R_below (by (with_reducible repeat (first | apply Kd.R_alloc | apply Kd.R_drewN | apply Kd.R_drew)); exact (Kd.R_mono (Kd.R_far (p := ⟨gb442, 5, none⟩) (Kd.R_far (p := ⟨gb442, 4, none⟩) (Kd.R_far (p := ⟨gb442, 3, none⟩) (Kd.R_far (p := ⟨gb442, 2, none⟩) (Kd.R_far (p := ⟨gb442, 1, none⟩) (Kd.R_far (p := ⟨gb442, 0, none⟩) (Kd.R_types HO424.out BK442.out (by decide)) (fun _ hk => hk.2) (.slice Ao20 t432.length co20)) (fun _ hk => hk.2) (.int .i64 t435)) (fun _ hk => hk.2) (.slice Ao22 t436.length co22)) (fun _ hk => hk.2) (.int .i64 t439)) (fun _ hk => hk.2) (.int .i64 t440)) (fun _ hk => hk.2) (.bool t441)) (fun _ h_ => h_.1))) hb); replace HO428 := am_ (Kd.R_below (by (with_reducible repeat (first | apply Kd.R_alloc | apply Kd.R_drewN | apply Kd.R_drew)); exact (Kd.R_mono (Kd.R_far (p := ⟨gb442, 5, none⟩) (Kd.R_far (p := ⟨gb442, 4, none⟩) (Kd.R_far (p := ⟨gb442, 3, none⟩) (Kd.R_far (p := ⟨gb442, 2, none⟩) (Kd.R_far (p := ⟨gb442, 1, none⟩) (Kd.R_far (p := ⟨gb442, 0, none⟩) (Kd.R_types HO428.out BK442.out (by decide)) (fun _ hk => hk.2) (.slice Ao20 t432.length co20)) (fun _ hk => hk.2) (.int .i64 t435)) (fun _ hk => hk.2) (.slice Ao22 t436.length co22)) (fun _ hk => hk.2) (.int .i64 t439)) (fun _ hk => hk.2) (.int .i64 t440)) (fun _ hk => hk.2) (.bool t441)) (fun _ h_ => h_.1))) hb); replace HO434 := am_ (Kd.V_elder' (by (with_reducible repeat (first | apply Kd.V_alloc | apply Kd.V_drewN | apply Kd.V_drew)); exact (Kd.V_mono (Kd.V_far (p := ⟨gb442, 5, none⟩) (Kd.V_far (p := ⟨gb442, 4, none⟩) (Kd.V_far (p := ⟨gb442, 3, none⟩) (Kd.V_far (p := ⟨gb442, 2, none⟩) (Kd.V_far (p := ⟨gb442, 1, none⟩) (Kd.V_far (p := ⟨gb442, 0, none⟩) (Kd.V_mono HO434.out (fun k_ hk => (⟨hk, hk.2⟩ : _ ∧ k_ ≠ gb442))) (fun _ hk => hk.2) (.slice Ao20 t432.length co20)) (fun _ hk => hk.2) (.int .i64 t435)) (fun _ hk => hk.2) (.slice Ao22 t436.length co22)) (fun _ hk => hk.2) (.int .i64 t439)) (fun _ hk => hk.2) (.int .i64 t440)) (fun _ hk => hk.2) (.bool t441)) (fun _ h_ => h_.1))) (Kd.R_base ho0) hb); replace HO438 := am_ (Kd.V_elder' (by (with_reducible repeat (first | apply Kd.V_alloc | apply Kd.V_drewN | apply Kd.V_drew)); exact (Kd.V_mono (Kd.V_far (p := ⟨gb442, 5, none⟩) (Kd.V_far (p := ⟨gb442, 4, none⟩) (Kd.V_far (p := ⟨gb442, 3, none⟩) (Kd.V_far (p := ⟨gb442, 2, none⟩) (Kd.V_far (p := ⟨gb442, 1, none⟩) (Kd.V_far (p := ⟨gb442, 0, none⟩) (Kd.V_mono HO438.out (fun k_ hk => (⟨hk, hk.2⟩ : _ ∧ k_ ≠ gb442))) (fun _ hk => hk.2) (.slice Ao20 t432.length co20)) (fun _ hk => hk.2) (.int .i64 t435)) (fun _ hk => hk.2) (.slice Ao22 t436.length co22)) (fun _ hk => hk.2) (.int .i64 t439)) (fun _ hk => hk.2) (.int .i64 t440)) (fun _ hk => hk.2) (.bool t441)) (fun _ h_ => h_.1))) (Kd.R_base ho0) hb); have HO445 := am_ (Kd.R_lower ho0 (below_size (bl_))); replace BK442 := am_ (blk_below (g := gb442) (o := .cells #[.slice Ao20 t432.length co20, .int .i64 t435, .slice Ao22 t436.length co22, .int .i64 t439, .int .i64 t440, .bool t441] 50 (0, 0)) (by refine bp_ ?_; refine blk_put (cs := #[.slice Ao20 t432.length co20, .int .i64 t435, .slice Ao22 t436.length co22, .int .i64 t439, .int .i64 t440, .bool false]) ?_ 5 _ rfl; refine bp_ ?_; refine blk_put (cs := #[.slice Ao20 t432.length co20, .int .i64 t435, .slice Ao22 t436.length co22, .int .i64 t439, .int .i64 0, .bool false]) ?_ 4 _ rfl; refine bp_ ?_; refine blk_put (cs := #[.slice Ao20 t432.length co20, .int .i64 t435, .slice Ao22 t436.length co22, .int .i64 0, .int .i64 0, .bool false]) ?_ 3 _ rfl; refine bp_ ?_; refine blk_put (cs := #[.slice Ao20 t432.length co20, .int .i64 t435, .slice none 0 0, .int .i64 0, .int .i64 0, .bool false]) ?_ 2 _ rfl; refine bp_ ?_; refine blk_put (cs := #[.slice Ao20 t432.length co20, .int .i64 0, .slice none 0 0, .int .i64 0, .int .i64 0, .bool false]) ?_ 1 _ rfl; refine bp_ ?_; refine blk_put (cs := #[.slice none 0 0, .int .i64 0, .slice none 0 0, .int .i64 0, .int .i64 0, .bool false]) ?_ 0 _ rfl; refine bp_ ?_; exact BK442.out) hb); replace HB := am_ (below_step (bl_) hb); (try clear hb); (try clear hb2); (try clear hk); (try clear hi); (try clear ho0)) | ((with_reducible refine gate_dst (N := 12) rfl ?_); refine box_event ?hg (N := 12) ?hd (cs := #[.slice none 0 0, .int .i64 0]) (t := 79) ?hr ?_; (case hd => rfl); (case hg => rfl); (case hr => first | (go_simp; done) | (go_simp; rfl)); intro gb447 hg w24 hbox hb; have n0_ := am_ (Kd.R_below (kr_ HO424.out) hb); have n1_ := am_ (Kd.R_below (kr_ HO428.out) hb); have n2_ := am_ (Kd.V_below (Kd.V_elderB (kv_ HO434.out) gb447 (Nat.le_of_eq hg.symm)) hb); have n3_ := am_ (Kd.V_below (Kd.V_elderB (kv_ HO438.out) gb447 (Nat.le_of_eq hg.symm)) hb); have n4_ := am_ (Kd.R_below (kr_ HO445.out) hb); have n5_ := am_ (blk_below (g := gb442) (o := .cells #[.slice Ao20 t432.length co20, .int .i64 t435, .slice Ao22 t436.length co22, .int .i64 t439, .int .i64 t440, .bool t441] 50 (0, 0)) (bk_ BK442.out) hb); have n6_ := am_ (below_step (bl_) hb); have n7_ := am_ (hbox); have n8_ := am_ ((by rw [hg]; exact (below_size (bl_)) : w.heap.size ≤ gb447)); have n9_ := am_ ((by rw [hg]; exact (below_size (bl_)) : w.heap.size ≤ gb447)); have n10_ := am_ ((by rw [hg]; exact Nat.ne_of_lt (blk_lt (g := gb442) (o := .cells #[.slice Ao20 t432.length co20, .int .i64 t435, .slice Ao22 t436.length co22, .int .i64 t439, .int .i64 t440, .bool t441] 50 (0, 0)) (bk_ BK442.out)) : gb442 ≠ gb447)); have n11_ := am_ ((by rw [hg]; exact Nat.ne_of_gt (blk_lt (g := gb442) (o := .cells #[.slice Ao20 t432.length co20, .int .i64 t435, .slice Ao22 t436.length co22, .int .i64 t439, .int .i64 t440, .bool t441] 50 (0, 0)) (bk_ BK442.out)) : gb447 ≠ gb442)); clear HO424; clear HO428; clear HO434; clear HO438; clear HO445; clear BK442; clear HB; have HO424 := n0_; have HO428 := n1_; have HO434 := n2_; have HO438 := n3_; have HO445 := n4_; have BK442 := n5_; have HB := n6_; have BK447 := n7_; have GW447 := n8_; have GE447 := n9_; have NB442_447 := n10_; have NB447_442 := n11_; clear n0_ n1_ n2_ n3_ n4_ n5_ n6_ n7_ n8_ n9_ n10_ n11_; clear hb hbox hg; obtain ⟨Ao25, co25, eo25⟩ := Kd.R_slice HO445.out; subst eo25; have hnb26 := NB447_442.out; have hnc26 := NB442_447.out; have hcz27_0 : w24.cell? ⟨gb447, 0, none⟩ = some (.slice none 0 0) := (blk_cell BK447.out 0).trans rfl; have hcz27_1 : w24.cell? ⟨gb447, 1, none⟩ = some (.int .i64 0) := (blk_cell BK447.out 1).trans rfl; have hfz27_0 := blk_frozen BK447.out 0; have hfz27_1 := blk_frozen BK447.out 1))
  go_loopg [13, 14] k (fun kq v13 v14 w' => ∃ (x13_1 : Int) (x14_1 : Int), v13 = .int .i64 x13_1 ∧ v14 = .int .i64 x14_1 ∧ Aside0 (trommellaw20_SiftPasses.l0 kq a0 a1 a2 l3 l4 x13_1 x14_1 t432 t435 t436 t439 t440 t441 t443 t446 = some r) ∧ Aside0 (kq ≤ k) ∧ Aside0 (Kd.V (Kd.int .u64) 28 w' w.heap.size (fun k_ => some k_ ≠ ((.slice Ao25 t443.length co25) : Value).ownBlock ∧ k_ ≠ gb442 ∧ k_ ≠ gb447) (.slice Ao20 t432.length co20) t432) ∧ Aside0 (Kd.V k106 106 w' w.heap.size (fun k_ => some k_ ≠ ((.slice Ao25 t443.length co25) : Value).ownBlock ∧ k_ ≠ gb442 ∧ k_ ≠ gb447) (.slice Ao22 t436.length co22) t436) ∧ Aside0 (Kd.R Kd.bool 4 w' w.heap.size (fun _ => True) (.slice Ao25 t443.length co25) t443) ∧ Aside0 (w'.heap[gb442]? = some (.cells #[(.slice Ao20 t432.length co20), .int .i64 t435, (.slice Ao22 t436.length co22), .int .i64 t439, .int .i64 t440, .bool t441] 50 (0, 0))) ∧ Aside0 (w'.heap[gb447]? = some (.cells #[(.slice Ao25 t443.length co25), .int .i64 t446] 79 (0, 0))) ∧ Aside0 (Below w.heap.size w w'))
  case atStart => exact ⟨(0), (0), (rs_), (rs_), H', ⟨Nat.le_refl _⟩, ⟨by (with_reducible repeat (first | apply Kd.V_alloc | apply Kd.V_drewN | apply Kd.V_drew)); exact Kd.V_mono (Kd.V_far (p := ⟨gb447, 1, none⟩) (Kd.V_far (p := ⟨gb447, 0, none⟩) (Kd.V_mono HO434.out (fun k_ hk => (⟨hk, hk.2⟩ : _ ∧ k_ ≠ gb447))) (fun _ hk => hk.2) (.slice Ao25 t443.length co25)) (fun _ hk => hk.2) (.int .i64 t446)) (fun _ hk => ⟨hk.1.1.2, ⟨hk.1.1.1.2, hk.1.2⟩⟩)⟩, ⟨by (with_reducible repeat (first | apply Kd.V_alloc | apply Kd.V_drewN | apply Kd.V_drew)); exact Kd.V_mono (Kd.V_far (p := ⟨gb447, 1, none⟩) (Kd.V_far (p := ⟨gb447, 0, none⟩) (Kd.V_mono HO438.out (fun k_ hk => (⟨hk, hk.2⟩ : _ ∧ k_ ≠ gb447))) (fun _ hk => hk.2) (.slice Ao25 t443.length co25)) (fun _ hk => hk.2) (.int .i64 t446)) (fun _ hk => ⟨hk.1.1.2, ⟨hk.1.1.1.2, hk.1.2⟩⟩)⟩, ⟨by (with_reducible repeat (first | apply Kd.R_alloc | apply Kd.R_drewN | apply Kd.R_drew)); exact Kd.R_mono (Kd.R_far (p := ⟨gb447, 1, none⟩) (Kd.R_far (p := ⟨gb447, 0, none⟩) (Kd.R_types HO445.out BK447.out (by decide)) (fun _ hk => hk.2) (.slice Ao25 t443.length co25)) (fun _ hk => hk.2) (.int .i64 t446)) (fun _ hk => trivial)⟩, ⟨by refine bp_ ?_; refine blk_far ?_ NB442_447.out _; refine bp_ ?_; refine blk_far ?_ NB442_447.out _; refine bp_ ?_; exact BK442.out⟩, ⟨by refine bp_ ?_; refine blk_put (cs := #[.slice Ao25 t443.length co25, .int .i64 0]) ?_ 1 _ rfl; refine bp_ ?_; refine blk_put (cs := #[.slice none 0 0, .int .i64 0]) ?_ 0 _ rfl; refine bp_ ?_; exact BK447.out⟩, ⟨bl_⟩⟩
  case round =>
   clear H'
   try clear c2
   try clear p2
   try clear c3
   try clear c4
   try clear c7
   try clear c9
   try clear c24
   try clear c26
   try clear hcz21_0
   try clear hcz21_1
   try clear hcz21_2
   try clear hcz21_3
   try clear hcz21_4
   try clear hcz21_5
   try clear hcz27_0
   try clear hcz27_1
   try clear hfz21_0
   try clear hfz21_1
   try clear hfz21_2
   try clear hfz21_3
   try clear hfz21_4
   try clear hfz21_5
   try clear hfz27_0
   try clear hfz27_1
   obtain ⟨x13_1, x14_1, rfl, rfl, HA, HK1, HO_443000, HO_443002, HO_448000, BK442, BK447, HB⟩ := hrel
   cases gk with
   | zero => exact absurd HA.out (by simp [trommellaw20_SiftPasses.l0])
   | succ k1 =>
    have H := HA.out
    clear HA
    simp only [trommellaw20_SiftPasses.l0] at H
    by_cases c28 : x14_1 < (t443.length : Int)
    ·rw [if_pos c28] at H
     have c28b0 : decide (x14_1 < (t443.length : Int)) = true := decide_eq_true c28
     clear c28
     by_cases c29 : 0 ≤ x14_1
     ·rw [if_pos c29] at H
      have c29b0 : decide (0 ≤ x14_1) = true := decide_eq_true c29
      clear c29
      obtain ⟨bq30, hbq30⟩ : ∃ b_ : Bool, b_ = (rdOf false t443 x14_1) := ⟨_, rfl⟩
      replace H : (if bq30 = true then (trommellaw20_SiftPasses.l0 k1 a0 a1 a2 l3 l4 (wrap64 (x13_1 + 1)) (wrap64 (x14_1 + 1)) t432 t435 t436 t439 t440 t441 t443 t446) else (trommellaw20_SiftPasses.l0 k1 a0 a1 a2 l3 l4 x13_1 (wrap64 (x14_1 + 1)) t432 t435 t436 t439 t440 t441 t443 t446)) = some r := by rw [← hbq30] at H; exact H
      have Nbq30 := am_ hbq30
      clear hbq30
      by_cases c31 : bq30 = true
      ·subst c31
       have H1 : (trommellaw20_SiftPasses.l0 k1 a0 a1 a2 l3 l4 (wrap64 (x13_1 + 1)) (wrap64 (x14_1 + 1)) t432 t435 t436 t439 t440 t441 t443 t446) = some r := by rw [if_pos rfl] at H; exact H
       clear H
       have H := H1
       clear H1
       have H' := am_ H
       clear H
       have hnb32 := NB447_442.out
       have hnc32 := NB442_447.out
       have hcz33_0 : wr.cell? ⟨gb447, 0, none⟩ = some (.slice Ao25 t443.length co25) := (blk_cell BK447.out 0).trans rfl
       have hcz33_1 : wr.cell? ⟨gb447, 1, none⟩ = some (.int .i64 t446) := (blk_cell BK447.out 1).trans rfl
       have hfz33_0 := blk_frozen BK447.out 0
       have hfz33_1 := blk_frozen BK447.out 1
       have p448 : 0 ≤ (x14_1 : Int) := of_decide_eq_true (as_)
       have q448 : x14_1 < (t443.length : Int) := of_decide_eq_true (as_)
       obtain ⟨ad448, e448, hx448_0⟩ := Kd.at_bool (Kd.R_reads' HO_448000.out).2.2 x14_1 p448 q448
       (try rw [← Nbq30.out] at hx448_0)
       cases e448
       replace p448 := eq_true p448
       replace q448 := eq_true q448
       go_wp2
       go_roundg k1
       case measure => have := HK1.out; omega
       case rel => exact ⟨(wrap64 (x13_1 + 1)), (wrap64 (x14_1 + 1)), (rs_), (rs_), H', ⟨by have := HK1.out; omega⟩, ⟨kv_ HO_443000.out⟩, ⟨kv_ HO_443002.out⟩, ⟨kr_ HO_448000.out⟩, ⟨bk_ BK442.out⟩, ⟨bk_ BK447.out⟩, ⟨bl_⟩⟩
      ·replace c31 := Bool.eq_false_iff.mpr c31
       subst c31
       have H1 : (trommellaw20_SiftPasses.l0 k1 a0 a1 a2 l3 l4 x13_1 (wrap64 (x14_1 + 1)) t432 t435 t436 t439 t440 t441 t443 t446) = some r := by rw [if_neg (show ¬ (false = true) by decide)] at H; exact H
       clear H
       have H := H1
       clear H1
       have H' := am_ H
       clear H
       have hnb34 := NB447_442.out
       have hnc34 := NB442_447.out
       have hcz35_0 : wr.cell? ⟨gb447, 0, none⟩ = some (.slice Ao25 t443.length co25) := (blk_cell BK447.out 0).trans rfl
       have hcz35_1 : wr.cell? ⟨gb447, 1, none⟩ = some (.int .i64 t446) := (blk_cell BK447.out 1).trans rfl
       have hfz35_0 := blk_frozen BK447.out 0
       have hfz35_1 := blk_frozen BK447.out 1
       have p448 : 0 ≤ (x14_1 : Int) := of_decide_eq_true (as_)
       have q448 : x14_1 < (t443.length : Int) := of_decide_eq_true (as_)
       obtain ⟨ad448, e448, hx448_0⟩ := Kd.at_bool (Kd.R_reads' HO_448000.out).2.2 x14_1 p448 q448
       (try rw [← Nbq30.out] at hx448_0)
       cases e448
       replace p448 := eq_true p448
       replace q448 := eq_true q448
       go_wp2
       go_roundg k1
       case measure => have := HK1.out; omega
       case rel => exact ⟨(x13_1), (wrap64 (x14_1 + 1)), (rs_), (rs_), H', ⟨by have := HK1.out; omega⟩, ⟨kv_ HO_443000.out⟩, ⟨kv_ HO_443002.out⟩, ⟨kr_ HO_448000.out⟩, ⟨bk_ BK442.out⟩, ⟨bk_ BK447.out⟩, ⟨bl_⟩⟩
     ·rw [if_neg c29] at H
      exact absurd H (by simp)
    ·rw [if_neg c28] at H
     have c28b0 : decide (x14_1 < (t443.length : Int)) = false := decide_eq_false c28
     clear c28
     replace H := Option.bind_eq_some_iff.mp H
     obtain ⟨t449, A360, H⟩ := H
     replace H : ((trommelref20_Passes.f k1 a0 a1 a2 l3 l4).bind fun t450 => (if (t449 == t450) = true then ((sift_Count.f t432 t435 t436 t439 t440 t441).bind fun t451 => ((trommelref20_Count.f k1 l3).bind fun t452 => (if t451 = t452 then ((sift_Ones.f k1 t432 t435 t436 t439 t440 t441).bind fun t453 => (if t453 = x13_1 then ((sift_Whole.f k1 l4).bind fun t454 => ((trommelref20_Whole.f k1 l4).bind fun t455 => (if (t454 == t455) = true then ((trommellaw20_live.f k1).bind fun t456 => (some t456)) else (some false)))) else (some false))) else (some false)))) else (some false))) = some r := H
     have A36 := am_ A360
     clear A360
     replace H := Option.bind_eq_some_iff.mp H
     obtain ⟨t450, A370, H⟩ := H
     replace H : (if (t449 == t450) = true then ((sift_Count.f t432 t435 t436 t439 t440 t441).bind fun t451 => ((trommelref20_Count.f k1 l3).bind fun t452 => (if t451 = t452 then ((sift_Ones.f k1 t432 t435 t436 t439 t440 t441).bind fun t453 => (if t453 = x13_1 then ((sift_Whole.f k1 l4).bind fun t454 => ((trommelref20_Whole.f k1 l4).bind fun t455 => (if (t454 == t455) = true then ((trommellaw20_live.f k1).bind fun t456 => (some t456)) else (some false)))) else (some false))) else (some false)))) else (some false)) = some r := H
     have A37 := am_ A370
     clear A370
     by_cases c38 : (t449 == t450) = true
     ·rw [if_pos c38] at H
      have c38b0 : (t449 == t450) = true := c38
      (try (have c38b1 : decide (t449 = t450) = true := by simpa using c38))
      (try (have c38b2 : (t449 == t450) = true := by simpa using c38))
      clear c38
      replace H := Option.bind_eq_some_iff.mp H
      obtain ⟨t451, A390, H⟩ := H
      replace H : ((trommelref20_Count.f k1 l3).bind fun t452 => (if t451 = t452 then ((sift_Ones.f k1 t432 t435 t436 t439 t440 t441).bind fun t453 => (if t453 = x13_1 then ((sift_Whole.f k1 l4).bind fun t454 => ((trommelref20_Whole.f k1 l4).bind fun t455 => (if (t454 == t455) = true then ((trommellaw20_live.f k1).bind fun t456 => (some t456)) else (some false)))) else (some false))) else (some false))) = some r := H
      have A39 := am_ A390
      clear A390
      replace H := Option.bind_eq_some_iff.mp H
      obtain ⟨t452, A400, H⟩ := H
      replace H : (if t451 = t452 then ((sift_Ones.f k1 t432 t435 t436 t439 t440 t441).bind fun t453 => (if t453 = x13_1 then ((sift_Whole.f k1 l4).bind fun t454 => ((trommelref20_Whole.f k1 l4).bind fun t455 => (if (t454 == t455) = true then ((trommellaw20_live.f k1).bind fun t456 => (some t456)) else (some false)))) else (some false))) else (some false)) = some r := H
      have A40 := am_ A400
      clear A400
      by_cases c41 : t451 = t452
      ·rw [if_pos c41] at H
       have c41b0 : (t451 == t452) = true := beq_iff_eq.mpr c41
       have c41b1 : (t451 != t452) = false := bne_eq_false_iff_eq.mpr c41
       clear c41
       replace H := Option.bind_eq_some_iff.mp H
       obtain ⟨t453, A420, H⟩ := H
       replace H : (if t453 = x13_1 then ((sift_Whole.f k1 l4).bind fun t454 => ((trommelref20_Whole.f k1 l4).bind fun t455 => (if (t454 == t455) = true then ((trommellaw20_live.f k1).bind fun t456 => (some t456)) else (some false)))) else (some false)) = some r := H
       have A42 := am_ A420
       clear A420
       by_cases c43 : t453 = x13_1
       ·rw [if_pos c43] at H
        have c43b0 : (t453 == x13_1) = true := beq_iff_eq.mpr c43
        have c43b1 : (t453 != x13_1) = false := bne_eq_false_iff_eq.mpr c43
        clear c43
        replace H := Option.bind_eq_some_iff.mp H
        obtain ⟨t454, A440, H⟩ := H
        replace H : ((trommelref20_Whole.f k1 l4).bind fun t455 => (if (t454 == t455) = true then ((trommellaw20_live.f k1).bind fun t456 => (some t456)) else (some false))) = some r := H
        have A44 := am_ A440
        clear A440
        replace H := Option.bind_eq_some_iff.mp H
        obtain ⟨t455, A450, H⟩ := H
        replace H : (if (t454 == t455) = true then ((trommellaw20_live.f k1).bind fun t456 => (some t456)) else (some false)) = some r := H
        have A45 := am_ A450
        clear A450
        by_cases c46 : (t454 == t455) = true
        ·rw [if_pos c46] at H
         have c46b0 : (t454 == t455) = true := c46
         (try (have c46b1 : decide (t454 = t455) = true := by simpa using c46))
         (try (have c46b2 : (t454 == t455) = true := by simpa using c46))
         clear c46
         replace H := Option.bind_eq_some_iff.mp H
         obtain ⟨t456, A470, H⟩ := H
         replace H : (some t456) = some r := H
         have A47 := am_ A470
         clear A470
         obtain rfl := Option.some.inj H
         have hnb48 := NB447_442.out
         have hnc48 := NB442_447.out
         have hcz49_0 : wr.cell? ⟨gb447, 0, none⟩ = some (.slice Ao25 t443.length co25) := (blk_cell BK447.out 0).trans rfl
         have hcz49_1 : wr.cell? ⟨gb447, 1, none⟩ = some (.int .i64 t446) := (blk_cell BK447.out 1).trans rfl
         have hfz49_0 := blk_frozen BK447.out 0
         have hfz49_1 := blk_frozen BK447.out 1
         have hcz50_0 : wr.cell? ⟨gb442, 0, none⟩ = some (.slice Ao20 t432.length co20) := (blk_cell BK442.out 0).trans rfl
         have hcz50_1 : wr.cell? ⟨gb442, 1, none⟩ = some (.int .i64 t435) := (blk_cell BK442.out 1).trans rfl
         have hcz50_2 : wr.cell? ⟨gb442, 2, none⟩ = some (.slice Ao22 t436.length co22) := (blk_cell BK442.out 2).trans rfl
         have hcz50_3 : wr.cell? ⟨gb442, 3, none⟩ = some (.int .i64 t439) := (blk_cell BK442.out 3).trans rfl
         have hcz50_4 : wr.cell? ⟨gb442, 4, none⟩ = some (.int .i64 t440) := (blk_cell BK442.out 4).trans rfl
         have hcz50_5 : wr.cell? ⟨gb442, 5, none⟩ = some (.bool t441) := (blk_cell BK442.out 5).trans rfl
         have hfz50_0 := blk_frozen BK442.out 0
         have hfz50_1 := blk_frozen BK442.out 1
         have hfz50_2 := blk_frozen BK442.out 2
         have hfz50_3 := blk_frozen BK442.out 3
         have hfz50_4 := blk_frozen BK442.out 4
         have hfz50_5 := blk_frozen BK442.out 5
         go_wp2_with (first | ((with_reducible refine gate_callee (f := 28) rfl ?_); refine goesL_ (some 47) rfl rfl Tryd.func28 (by kernel_rfl) rfl #[.agg #[.slice Ao20 t432.length co20, .int .i64 t435, .slice Ao22 t436.length co22, .int .i64 t439, .int .i64 t440, .bool t441], .slice A4 l4.length c4] rfl (by (try simp only [List.map_toArray, List.map_cons, List.map_nil]); first | done | rfl | (simp only [List.length_drop, List.length_take]; rfl)) ?_; (with_reducible refine (sift_Passes.calls k1 _ _ t432 t435 _ _ t436 t439 t440 t441 _ _ l4 t449 _ ?side1 ?side2 ?side3 ?side4 ?side5 ?side6 A36.out (by first | with_reducible exact HT | exact ⟨TabOK.below HT.out (bl_)⟩)).mono ?_); (case side1 => repeat (first | exact (Kd.V_reads' HO_443000.out).2.2 | (with_reducible refine Kd.C_alloc ?_ _) | (with_reducible refine Kd.C_drewN ?_ _) | (with_reducible refine Kd.C_drew ?_))); (case side2 => exact (Kd.V_reads' HO_443000.out).2.1); (case side3 => repeat (first | exact (Kd.V_reads' HO_443002.out).2.2 | (with_reducible refine Kd.C_alloc ?_ _) | (with_reducible refine Kd.C_drewN ?_ _) | (with_reducible refine Kd.C_drew ?_))); (case side4 => exact (Kd.V_reads' HO_443002.out).2.1); (case side5 => repeat (first | exact (Kd.C_below HR4.out HB.out) | (with_reducible refine Kd.C_alloc ?_ _) | (with_reducible refine Kd.C_drewN ?_ _) | (with_reducible refine Kd.C_drew ?_))); (case side6 => exact HC4.out); rintro e w51 ⟨rfl, hb⟩; refine ⟨_, rfl, ?_⟩; replace HO_443000 := am_ (Kd.V_below (kv_ HO_443000.out) hb); replace HO_443002 := am_ (Kd.V_below (kv_ HO_443002.out) hb); replace HO_448000 := am_ (Kd.R_below (kr_ HO_448000.out) hb); replace BK442 := am_ (blk_below (g := gb442) (o := .cells #[.slice Ao20 t432.length co20, .int .i64 t435, .slice Ao22 t436.length co22, .int .i64 t439, .int .i64 t440, .bool t441] 50 (0, 0)) (bk_ BK442.out) hb); replace BK447 := am_ (blk_below (g := gb447) (o := .cells #[.slice Ao25 t443.length co25, .int .i64 t446] 79 (0, 0)) (bk_ BK447.out) hb); replace HB := am_ (below_step (bl_) hb); (try clear hb); (try clear hb2); (try clear hk); (try clear hi)) | ((with_reducible refine gate_callee (f := 47) rfl ?_); refine goesL_ (some 53) rfl rfl Tryd.func47 (by kernel_rfl) rfl #[.int .i64 a0, .int .i64 a1, .int .i64 a2, .slice A3 l3.length c3, .slice A4 l4.length c4] rfl (by (try simp only [List.map_toArray, List.map_cons, List.map_nil]); first | done | rfl | (simp only [List.length_drop, List.length_take]; rfl)) ?_; (with_reducible refine (trommelref20_Passes.calls k1 a0 a1 a2 _ _ l3 _ _ l4 t450 _ ?side1 ?side2 ?side3 ?side4 A37.out).mono ?_); (case side1 => repeat (first | exact (Kd.C_below HR3.out HB.out) | (with_reducible refine Kd.C_alloc ?_ _) | (with_reducible refine Kd.C_drewN ?_ _) | (with_reducible refine Kd.C_drew ?_))); (case side2 => exact HC3.out); (case side3 => repeat (first | exact (Kd.C_below HR4.out HB.out) | (with_reducible refine Kd.C_alloc ?_ _) | (with_reducible refine Kd.C_drewN ?_ _) | (with_reducible refine Kd.C_drew ?_))); (case side4 => exact HC4.out); rintro e w52 ⟨rfl, hb⟩; refine ⟨_, rfl, ?_⟩; replace HO_443000 := am_ (Kd.V_below (kv_ HO_443000.out) hb); replace HO_443002 := am_ (Kd.V_below (kv_ HO_443002.out) hb); replace HO_448000 := am_ (Kd.R_below (kr_ HO_448000.out) hb); replace BK442 := am_ (blk_below (g := gb442) (o := .cells #[.slice Ao20 t432.length co20, .int .i64 t435, .slice Ao22 t436.length co22, .int .i64 t439, .int .i64 t440, .bool t441] 50 (0, 0)) (bk_ BK442.out) hb); replace BK447 := am_ (blk_below (g := gb447) (o := .cells #[.slice Ao25 t443.length co25, .int .i64 t446] 79 (0, 0)) (bk_ BK447.out) hb); replace HB := am_ (below_step (bl_) hb); (try clear hb); (try clear hb2); (try clear hk); (try clear hi); have hcz53_0 : w52.cell? ⟨gb442, 0, none⟩ = some (.slice Ao20 t432.length co20) := (blk_cell BK442.out 0).trans rfl; have hcz53_1 : w52.cell? ⟨gb442, 1, none⟩ = some (.int .i64 t435) := (blk_cell BK442.out 1).trans rfl; have hcz53_2 : w52.cell? ⟨gb442, 2, none⟩ = some (.slice Ao22 t436.length co22) := (blk_cell BK442.out 2).trans rfl; have hcz53_3 : w52.cell? ⟨gb442, 3, none⟩ = some (.int .i64 t439) := (blk_cell BK442.out 3).trans rfl; have hcz53_4 : w52.cell? ⟨gb442, 4, none⟩ = some (.int .i64 t440) := (blk_cell BK442.out 4).trans rfl; have hcz53_5 : w52.cell? ⟨gb442, 5, none⟩ = some (.bool t441) := (blk_cell BK442.out 5).trans rfl; have hfz53_0 := blk_frozen BK442.out 0; have hfz53_1 := blk_frozen BK442.out 1; have hfz53_2 := blk_frozen BK442.out 2; have hfz53_3 := blk_frozen BK442.out 3; have hfz53_4 := blk_frozen BK442.out 4; have hfz53_5 := blk_frozen BK442.out 5) | (go_at_call 30; (with_reducible refine (sift_Count.calls _ _ t432 t435 _ _ t436 t439 t440 t441 t451 _ ?side1 ?side2 ?side3 ?side4 A39.out).mono ?_); (case side1 => repeat (first | exact (Kd.V_reads' HO_443000.out).2.2 | (with_reducible refine Kd.C_alloc ?_ _) | (with_reducible refine Kd.C_drewN ?_ _) | (with_reducible refine Kd.C_drew ?_))); (case side2 => exact (Kd.V_reads' HO_443000.out).2.1); (case side3 => repeat (first | exact (Kd.V_reads' HO_443002.out).2.2 | (with_reducible refine Kd.C_alloc ?_ _) | (with_reducible refine Kd.C_drewN ?_ _) | (with_reducible refine Kd.C_drew ?_))); (case side4 => exact (Kd.V_reads' HO_443002.out).2.1); rintro e w54 ⟨rfl, hb⟩; replace HO_443000 := am_ (Kd.V_below (kv_ HO_443000.out) hb); replace HO_443002 := am_ (Kd.V_below (kv_ HO_443002.out) hb); replace HO_448000 := am_ (Kd.R_below (kr_ HO_448000.out) hb); replace BK442 := am_ (blk_below (g := gb442) (o := .cells #[.slice Ao20 t432.length co20, .int .i64 t435, .slice Ao22 t436.length co22, .int .i64 t439, .int .i64 t440, .bool t441] 50 (0, 0)) (bk_ BK442.out) hb); replace BK447 := am_ (blk_below (g := gb447) (o := .cells #[.slice Ao25 t443.length co25, .int .i64 t446] 79 (0, 0)) (bk_ BK447.out) hb); replace HB := am_ (below_step (bl_) hb); (try clear hb); (try clear hb2); (try clear hk); (try clear hi)) | (go_at_call 45; (with_reducible refine (trommelref20_Count.calls k1 _ _ l3 t452 _ ?side1 ?side2 A40.out).mono ?_); (case side1 => repeat (first | exact (Kd.C_below HR3.out HB.out) | (with_reducible refine Kd.C_alloc ?_ _) | (with_reducible refine Kd.C_drewN ?_ _) | (with_reducible refine Kd.C_drew ?_))); (case side2 => exact HC3.out); rintro e w55 ⟨rfl, hb⟩; replace HO_443000 := am_ (Kd.V_below (kv_ HO_443000.out) hb); replace HO_443002 := am_ (Kd.V_below (kv_ HO_443002.out) hb); replace HO_448000 := am_ (Kd.R_below (kr_ HO_448000.out) hb); replace BK442 := am_ (blk_below (g := gb442) (o := .cells #[.slice Ao20 t432.length co20, .int .i64 t435, .slice Ao22 t436.length co22, .int .i64 t439, .int .i64 t440, .bool t441] 50 (0, 0)) (bk_ BK442.out) hb); replace BK447 := am_ (blk_below (g := gb447) (o := .cells #[.slice Ao25 t443.length co25, .int .i64 t446] 79 (0, 0)) (bk_ BK447.out) hb); replace HB := am_ (below_step (bl_) hb); (try clear hb); (try clear hb2); (try clear hk); (try clear hi); have hcz56_0 : w55.cell? ⟨gb442, 0, none⟩ = some (.slice Ao20 t432.length co20) := (blk_cell BK442.out 0).trans rfl; have hcz56_1 : w55.cell? ⟨gb442, 1, none⟩ = some (.int .i64 t435) := (blk_cell BK442.out 1).trans rfl; have hcz56_2 : w55.cell? ⟨gb442, 2, none⟩ = some (.slice Ao22 t436.length co22) := (blk_cell BK442.out 2).trans rfl; have hcz56_3 : w55.cell? ⟨gb442, 3, none⟩ = some (.int .i64 t439) := (blk_cell BK442.out 3).trans rfl; have hcz56_4 : w55.cell? ⟨gb442, 4, none⟩ = some (.int .i64 t440) := (blk_cell BK442.out 4).trans rfl; have hcz56_5 : w55.cell? ⟨gb442, 5, none⟩ = some (.bool t441) := (blk_cell BK442.out 5).trans rfl; have hfz56_0 := blk_frozen BK442.out 0; have hfz56_1 := blk_frozen BK442.out 1; have hfz56_2 := blk_frozen BK442.out 2; have hfz56_3 := blk_frozen BK442.out 3; have hfz56_4 := blk_frozen BK442.out 4; have hfz56_5 := blk_frozen BK442.out 5) | (go_at_call 48; (with_reducible refine (sift_Ones.calls k1 _ _ t432 t435 _ _ t436 t439 t440 t441 t453 _ ?side1 ?side2 ?side3 ?side4 A42.out).mono ?_); (case side1 => repeat (first | exact (Kd.V_reads' HO_443000.out).2.2 | (with_reducible refine Kd.C_alloc ?_ _) | (with_reducible refine Kd.C_drewN ?_ _) | (with_reducible refine Kd.C_drew ?_))); (case side2 => exact (Kd.V_reads' HO_443000.out).2.1); (case side3 => repeat (first | exact (Kd.V_reads' HO_443002.out).2.2 | (with_reducible refine Kd.C_alloc ?_ _) | (with_reducible refine Kd.C_drewN ?_ _) | (with_reducible refine Kd.C_drew ?_))); (case side4 => exact (Kd.V_reads' HO_443002.out).2.1); rintro e w57 ⟨rfl, hb⟩; replace HO_443000 := am_ (Kd.V_below (kv_ HO_443000.out) hb); replace HO_443002 := am_ (Kd.V_below (kv_ HO_443002.out) hb); replace HO_448000 := am_ (Kd.R_below (kr_ HO_448000.out) hb); replace BK442 := am_ (blk_below (g := gb442) (o := .cells #[.slice Ao20 t432.length co20, .int .i64 t435, .slice Ao22 t436.length co22, .int .i64 t439, .int .i64 t440, .bool t441] 50 (0, 0)) (bk_ BK442.out) hb); replace BK447 := am_ (blk_below (g := gb447) (o := .cells #[.slice Ao25 t443.length co25, .int .i64 t446] 79 (0, 0)) (bk_ BK447.out) hb); replace HB := am_ (below_step (bl_) hb); (try clear hb); (try clear hb2); (try clear hk); (try clear hi)) | (go_at_call 49; (with_reducible refine (sift_Whole.calls k1 _ _ l4 t454 _ ?side1 ?side2 A44.out).mono ?_); (case side1 => repeat (first | exact (Kd.C_below HR4.out HB.out) | (with_reducible refine Kd.C_alloc ?_ _) | (with_reducible refine Kd.C_drewN ?_ _) | (with_reducible refine Kd.C_drew ?_))); (case side2 => exact HC4.out); rintro e w58 ⟨rfl, hb⟩; replace HO_443000 := am_ (Kd.V_below (kv_ HO_443000.out) hb); replace HO_443002 := am_ (Kd.V_below (kv_ HO_443002.out) hb); replace HO_448000 := am_ (Kd.R_below (kr_ HO_448000.out) hb); replace BK442 := am_ (blk_below (g := gb442) (o := .cells #[.slice Ao20 t432.length co20, .int .i64 t435, .slice Ao22 t436.length co22, .int .i64 t439, .int .i64 t440, .bool t441] 50 (0, 0)) (bk_ BK442.out) hb); replace BK447 := am_ (blk_below (g := gb447) (o := .cells #[.slice Ao25 t443.length co25, .int .i64 t446] 79 (0, 0)) (bk_ BK447.out) hb); replace HB := am_ (below_step (bl_) hb); (try clear hb); (try clear hb2); (try clear hk); (try clear hi)) | (go_at_call 22; (with_reducible refine (trommelref20_Whole.calls k1 _ _ l4 t455 _ ?side1 ?side2 A45.out).mono ?_); (case side1 => repeat (first | exact (Kd.C_below HR4.out HB.out) | (with_reducible refine Kd.C_alloc ?_ _) | (with_reducible refine Kd.C_drewN ?_ _) | (with_reducible refine Kd.C_drew ?_))); (case side2 => exact HC4.out); rintro e w' ⟨rfl, ⟨nd, rfl⟩⟩) | (go_at_call 24; (with_reducible refine (trommellaw20_live.calls k1  t456 _ A47.out (by first | with_reducible exact HT | exact ⟨TabOK.below HT.out (bl_)⟩)).mono ?_); rintro e w59 ⟨rfl, hb⟩; replace HO_443000 := am_ (Kd.V_below (kv_ HO_443000.out) hb); replace HO_443002 := am_ (Kd.V_below (kv_ HO_443002.out) hb); replace HO_448000 := am_ (Kd.R_below (kr_ HO_448000.out) hb); replace BK442 := am_ (blk_below (g := gb442) (o := .cells #[.slice Ao20 t432.length co20, .int .i64 t435, .slice Ao22 t436.length co22, .int .i64 t439, .int .i64 t440, .bool t441] 50 (0, 0)) (bk_ BK442.out) hb); replace BK447 := am_ (blk_below (g := gb447) (o := .cells #[.slice Ao25 t443.length co25, .int .i64 t446] 79 (0, 0)) (bk_ BK447.out) hb); replace HB := am_ (below_step (bl_) hb); (try clear hb); (try clear hb2); (try clear hk); (try clear hi)))
         go_ret
         exact ⟨ew_, bl_⟩
        ·rw [if_neg c46] at H
         have c46b0 : (t454 == t455) = false := by simpa using c46
         (try (have c46b1 : decide (t454 = t455) = false := by simpa using c46))
         (try (have c46b2 : (t454 == t455) = false := by simpa using c46))
         (try (have c46b3 : ¬ (t454 = t455) := by simpa using c46))
         clear c46
         obtain rfl := Option.some.inj H
         have hnb60 := NB447_442.out
         have hnc60 := NB442_447.out
         have hcz61_0 : wr.cell? ⟨gb447, 0, none⟩ = some (.slice Ao25 t443.length co25) := (blk_cell BK447.out 0).trans rfl
         have hcz61_1 : wr.cell? ⟨gb447, 1, none⟩ = some (.int .i64 t446) := (blk_cell BK447.out 1).trans rfl
         have hfz61_0 := blk_frozen BK447.out 0
         have hfz61_1 := blk_frozen BK447.out 1
         have hcz62_0 : wr.cell? ⟨gb442, 0, none⟩ = some (.slice Ao20 t432.length co20) := (blk_cell BK442.out 0).trans rfl
         have hcz62_1 : wr.cell? ⟨gb442, 1, none⟩ = some (.int .i64 t435) := (blk_cell BK442.out 1).trans rfl
         have hcz62_2 : wr.cell? ⟨gb442, 2, none⟩ = some (.slice Ao22 t436.length co22) := (blk_cell BK442.out 2).trans rfl
         have hcz62_3 : wr.cell? ⟨gb442, 3, none⟩ = some (.int .i64 t439) := (blk_cell BK442.out 3).trans rfl
         have hcz62_4 : wr.cell? ⟨gb442, 4, none⟩ = some (.int .i64 t440) := (blk_cell BK442.out 4).trans rfl
         have hcz62_5 : wr.cell? ⟨gb442, 5, none⟩ = some (.bool t441) := (blk_cell BK442.out 5).trans rfl
         have hfz62_0 := blk_frozen BK442.out 0
         have hfz62_1 := blk_frozen BK442.out 1
         have hfz62_2 := blk_frozen BK442.out 2
         have hfz62_3 := blk_frozen BK442.out 3
         have hfz62_4 := blk_frozen BK442.out 4
         have hfz62_5 := blk_frozen BK442.out 5
         go_wp2_with (first | ((with_reducible refine gate_callee (f := 28) rfl ?_); refine goesL_ (some 47) rfl rfl Tryd.func28 (by kernel_rfl) rfl #[.agg #[.slice Ao20 t432.length co20, .int .i64 t435, .slice Ao22 t436.length co22, .int .i64 t439, .int .i64 t440, .bool t441], .slice A4 l4.length c4] rfl (by (try simp only [List.map_toArray, List.map_cons, List.map_nil]); first | done | rfl | (simp only [List.length_drop, List.length_take]; rfl)) ?_; (with_reducible refine (sift_Passes.calls k1 _ _ t432 t435 _ _ t436 t439 t440 t441 _ _ l4 t449 _ ?side1 ?side2 ?side3 ?side4 ?side5 ?side6 A36.out (by first | with_reducible exact HT | exact ⟨TabOK.below HT.out (bl_)⟩)).mono ?_); (case side1 => repeat (first | exact (Kd.V_reads' HO_443000.out).2.2 | (with_reducible refine Kd.C_alloc ?_ _) | (with_reducible refine Kd.C_drewN ?_ _) | (with_reducible refine Kd.C_drew ?_))); (case side2 => exact (Kd.V_reads' HO_443000.out).2.1); (case side3 => repeat (first | exact (Kd.V_reads' HO_443002.out).2.2 | (with_reducible refine Kd.C_alloc ?_ _) | (with_reducible refine Kd.C_drewN ?_ _) | (with_reducible refine Kd.C_drew ?_))); (case side4 => exact (Kd.V_reads' HO_443002.out).2.1); (case side5 => repeat (first | exact (Kd.C_below HR4.out HB.out) | (with_reducible refine Kd.C_alloc ?_ _) | (with_reducible refine Kd.C_drewN ?_ _) | (with_reducible refine Kd.C_drew ?_))); (case side6 => exact HC4.out); rintro e w63 ⟨rfl, hb⟩; refine ⟨_, rfl, ?_⟩; replace HO_443000 := am_ (Kd.V_below (kv_ HO_443000.out) hb); replace HO_443002 := am_ (Kd.V_below (kv_ HO_443002.out) hb); replace HO_448000 := am_ (Kd.R_below (kr_ HO_448000.out) hb); replace BK442 := am_ (blk_below (g := gb442) (o := .cells #[.slice Ao20 t432.length co20, .int .i64 t435, .slice Ao22 t436.length co22, .int .i64 t439, .int .i64 t440, .bool t441] 50 (0, 0)) (bk_ BK442.out) hb); replace BK447 := am_ (blk_below (g := gb447) (o := .cells #[.slice Ao25 t443.length co25, .int .i64 t446] 79 (0, 0)) (bk_ BK447.out) hb); replace HB := am_ (below_step (bl_) hb); (try clear hb); (try clear hb2); (try clear hk); (try clear hi)) | ((with_reducible refine gate_callee (f := 47) rfl ?_); refine goesL_ (some 53) rfl rfl Tryd.func47 (by kernel_rfl) rfl #[.int .i64 a0, .int .i64 a1, .int .i64 a2, .slice A3 l3.length c3, .slice A4 l4.length c4] rfl (by (try simp only [List.map_toArray, List.map_cons, List.map_nil]); first | done | rfl | (simp only [List.length_drop, List.length_take]; rfl)) ?_; (with_reducible refine (trommelref20_Passes.calls k1 a0 a1 a2 _ _ l3 _ _ l4 t450 _ ?side1 ?side2 ?side3 ?side4 A37.out).mono ?_); (case side1 => repeat (first | exact (Kd.C_below HR3.out HB.out) | (with_reducible refine Kd.C_alloc ?_ _) | (with_reducible refine Kd.C_drewN ?_ _) | (with_reducible refine Kd.C_drew ?_))); (case side2 => exact HC3.out); (case side3 => repeat (first | exact (Kd.C_below HR4.out HB.out) | (with_reducible refine Kd.C_alloc ?_ _) | (with_reducible refine Kd.C_drewN ?_ _) | (with_reducible refine Kd.C_drew ?_))); (case side4 => exact HC4.out); rintro e w64 ⟨rfl, hb⟩; refine ⟨_, rfl, ?_⟩; replace HO_443000 := am_ (Kd.V_below (kv_ HO_443000.out) hb); replace HO_443002 := am_ (Kd.V_below (kv_ HO_443002.out) hb); replace HO_448000 := am_ (Kd.R_below (kr_ HO_448000.out) hb); replace BK442 := am_ (blk_below (g := gb442) (o := .cells #[.slice Ao20 t432.length co20, .int .i64 t435, .slice Ao22 t436.length co22, .int .i64 t439, .int .i64 t440, .bool t441] 50 (0, 0)) (bk_ BK442.out) hb); replace BK447 := am_ (blk_below (g := gb447) (o := .cells #[.slice Ao25 t443.length co25, .int .i64 t446] 79 (0, 0)) (bk_ BK447.out) hb); replace HB := am_ (below_step (bl_) hb); (try clear hb); (try clear hb2); (try clear hk); (try clear hi); have hcz65_0 : w64.cell? ⟨gb442, 0, none⟩ = some (.slice Ao20 t432.length co20) := (blk_cell BK442.out 0).trans rfl; have hcz65_1 : w64.cell? ⟨gb442, 1, none⟩ = some (.int .i64 t435) := (blk_cell BK442.out 1).trans rfl; have hcz65_2 : w64.cell? ⟨gb442, 2, none⟩ = some (.slice Ao22 t436.length co22) := (blk_cell BK442.out 2).trans rfl; have hcz65_3 : w64.cell? ⟨gb442, 3, none⟩ = some (.int .i64 t439) := (blk_cell BK442.out 3).trans rfl; have hcz65_4 : w64.cell? ⟨gb442, 4, none⟩ = some (.int .i64 t440) := (blk_cell BK442.out 4).trans rfl; have hcz65_5 : w64.cell? ⟨gb442, 5, none⟩ = some (.bool t441) := (blk_cell BK442.out 5).trans rfl; have hfz65_0 := blk_frozen BK442.out 0; have hfz65_1 := blk_frozen BK442.out 1; have hfz65_2 := blk_frozen BK442.out 2; have hfz65_3 := blk_frozen BK442.out 3; have hfz65_4 := blk_frozen BK442.out 4; have hfz65_5 := blk_frozen BK442.out 5) | (go_at_call 30; (with_reducible refine (sift_Count.calls _ _ t432 t435 _ _ t436 t439 t440 t441 t451 _ ?side1 ?side2 ?side3 ?side4 A39.out).mono ?_); (case side1 => repeat (first | exact (Kd.V_reads' HO_443000.out).2.2 | (with_reducible refine Kd.C_alloc ?_ _) | (with_reducible refine Kd.C_drewN ?_ _) | (with_reducible refine Kd.C_drew ?_))); (case side2 => exact (Kd.V_reads' HO_443000.out).2.1); (case side3 => repeat (first | exact (Kd.V_reads' HO_443002.out).2.2 | (with_reducible refine Kd.C_alloc ?_ _) | (with_reducible refine Kd.C_drewN ?_ _) | (with_reducible refine Kd.C_drew ?_))); (case side4 => exact (Kd.V_reads' HO_443002.out).2.1); rintro e w66 ⟨rfl, hb⟩; replace HO_443000 := am_ (Kd.V_below (kv_ HO_443000.out) hb); replace HO_443002 := am_ (Kd.V_below (kv_ HO_443002.out) hb); replace HO_448000 := am_ (Kd.R_below (kr_ HO_448000.out) hb); replace BK442 := am_ (blk_below (g := gb442) (o := .cells #[.slice Ao20 t432.length co20, .int .i64 t435, .slice Ao22 t436.length co22, .int .i64 t439, .int .i64 t440, .bool t441] 50 (0, 0)) (bk_ BK442.out) hb); replace BK447 := am_ (blk_below (g := gb447) (o := .cells #[.slice Ao25 t443.length co25, .int .i64 t446] 79 (0, 0)) (bk_ BK447.out) hb); replace HB := am_ (below_step (bl_) hb); (try clear hb); (try clear hb2); (try clear hk); (try clear hi)) | (go_at_call 45; (with_reducible refine (trommelref20_Count.calls k1 _ _ l3 t452 _ ?side1 ?side2 A40.out).mono ?_); (case side1 => repeat (first | exact (Kd.C_below HR3.out HB.out) | (with_reducible refine Kd.C_alloc ?_ _) | (with_reducible refine Kd.C_drewN ?_ _) | (with_reducible refine Kd.C_drew ?_))); (case side2 => exact HC3.out); rintro e w67 ⟨rfl, hb⟩; replace HO_443000 := am_ (Kd.V_below (kv_ HO_443000.out) hb); replace HO_443002 := am_ (Kd.V_below (kv_ HO_443002.out) hb); replace HO_448000 := am_ (Kd.R_below (kr_ HO_448000.out) hb); replace BK442 := am_ (blk_below (g := gb442) (o := .cells #[.slice Ao20 t432.length co20, .int .i64 t435, .slice Ao22 t436.length co22, .int .i64 t439, .int .i64 t440, .bool t441] 50 (0, 0)) (bk_ BK442.out) hb); replace BK447 := am_ (blk_below (g := gb447) (o := .cells #[.slice Ao25 t443.length co25, .int .i64 t446] 79 (0, 0)) (bk_ BK447.out) hb); replace HB := am_ (below_step (bl_) hb); (try clear hb); (try clear hb2); (try clear hk); (try clear hi); have hcz68_0 : w67.cell? ⟨gb442, 0, none⟩ = some (.slice Ao20 t432.length co20) := (blk_cell BK442.out 0).trans rfl; have hcz68_1 : w67.cell? ⟨gb442, 1, none⟩ = some (.int .i64 t435) := (blk_cell BK442.out 1).trans rfl; have hcz68_2 : w67.cell? ⟨gb442, 2, none⟩ = some (.slice Ao22 t436.length co22) := (blk_cell BK442.out 2).trans rfl; have hcz68_3 : w67.cell? ⟨gb442, 3, none⟩ = some (.int .i64 t439) := (blk_cell BK442.out 3).trans rfl; have hcz68_4 : w67.cell? ⟨gb442, 4, none⟩ = some (.int .i64 t440) := (blk_cell BK442.out 4).trans rfl; have hcz68_5 : w67.cell? ⟨gb442, 5, none⟩ = some (.bool t441) := (blk_cell BK442.out 5).trans rfl; have hfz68_0 := blk_frozen BK442.out 0; have hfz68_1 := blk_frozen BK442.out 1; have hfz68_2 := blk_frozen BK442.out 2; have hfz68_3 := blk_frozen BK442.out 3; have hfz68_4 := blk_frozen BK442.out 4; have hfz68_5 := blk_frozen BK442.out 5) | (go_at_call 48; (with_reducible refine (sift_Ones.calls k1 _ _ t432 t435 _ _ t436 t439 t440 t441 t453 _ ?side1 ?side2 ?side3 ?side4 A42.out).mono ?_); (case side1 => repeat (first | exact (Kd.V_reads' HO_443000.out).2.2 | (with_reducible refine Kd.C_alloc ?_ _) | (with_reducible refine Kd.C_drewN ?_ _) | (with_reducible refine Kd.C_drew ?_))); (case side2 => exact (Kd.V_reads' HO_443000.out).2.1); (case side3 => repeat (first | exact (Kd.V_reads' HO_443002.out).2.2 | (with_reducible refine Kd.C_alloc ?_ _) | (with_reducible refine Kd.C_drewN ?_ _) | (with_reducible refine Kd.C_drew ?_))); (case side4 => exact (Kd.V_reads' HO_443002.out).2.1); rintro e w69 ⟨rfl, hb⟩; replace HO_443000 := am_ (Kd.V_below (kv_ HO_443000.out) hb); replace HO_443002 := am_ (Kd.V_below (kv_ HO_443002.out) hb); replace HO_448000 := am_ (Kd.R_below (kr_ HO_448000.out) hb); replace BK442 := am_ (blk_below (g := gb442) (o := .cells #[.slice Ao20 t432.length co20, .int .i64 t435, .slice Ao22 t436.length co22, .int .i64 t439, .int .i64 t440, .bool t441] 50 (0, 0)) (bk_ BK442.out) hb); replace BK447 := am_ (blk_below (g := gb447) (o := .cells #[.slice Ao25 t443.length co25, .int .i64 t446] 79 (0, 0)) (bk_ BK447.out) hb); replace HB := am_ (below_step (bl_) hb); (try clear hb); (try clear hb2); (try clear hk); (try clear hi)) | (go_at_call 49; (with_reducible refine (sift_Whole.calls k1 _ _ l4 t454 _ ?side1 ?side2 A44.out).mono ?_); (case side1 => repeat (first | exact (Kd.C_below HR4.out HB.out) | (with_reducible refine Kd.C_alloc ?_ _) | (with_reducible refine Kd.C_drewN ?_ _) | (with_reducible refine Kd.C_drew ?_))); (case side2 => exact HC4.out); rintro e w70 ⟨rfl, hb⟩; replace HO_443000 := am_ (Kd.V_below (kv_ HO_443000.out) hb); replace HO_443002 := am_ (Kd.V_below (kv_ HO_443002.out) hb); replace HO_448000 := am_ (Kd.R_below (kr_ HO_448000.out) hb); replace BK442 := am_ (blk_below (g := gb442) (o := .cells #[.slice Ao20 t432.length co20, .int .i64 t435, .slice Ao22 t436.length co22, .int .i64 t439, .int .i64 t440, .bool t441] 50 (0, 0)) (bk_ BK442.out) hb); replace BK447 := am_ (blk_below (g := gb447) (o := .cells #[.slice Ao25 t443.length co25, .int .i64 t446] 79 (0, 0)) (bk_ BK447.out) hb); replace HB := am_ (below_step (bl_) hb); (try clear hb); (try clear hb2); (try clear hk); (try clear hi)) | (go_at_call 22; (with_reducible refine (trommelref20_Whole.calls k1 _ _ l4 t455 _ ?side1 ?side2 A45.out).mono ?_); (case side1 => repeat (first | exact (Kd.C_below HR4.out HB.out) | (with_reducible refine Kd.C_alloc ?_ _) | (with_reducible refine Kd.C_drewN ?_ _) | (with_reducible refine Kd.C_drew ?_))); (case side2 => exact HC4.out); rintro e w' ⟨rfl, ⟨nd, rfl⟩⟩))
         go_ret
         exact ⟨ew_, bl_⟩
       ·rw [if_neg c43] at H
        have c43b0 : (t453 == x13_1) = false := beq_eq_false_iff_ne.mpr c43
        have c43b1 : (t453 != x13_1) = true := bne_iff_ne.mpr c43
        obtain rfl := Option.some.inj H
        have hnb71 := NB447_442.out
        have hnc71 := NB442_447.out
        have hcz72_0 : wr.cell? ⟨gb447, 0, none⟩ = some (.slice Ao25 t443.length co25) := (blk_cell BK447.out 0).trans rfl
        have hcz72_1 : wr.cell? ⟨gb447, 1, none⟩ = some (.int .i64 t446) := (blk_cell BK447.out 1).trans rfl
        have hfz72_0 := blk_frozen BK447.out 0
        have hfz72_1 := blk_frozen BK447.out 1
        have hcz73_0 : wr.cell? ⟨gb442, 0, none⟩ = some (.slice Ao20 t432.length co20) := (blk_cell BK442.out 0).trans rfl
        have hcz73_1 : wr.cell? ⟨gb442, 1, none⟩ = some (.int .i64 t435) := (blk_cell BK442.out 1).trans rfl
        have hcz73_2 : wr.cell? ⟨gb442, 2, none⟩ = some (.slice Ao22 t436.length co22) := (blk_cell BK442.out 2).trans rfl
        have hcz73_3 : wr.cell? ⟨gb442, 3, none⟩ = some (.int .i64 t439) := (blk_cell BK442.out 3).trans rfl
        have hcz73_4 : wr.cell? ⟨gb442, 4, none⟩ = some (.int .i64 t440) := (blk_cell BK442.out 4).trans rfl
        have hcz73_5 : wr.cell? ⟨gb442, 5, none⟩ = some (.bool t441) := (blk_cell BK442.out 5).trans rfl
        have hfz73_0 := blk_frozen BK442.out 0
        have hfz73_1 := blk_frozen BK442.out 1
        have hfz73_2 := blk_frozen BK442.out 2
        have hfz73_3 := blk_frozen BK442.out 3
        have hfz73_4 := blk_frozen BK442.out 4
        have hfz73_5 := blk_frozen BK442.out 5
        go_wp2_with (first | ((with_reducible refine gate_callee (f := 28) rfl ?_); refine goesL_ (some 47) rfl rfl Tryd.func28 (by kernel_rfl) rfl #[.agg #[.slice Ao20 t432.length co20, .int .i64 t435, .slice Ao22 t436.length co22, .int .i64 t439, .int .i64 t440, .bool t441], .slice A4 l4.length c4] rfl (by (try simp only [List.map_toArray, List.map_cons, List.map_nil]); first | done | rfl | (simp only [List.length_drop, List.length_take]; rfl)) ?_; (with_reducible refine (sift_Passes.calls k1 _ _ t432 t435 _ _ t436 t439 t440 t441 _ _ l4 t449 _ ?side1 ?side2 ?side3 ?side4 ?side5 ?side6 A36.out (by first | with_reducible exact HT | exact ⟨TabOK.below HT.out (bl_)⟩)).mono ?_); (case side1 => repeat (first | exact (Kd.V_reads' HO_443000.out).2.2 | (with_reducible refine Kd.C_alloc ?_ _) | (with_reducible refine Kd.C_drewN ?_ _) | (with_reducible refine Kd.C_drew ?_))); (case side2 => exact (Kd.V_reads' HO_443000.out).2.1); (case side3 => repeat (first | exact (Kd.V_reads' HO_443002.out).2.2 | (with_reducible refine Kd.C_alloc ?_ _) | (with_reducible refine Kd.C_drewN ?_ _) | (with_reducible refine Kd.C_drew ?_))); (case side4 => exact (Kd.V_reads' HO_443002.out).2.1); (case side5 => repeat (first | exact (Kd.C_below HR4.out HB.out) | (with_reducible refine Kd.C_alloc ?_ _) | (with_reducible refine Kd.C_drewN ?_ _) | (with_reducible refine Kd.C_drew ?_))); (case side6 => exact HC4.out); rintro e w74 ⟨rfl, hb⟩; refine ⟨_, rfl, ?_⟩; replace HO_443000 := am_ (Kd.V_below (kv_ HO_443000.out) hb); replace HO_443002 := am_ (Kd.V_below (kv_ HO_443002.out) hb); replace HO_448000 := am_ (Kd.R_below (kr_ HO_448000.out) hb); replace BK442 := am_ (blk_below (g := gb442) (o := .cells #[.slice Ao20 t432.length co20, .int .i64 t435, .slice Ao22 t436.length co22, .int .i64 t439, .int .i64 t440, .bool t441] 50 (0, 0)) (bk_ BK442.out) hb); replace BK447 := am_ (blk_below (g := gb447) (o := .cells #[.slice Ao25 t443.length co25, .int .i64 t446] 79 (0, 0)) (bk_ BK447.out) hb); replace HB := am_ (below_step (bl_) hb); (try clear hb); (try clear hb2); (try clear hk); (try clear hi)) | ((with_reducible refine gate_callee (f := 47) rfl ?_); refine goesL_ (some 53) rfl rfl Tryd.func47 (by kernel_rfl) rfl #[.int .i64 a0, .int .i64 a1, .int .i64 a2, .slice A3 l3.length c3, .slice A4 l4.length c4] rfl (by (try simp only [List.map_toArray, List.map_cons, List.map_nil]); first | done | rfl | (simp only [List.length_drop, List.length_take]; rfl)) ?_; (with_reducible refine (trommelref20_Passes.calls k1 a0 a1 a2 _ _ l3 _ _ l4 t450 _ ?side1 ?side2 ?side3 ?side4 A37.out).mono ?_); (case side1 => repeat (first | exact (Kd.C_below HR3.out HB.out) | (with_reducible refine Kd.C_alloc ?_ _) | (with_reducible refine Kd.C_drewN ?_ _) | (with_reducible refine Kd.C_drew ?_))); (case side2 => exact HC3.out); (case side3 => repeat (first | exact (Kd.C_below HR4.out HB.out) | (with_reducible refine Kd.C_alloc ?_ _) | (with_reducible refine Kd.C_drewN ?_ _) | (with_reducible refine Kd.C_drew ?_))); (case side4 => exact HC4.out); rintro e w75 ⟨rfl, hb⟩; refine ⟨_, rfl, ?_⟩; replace HO_443000 := am_ (Kd.V_below (kv_ HO_443000.out) hb); replace HO_443002 := am_ (Kd.V_below (kv_ HO_443002.out) hb); replace HO_448000 := am_ (Kd.R_below (kr_ HO_448000.out) hb); replace BK442 := am_ (blk_below (g := gb442) (o := .cells #[.slice Ao20 t432.length co20, .int .i64 t435, .slice Ao22 t436.length co22, .int .i64 t439, .int .i64 t440, .bool t441] 50 (0, 0)) (bk_ BK442.out) hb); replace BK447 := am_ (blk_below (g := gb447) (o := .cells #[.slice Ao25 t443.length co25, .int .i64 t446] 79 (0, 0)) (bk_ BK447.out) hb); replace HB := am_ (below_step (bl_) hb); (try clear hb); (try clear hb2); (try clear hk); (try clear hi); have hcz76_0 : w75.cell? ⟨gb442, 0, none⟩ = some (.slice Ao20 t432.length co20) := (blk_cell BK442.out 0).trans rfl; have hcz76_1 : w75.cell? ⟨gb442, 1, none⟩ = some (.int .i64 t435) := (blk_cell BK442.out 1).trans rfl; have hcz76_2 : w75.cell? ⟨gb442, 2, none⟩ = some (.slice Ao22 t436.length co22) := (blk_cell BK442.out 2).trans rfl; have hcz76_3 : w75.cell? ⟨gb442, 3, none⟩ = some (.int .i64 t439) := (blk_cell BK442.out 3).trans rfl; have hcz76_4 : w75.cell? ⟨gb442, 4, none⟩ = some (.int .i64 t440) := (blk_cell BK442.out 4).trans rfl; have hcz76_5 : w75.cell? ⟨gb442, 5, none⟩ = some (.bool t441) := (blk_cell BK442.out 5).trans rfl; have hfz76_0 := blk_frozen BK442.out 0; have hfz76_1 := blk_frozen BK442.out 1; have hfz76_2 := blk_frozen BK442.out 2; have hfz76_3 := blk_frozen BK442.out 3; have hfz76_4 := blk_frozen BK442.out 4; have hfz76_5 := blk_frozen BK442.out 5) | (go_at_call 30; (with_reducible refine (sift_Count.calls _ _ t432 t435 _ _ t436 t439 t440 t441 t451 _ ?side1 ?side2 ?side3 ?side4 A39.out).mono ?_); (case side1 => repeat (first | exact (Kd.V_reads' HO_443000.out).2.2 | (with_reducible refine Kd.C_alloc ?_ _) | (with_reducible refine Kd.C_drewN ?_ _) | (with_reducible refine Kd.C_drew ?_))); (case side2 => exact (Kd.V_reads' HO_443000.out).2.1); (case side3 => repeat (first | exact (Kd.V_reads' HO_443002.out).2.2 | (with_reducible refine Kd.C_alloc ?_ _) | (with_reducible refine Kd.C_drewN ?_ _) | (with_reducible refine Kd.C_drew ?_))); (case side4 => exact (Kd.V_reads' HO_443002.out).2.1); rintro e w77 ⟨rfl, hb⟩; replace HO_443000 := am_ (Kd.V_below (kv_ HO_443000.out) hb); replace HO_443002 := am_ (Kd.V_below (kv_ HO_443002.out) hb); replace HO_448000 := am_ (Kd.R_below (kr_ HO_448000.out) hb); replace BK442 := am_ (blk_below (g := gb442) (o := .cells #[.slice Ao20 t432.length co20, .int .i64 t435, .slice Ao22 t436.length co22, .int .i64 t439, .int .i64 t440, .bool t441] 50 (0, 0)) (bk_ BK442.out) hb); replace BK447 := am_ (blk_below (g := gb447) (o := .cells #[.slice Ao25 t443.length co25, .int .i64 t446] 79 (0, 0)) (bk_ BK447.out) hb); replace HB := am_ (below_step (bl_) hb); (try clear hb); (try clear hb2); (try clear hk); (try clear hi)) | (go_at_call 45; (with_reducible refine (trommelref20_Count.calls k1 _ _ l3 t452 _ ?side1 ?side2 A40.out).mono ?_); (case side1 => repeat (first | exact (Kd.C_below HR3.out HB.out) | (with_reducible refine Kd.C_alloc ?_ _) | (with_reducible refine Kd.C_drewN ?_ _) | (with_reducible refine Kd.C_drew ?_))); (case side2 => exact HC3.out); rintro e w78 ⟨rfl, hb⟩; replace HO_443000 := am_ (Kd.V_below (kv_ HO_443000.out) hb); replace HO_443002 := am_ (Kd.V_below (kv_ HO_443002.out) hb); replace HO_448000 := am_ (Kd.R_below (kr_ HO_448000.out) hb); replace BK442 := am_ (blk_below (g := gb442) (o := .cells #[.slice Ao20 t432.length co20, .int .i64 t435, .slice Ao22 t436.length co22, .int .i64 t439, .int .i64 t440, .bool t441] 50 (0, 0)) (bk_ BK442.out) hb); replace BK447 := am_ (blk_below (g := gb447) (o := .cells #[.slice Ao25 t443.length co25, .int .i64 t446] 79 (0, 0)) (bk_ BK447.out) hb); replace HB := am_ (below_step (bl_) hb); (try clear hb); (try clear hb2); (try clear hk); (try clear hi); have hcz79_0 : w78.cell? ⟨gb442, 0, none⟩ = some (.slice Ao20 t432.length co20) := (blk_cell BK442.out 0).trans rfl; have hcz79_1 : w78.cell? ⟨gb442, 1, none⟩ = some (.int .i64 t435) := (blk_cell BK442.out 1).trans rfl; have hcz79_2 : w78.cell? ⟨gb442, 2, none⟩ = some (.slice Ao22 t436.length co22) := (blk_cell BK442.out 2).trans rfl; have hcz79_3 : w78.cell? ⟨gb442, 3, none⟩ = some (.int .i64 t439) := (blk_cell BK442.out 3).trans rfl; have hcz79_4 : w78.cell? ⟨gb442, 4, none⟩ = some (.int .i64 t440) := (blk_cell BK442.out 4).trans rfl; have hcz79_5 : w78.cell? ⟨gb442, 5, none⟩ = some (.bool t441) := (blk_cell BK442.out 5).trans rfl; have hfz79_0 := blk_frozen BK442.out 0; have hfz79_1 := blk_frozen BK442.out 1; have hfz79_2 := blk_frozen BK442.out 2; have hfz79_3 := blk_frozen BK442.out 3; have hfz79_4 := blk_frozen BK442.out 4; have hfz79_5 := blk_frozen BK442.out 5) | (go_at_call 48; (with_reducible refine (sift_Ones.calls k1 _ _ t432 t435 _ _ t436 t439 t440 t441 t453 _ ?side1 ?side2 ?side3 ?side4 A42.out).mono ?_); (case side1 => repeat (first | exact (Kd.V_reads' HO_443000.out).2.2 | (with_reducible refine Kd.C_alloc ?_ _) | (with_reducible refine Kd.C_drewN ?_ _) | (with_reducible refine Kd.C_drew ?_))); (case side2 => exact (Kd.V_reads' HO_443000.out).2.1); (case side3 => repeat (first | exact (Kd.V_reads' HO_443002.out).2.2 | (with_reducible refine Kd.C_alloc ?_ _) | (with_reducible refine Kd.C_drewN ?_ _) | (with_reducible refine Kd.C_drew ?_))); (case side4 => exact (Kd.V_reads' HO_443002.out).2.1); rintro e w80 ⟨rfl, hb⟩; replace HO_443000 := am_ (Kd.V_below (kv_ HO_443000.out) hb); replace HO_443002 := am_ (Kd.V_below (kv_ HO_443002.out) hb); replace HO_448000 := am_ (Kd.R_below (kr_ HO_448000.out) hb); replace BK442 := am_ (blk_below (g := gb442) (o := .cells #[.slice Ao20 t432.length co20, .int .i64 t435, .slice Ao22 t436.length co22, .int .i64 t439, .int .i64 t440, .bool t441] 50 (0, 0)) (bk_ BK442.out) hb); replace BK447 := am_ (blk_below (g := gb447) (o := .cells #[.slice Ao25 t443.length co25, .int .i64 t446] 79 (0, 0)) (bk_ BK447.out) hb); replace HB := am_ (below_step (bl_) hb); (try clear hb); (try clear hb2); (try clear hk); (try clear hi)))
        go_ret
        exact ⟨ew_, bl_⟩
      ·rw [if_neg c41] at H
       have c41b0 : (t451 == t452) = false := beq_eq_false_iff_ne.mpr c41
       have c41b1 : (t451 != t452) = true := bne_iff_ne.mpr c41
       obtain rfl := Option.some.inj H
       have hnb81 := NB447_442.out
       have hnc81 := NB442_447.out
       have hcz82_0 : wr.cell? ⟨gb447, 0, none⟩ = some (.slice Ao25 t443.length co25) := (blk_cell BK447.out 0).trans rfl
       have hcz82_1 : wr.cell? ⟨gb447, 1, none⟩ = some (.int .i64 t446) := (blk_cell BK447.out 1).trans rfl
       have hfz82_0 := blk_frozen BK447.out 0
       have hfz82_1 := blk_frozen BK447.out 1
       have hcz83_0 : wr.cell? ⟨gb442, 0, none⟩ = some (.slice Ao20 t432.length co20) := (blk_cell BK442.out 0).trans rfl
       have hcz83_1 : wr.cell? ⟨gb442, 1, none⟩ = some (.int .i64 t435) := (blk_cell BK442.out 1).trans rfl
       have hcz83_2 : wr.cell? ⟨gb442, 2, none⟩ = some (.slice Ao22 t436.length co22) := (blk_cell BK442.out 2).trans rfl
       have hcz83_3 : wr.cell? ⟨gb442, 3, none⟩ = some (.int .i64 t439) := (blk_cell BK442.out 3).trans rfl
       have hcz83_4 : wr.cell? ⟨gb442, 4, none⟩ = some (.int .i64 t440) := (blk_cell BK442.out 4).trans rfl
       have hcz83_5 : wr.cell? ⟨gb442, 5, none⟩ = some (.bool t441) := (blk_cell BK442.out 5).trans rfl
       have hfz83_0 := blk_frozen BK442.out 0
       have hfz83_1 := blk_frozen BK442.out 1
       have hfz83_2 := blk_frozen BK442.out 2
       have hfz83_3 := blk_frozen BK442.out 3
       have hfz83_4 := blk_frozen BK442.out 4
       have hfz83_5 := blk_frozen BK442.out 5
       go_wp2_with (first | ((with_reducible refine gate_callee (f := 28) rfl ?_); refine goesL_ (some 47) rfl rfl Tryd.func28 (by kernel_rfl) rfl #[.agg #[.slice Ao20 t432.length co20, .int .i64 t435, .slice Ao22 t436.length co22, .int .i64 t439, .int .i64 t440, .bool t441], .slice A4 l4.length c4] rfl (by (try simp only [List.map_toArray, List.map_cons, List.map_nil]); first | done | rfl | (simp only [List.length_drop, List.length_take]; rfl)) ?_; (with_reducible refine (sift_Passes.calls k1 _ _ t432 t435 _ _ t436 t439 t440 t441 _ _ l4 t449 _ ?side1 ?side2 ?side3 ?side4 ?side5 ?side6 A36.out (by first | with_reducible exact HT | exact ⟨TabOK.below HT.out (bl_)⟩)).mono ?_); (case side1 => repeat (first | exact (Kd.V_reads' HO_443000.out).2.2 | (with_reducible refine Kd.C_alloc ?_ _) | (with_reducible refine Kd.C_drewN ?_ _) | (with_reducible refine Kd.C_drew ?_))); (case side2 => exact (Kd.V_reads' HO_443000.out).2.1); (case side3 => repeat (first | exact (Kd.V_reads' HO_443002.out).2.2 | (with_reducible refine Kd.C_alloc ?_ _) | (with_reducible refine Kd.C_drewN ?_ _) | (with_reducible refine Kd.C_drew ?_))); (case side4 => exact (Kd.V_reads' HO_443002.out).2.1); (case side5 => repeat (first | exact (Kd.C_below HR4.out HB.out) | (with_reducible refine Kd.C_alloc ?_ _) | (with_reducible refine Kd.C_drewN ?_ _) | (with_reducible refine Kd.C_drew ?_))); (case side6 => exact HC4.out); rintro e w84 ⟨rfl, hb⟩; refine ⟨_, rfl, ?_⟩; replace HO_443000 := am_ (Kd.V_below (kv_ HO_443000.out) hb); replace HO_443002 := am_ (Kd.V_below (kv_ HO_443002.out) hb); replace HO_448000 := am_ (Kd.R_below (kr_ HO_448000.out) hb); replace BK442 := am_ (blk_below (g := gb442) (o := .cells #[.slice Ao20 t432.length co20, .int .i64 t435, .slice Ao22 t436.length co22, .int .i64 t439, .int .i64 t440, .bool t441] 50 (0, 0)) (bk_ BK442.out) hb); replace BK447 := am_ (blk_below (g := gb447) (o := .cells #[.slice Ao25 t443.length co25, .int .i64 t446] 79 (0, 0)) (bk_ BK447.out) hb); replace HB := am_ (below_step (bl_) hb); (try clear hb); (try clear hb2); (try clear hk); (try clear hi)) | ((with_reducible refine gate_callee (f := 47) rfl ?_); refine goesL_ (some 53) rfl rfl Tryd.func47 (by kernel_rfl) rfl #[.int .i64 a0, .int .i64 a1, .int .i64 a2, .slice A3 l3.length c3, .slice A4 l4.length c4] rfl (by (try simp only [List.map_toArray, List.map_cons, List.map_nil]); first | done | rfl | (simp only [List.length_drop, List.length_take]; rfl)) ?_; (with_reducible refine (trommelref20_Passes.calls k1 a0 a1 a2 _ _ l3 _ _ l4 t450 _ ?side1 ?side2 ?side3 ?side4 A37.out).mono ?_); (case side1 => repeat (first | exact (Kd.C_below HR3.out HB.out) | (with_reducible refine Kd.C_alloc ?_ _) | (with_reducible refine Kd.C_drewN ?_ _) | (with_reducible refine Kd.C_drew ?_))); (case side2 => exact HC3.out); (case side3 => repeat (first | exact (Kd.C_below HR4.out HB.out) | (with_reducible refine Kd.C_alloc ?_ _) | (with_reducible refine Kd.C_drewN ?_ _) | (with_reducible refine Kd.C_drew ?_))); (case side4 => exact HC4.out); rintro e w85 ⟨rfl, hb⟩; refine ⟨_, rfl, ?_⟩; replace HO_443000 := am_ (Kd.V_below (kv_ HO_443000.out) hb); replace HO_443002 := am_ (Kd.V_below (kv_ HO_443002.out) hb); replace HO_448000 := am_ (Kd.R_below (kr_ HO_448000.out) hb); replace BK442 := am_ (blk_below (g := gb442) (o := .cells #[.slice Ao20 t432.length co20, .int .i64 t435, .slice Ao22 t436.length co22, .int .i64 t439, .int .i64 t440, .bool t441] 50 (0, 0)) (bk_ BK442.out) hb); replace BK447 := am_ (blk_below (g := gb447) (o := .cells #[.slice Ao25 t443.length co25, .int .i64 t446] 79 (0, 0)) (bk_ BK447.out) hb); replace HB := am_ (below_step (bl_) hb); (try clear hb); (try clear hb2); (try clear hk); (try clear hi); have hcz86_0 : w85.cell? ⟨gb442, 0, none⟩ = some (.slice Ao20 t432.length co20) := (blk_cell BK442.out 0).trans rfl; have hcz86_1 : w85.cell? ⟨gb442, 1, none⟩ = some (.int .i64 t435) := (blk_cell BK442.out 1).trans rfl; have hcz86_2 : w85.cell? ⟨gb442, 2, none⟩ = some (.slice Ao22 t436.length co22) := (blk_cell BK442.out 2).trans rfl; have hcz86_3 : w85.cell? ⟨gb442, 3, none⟩ = some (.int .i64 t439) := (blk_cell BK442.out 3).trans rfl; have hcz86_4 : w85.cell? ⟨gb442, 4, none⟩ = some (.int .i64 t440) := (blk_cell BK442.out 4).trans rfl; have hcz86_5 : w85.cell? ⟨gb442, 5, none⟩ = some (.bool t441) := (blk_cell BK442.out 5).trans rfl; have hfz86_0 := blk_frozen BK442.out 0; have hfz86_1 := blk_frozen BK442.out 1; have hfz86_2 := blk_frozen BK442.out 2; have hfz86_3 := blk_frozen BK442.out 3; have hfz86_4 := blk_frozen BK442.out 4; have hfz86_5 := blk_frozen BK442.out 5) | (go_at_call 30; (with_reducible refine (sift_Count.calls _ _ t432 t435 _ _ t436 t439 t440 t441 t451 _ ?side1 ?side2 ?side3 ?side4 A39.out).mono ?_); (case side1 => repeat (first | exact (Kd.V_reads' HO_443000.out).2.2 | (with_reducible refine Kd.C_alloc ?_ _) | (with_reducible refine Kd.C_drewN ?_ _) | (with_reducible refine Kd.C_drew ?_))); (case side2 => exact (Kd.V_reads' HO_443000.out).2.1); (case side3 => repeat (first | exact (Kd.V_reads' HO_443002.out).2.2 | (with_reducible refine Kd.C_alloc ?_ _) | (with_reducible refine Kd.C_drewN ?_ _) | (with_reducible refine Kd.C_drew ?_))); (case side4 => exact (Kd.V_reads' HO_443002.out).2.1); rintro e w87 ⟨rfl, hb⟩; replace HO_443000 := am_ (Kd.V_below (kv_ HO_443000.out) hb); replace HO_443002 := am_ (Kd.V_below (kv_ HO_443002.out) hb); replace HO_448000 := am_ (Kd.R_below (kr_ HO_448000.out) hb); replace BK442 := am_ (blk_below (g := gb442) (o := .cells #[.slice Ao20 t432.length co20, .int .i64 t435, .slice Ao22 t436.length co22, .int .i64 t439, .int .i64 t440, .bool t441] 50 (0, 0)) (bk_ BK442.out) hb); replace BK447 := am_ (blk_below (g := gb447) (o := .cells #[.slice Ao25 t443.length co25, .int .i64 t446] 79 (0, 0)) (bk_ BK447.out) hb); replace HB := am_ (below_step (bl_) hb); (try clear hb); (try clear hb2); (try clear hk); (try clear hi)) | (go_at_call 45; (with_reducible refine (trommelref20_Count.calls k1 _ _ l3 t452 _ ?side1 ?side2 A40.out).mono ?_); (case side1 => repeat (first | exact (Kd.C_below HR3.out HB.out) | (with_reducible refine Kd.C_alloc ?_ _) | (with_reducible refine Kd.C_drewN ?_ _) | (with_reducible refine Kd.C_drew ?_))); (case side2 => exact HC3.out); rintro e w88 ⟨rfl, hb⟩; replace HO_443000 := am_ (Kd.V_below (kv_ HO_443000.out) hb); replace HO_443002 := am_ (Kd.V_below (kv_ HO_443002.out) hb); replace HO_448000 := am_ (Kd.R_below (kr_ HO_448000.out) hb); replace BK442 := am_ (blk_below (g := gb442) (o := .cells #[.slice Ao20 t432.length co20, .int .i64 t435, .slice Ao22 t436.length co22, .int .i64 t439, .int .i64 t440, .bool t441] 50 (0, 0)) (bk_ BK442.out) hb); replace BK447 := am_ (blk_below (g := gb447) (o := .cells #[.slice Ao25 t443.length co25, .int .i64 t446] 79 (0, 0)) (bk_ BK447.out) hb); replace HB := am_ (below_step (bl_) hb); (try clear hb); (try clear hb2); (try clear hk); (try clear hi)))
       go_ret
       exact ⟨ew_, bl_⟩
     ·rw [if_neg c38] at H
      have c38b0 : (t449 == t450) = false := by simpa using c38
      (try (have c38b1 : decide (t449 = t450) = false := by simpa using c38))
      (try (have c38b2 : (t449 == t450) = false := by simpa using c38))
      (try (have c38b3 : ¬ (t449 = t450) := by simpa using c38))
      clear c38
      obtain rfl := Option.some.inj H
      have hnb89 := NB447_442.out
      have hnc89 := NB442_447.out
      have hcz90_0 : wr.cell? ⟨gb447, 0, none⟩ = some (.slice Ao25 t443.length co25) := (blk_cell BK447.out 0).trans rfl
      have hcz90_1 : wr.cell? ⟨gb447, 1, none⟩ = some (.int .i64 t446) := (blk_cell BK447.out 1).trans rfl
      have hfz90_0 := blk_frozen BK447.out 0
      have hfz90_1 := blk_frozen BK447.out 1
      have hcz91_0 : wr.cell? ⟨gb442, 0, none⟩ = some (.slice Ao20 t432.length co20) := (blk_cell BK442.out 0).trans rfl
      have hcz91_1 : wr.cell? ⟨gb442, 1, none⟩ = some (.int .i64 t435) := (blk_cell BK442.out 1).trans rfl
      have hcz91_2 : wr.cell? ⟨gb442, 2, none⟩ = some (.slice Ao22 t436.length co22) := (blk_cell BK442.out 2).trans rfl
      have hcz91_3 : wr.cell? ⟨gb442, 3, none⟩ = some (.int .i64 t439) := (blk_cell BK442.out 3).trans rfl
      have hcz91_4 : wr.cell? ⟨gb442, 4, none⟩ = some (.int .i64 t440) := (blk_cell BK442.out 4).trans rfl
      have hcz91_5 : wr.cell? ⟨gb442, 5, none⟩ = some (.bool t441) := (blk_cell BK442.out 5).trans rfl
      have hfz91_0 := blk_frozen BK442.out 0
      have hfz91_1 := blk_frozen BK442.out 1
      have hfz91_2 := blk_frozen BK442.out 2
      have hfz91_3 := blk_frozen BK442.out 3
      have hfz91_4 := blk_frozen BK442.out 4
      have hfz91_5 := blk_frozen BK442.out 5
      go_wp2_with (first | ((with_reducible refine gate_callee (f := 28) rfl ?_); refine goesL_ (some 47) rfl rfl Tryd.func28 (by kernel_rfl) rfl #[.agg #[.slice Ao20 t432.length co20, .int .i64 t435, .slice Ao22 t436.length co22, .int .i64 t439, .int .i64 t440, .bool t441], .slice A4 l4.length c4] rfl (by (try simp only [List.map_toArray, List.map_cons, List.map_nil]); first | done | rfl | (simp only [List.length_drop, List.length_take]; rfl)) ?_; (with_reducible refine (sift_Passes.calls k1 _ _ t432 t435 _ _ t436 t439 t440 t441 _ _ l4 t449 _ ?side1 ?side2 ?side3 ?side4 ?side5 ?side6 A36.out (by first | with_reducible exact HT | exact ⟨TabOK.below HT.out (bl_)⟩)).mono ?_); (case side1 => repeat (first | exact (Kd.V_reads' HO_443000.out).2.2 | (with_reducible refine Kd.C_alloc ?_ _) | (with_reducible refine Kd.C_drewN ?_ _) | (with_reducible refine Kd.C_drew ?_))); (case side2 => exact (Kd.V_reads' HO_443000.out).2.1); (case side3 => repeat (first | exact (Kd.V_reads' HO_443002.out).2.2 | (with_reducible refine Kd.C_alloc ?_ _) | (with_reducible refine Kd.C_drewN ?_ _) | (with_reducible refine Kd.C_drew ?_))); (case side4 => exact (Kd.V_reads' HO_443002.out).2.1); (case side5 => repeat (first | exact (Kd.C_below HR4.out HB.out) | (with_reducible refine Kd.C_alloc ?_ _) | (with_reducible refine Kd.C_drewN ?_ _) | (with_reducible refine Kd.C_drew ?_))); (case side6 => exact HC4.out); rintro e w92 ⟨rfl, hb⟩; refine ⟨_, rfl, ?_⟩; replace HO_443000 := am_ (Kd.V_below (kv_ HO_443000.out) hb); replace HO_443002 := am_ (Kd.V_below (kv_ HO_443002.out) hb); replace HO_448000 := am_ (Kd.R_below (kr_ HO_448000.out) hb); replace BK442 := am_ (blk_below (g := gb442) (o := .cells #[.slice Ao20 t432.length co20, .int .i64 t435, .slice Ao22 t436.length co22, .int .i64 t439, .int .i64 t440, .bool t441] 50 (0, 0)) (bk_ BK442.out) hb); replace BK447 := am_ (blk_below (g := gb447) (o := .cells #[.slice Ao25 t443.length co25, .int .i64 t446] 79 (0, 0)) (bk_ BK447.out) hb); replace HB := am_ (below_step (bl_) hb); (try clear hb); (try clear hb2); (try clear hk); (try clear hi)) | ((with_reducible refine gate_callee (f := 47) rfl ?_); refine goesL_ (some 53) rfl rfl Tryd.func47 (by kernel_rfl) rfl #[.int .i64 a0, .int .i64 a1, .int .i64 a2, .slice A3 l3.length c3, .slice A4 l4.length c4] rfl (by (try simp only [List.map_toArray, List.map_cons, List.map_nil]); first | done | rfl | (simp only [List.length_drop, List.length_take]; rfl)) ?_; (with_reducible refine (trommelref20_Passes.calls k1 a0 a1 a2 _ _ l3 _ _ l4 t450 _ ?side1 ?side2 ?side3 ?side4 A37.out).mono ?_); (case side1 => repeat (first | exact (Kd.C_below HR3.out HB.out) | (with_reducible refine Kd.C_alloc ?_ _) | (with_reducible refine Kd.C_drewN ?_ _) | (with_reducible refine Kd.C_drew ?_))); (case side2 => exact HC3.out); (case side3 => repeat (first | exact (Kd.C_below HR4.out HB.out) | (with_reducible refine Kd.C_alloc ?_ _) | (with_reducible refine Kd.C_drewN ?_ _) | (with_reducible refine Kd.C_drew ?_))); (case side4 => exact HC4.out); rintro e w93 ⟨rfl, hb⟩; refine ⟨_, rfl, ?_⟩; replace HO_443000 := am_ (Kd.V_below (kv_ HO_443000.out) hb); replace HO_443002 := am_ (Kd.V_below (kv_ HO_443002.out) hb); replace HO_448000 := am_ (Kd.R_below (kr_ HO_448000.out) hb); replace BK442 := am_ (blk_below (g := gb442) (o := .cells #[.slice Ao20 t432.length co20, .int .i64 t435, .slice Ao22 t436.length co22, .int .i64 t439, .int .i64 t440, .bool t441] 50 (0, 0)) (bk_ BK442.out) hb); replace BK447 := am_ (blk_below (g := gb447) (o := .cells #[.slice Ao25 t443.length co25, .int .i64 t446] 79 (0, 0)) (bk_ BK447.out) hb); replace HB := am_ (below_step (bl_) hb); (try clear hb); (try clear hb2); (try clear hk); (try clear hi)))
      go_ret
      exact ⟨ew_, bl_⟩

end Go.Proofs.YtcfgjaggccnoaaaDoor.PSiftPasses
