import Derived.Test.YtcfgjaggccnoaaaDoorPSiftKeepsx0
import Derived.Test.YtcfgjaggccnoaaaDoorPSiftKeepsx1
import Derived.Test.YtcfgjaggccnoaaaDoorPSiftKeepsx3
import Derived.Test.YtcfgjaggccnoaaaDoorPSiftKeepsx6
import Derived.Test.YtcfgjaggccnoaaaDoorPSiftKeepsx7
import Derived.Test.YtcfgjaggccnoaaaDoorPSiftKeepsx9
import Derived.Test.YtcfgjaggccnoaaaDoorPSiftKeepsx10
namespace Go.Proofs.YtcfgjaggccnoaaaDoor.PSiftKeeps
open Go.RowKit Go.Proofs.YtcfgjaggccnoaaaDoorW.PrintWords Go.Proofs.YtcfgjaggccnoaaaDoorW.PrintLast Go.Proofs.YtcfgjaggccnoaaaDoorW.PrintMore
attribute [local go_sem] max2_int min2_int max_two min_two max_three min_three max_four min_four
set_option linter.unusedVariables false
set_option maxHeartbeats 8000000
set_option linter.unusedSimpArgs false
set_option maxRecDepth 100000

mutual
def w20_SiftKeeps.j0 : Nat → Int → Int → Int → List (List (S23)) → List (List (S23)) → Bool → Option (Bool)
 | 0, _, _, _, _, _, _ => none
 | k + 1, x0, x1, x2, x3, x4, x25 => if x25 = true then ((w20_live.f k).bind fun t344 => (some t344)) else ((sift_New.f x0 x1 x2).bind fun bt345 => ((sift_Add.f k bt345.1 bt345.2.1 bt345.2.2.1 bt345.2.2.2.1 bt345.2.2.2.2.1 bt345.2.2.2.2.2 x3).bind fun bt355 => ((sift_New.f x0 x1 x2).bind fun bt366 => ((sift_Add.f k bt366.1 bt366.2.1 bt366.2.2.1 bt366.2.2.2.1 bt366.2.2.2.2.1 bt366.2.2.2.2.2 x4).bind fun bt376 => ((sift_Union.f k bt355.1 bt355.2.1 bt355.2.2.1 bt355.2.2.2.1 bt355.2.2.2.2.1 bt355.2.2.2.2.2 bt376.1 bt376.2.1 bt376.2.2.1 bt376.2.2.2.1 bt376.2.2.2.2.1 bt376.2.2.2.2.2).bind fun bt386 => ((w20_code.f bt386.2.2.2.2.2.2).bind fun t398 => (if t398 = 0 then ((sift_Count.f bt386.1 bt386.2.1 bt386.2.2.1 bt386.2.2.2.1 bt386.2.2.2.2.1 bt386.2.2.2.2.2.1).bind fun t399 => ((r20_Count.f k x3).bind fun t400 => ((r20_Count.f k x4).bind fun t401 => (w20_SiftKeeps.j1 k x0 x1 x2 x3 x4 (t399 != (wrap64 (t400 + t401))) bt355.1 bt355.2.1 bt355.2.2.1 bt355.2.2.2.1 bt355.2.2.2.2.1 bt355.2.2.2.2.2 bt386.1 bt386.2.1 bt386.2.2.1 bt386.2.2.2.1 bt386.2.2.2.2.1 bt386.2.2.2.2.2.1)))) else (w20_SiftKeeps.j1 k x0 x1 x2 x3 x4 true bt355.1 bt355.2.1 bt355.2.2.1 bt355.2.2.2.1 bt355.2.2.2.2.1 bt355.2.2.2.2.2 bt386.1 bt386.2.1 bt386.2.2.1 bt386.2.2.2.1 bt386.2.2.2.2.1 bt386.2.2.2.2.2.1))))))))
def w20_SiftKeeps.j1 : Nat → Int → Int → Int → List (List (S23)) → List (List (S23)) → Bool → List Int → Int → List (S106) → Int → Int → Bool → List Int → Int → List (S106) → Int → Int → Bool → Option (Bool)
 | 0, _, _, _, _, _, _, _, _, _, _, _, _, _, _, _, _, _, _ => none
 | k + 1, x0, x1, x2, x3, x4, x56, x366000, x366001, x366002, x366003, x366004, x366005, x398000, x398001, x398002, x398003, x398004, x398005 => if x56 = true then (some false) else (w20_SiftKeeps.l0 k x0 x1 x2 x3 x4 0 x366000 x366001 x366002 x366003 x366004 x366005 x398000 x398001 x398002 x398003 x398004 x398005)
def w20_SiftKeeps.l0 : Nat → Int → Int → Int → List (List (S23)) → List (List (S23)) → Int → List Int → Int → List (S106) → Int → Int → Bool → List Int → Int → List (S106) → Int → Int → Bool → Option (Bool)
 | 0, _, _, _, _, _, _, _, _, _, _, _, _, _, _, _, _, _, _ => none
 | k + 1, x0, x1, x2, x3, x4, x14, x366000, x366001, x366002, x366003, x366004, x366005, x398000, x398001, x398002, x398003, x398004, x398005 => if x14 < (x3.length : Int) then (if 0 ≤ x14 then ((sift_Passes.f k x366000 x366001 x366002 x366003 x366004 x366005 (rd_L6 x3 x14)).bind fun t403 => ((r20_Whole.f k (rd_L6 x3 x14)).bind fun t405 => (if (t403 != t405) = true then (some false) else ((sift_Passes.f k x398000 x398001 x398002 x398003 x398004 x398005 (rd_L6 x3 x14)).bind fun t407 => ((r20_Whole.f k (rd_L6 x3 x14)).bind fun t409 => (if (t407 != t409) = true then (some false) else (w20_SiftKeeps.l0 k x0 x1 x2 x3 x4 (wrap64 (x14 + 1)) x366000 x366001 x366002 x366003 x366004 x366005 x398000 x398001 x398002 x398003 x398004 x398005))))))) else (none)) else (w20_SiftKeeps.l1 k x0 x1 x2 x4 0 x366000 x366001 x366002 x366003 x366004 x366005 x398000 x398001 x398002 x398003 x398004 x398005)
def w20_SiftKeeps.l1 : Nat → Int → Int → Int → List (List (S23)) → Int → List Int → Int → List (S106) → Int → Int → Bool → List Int → Int → List (S106) → Int → Int → Bool → Option (Bool)
 | 0, _, _, _, _, _, _, _, _, _, _, _, _, _, _, _, _, _ => none
 | k + 1, x0, x1, x2, x4, x15, x366000, x366001, x366002, x366003, x366004, x366005, x398000, x398001, x398002, x398003, x398004, x398005 => if x15 < (x4.length : Int) then (if 0 ≤ x15 then ((sift_Passes.f k x398000 x398001 x398002 x398003 x398004 x398005 (rd_L6 x4 x15)).bind fun t411 => ((r20_Whole.f k (rd_L6 x4 x15)).bind fun t413 => (if (t411 != t413) = true then (some false) else (w20_SiftKeeps.l1 k x0 x1 x2 x4 (wrap64 (x15 + 1)) x366000 x366001 x366002 x366003 x366004 x366005 x398000 x398001 x398002 x398003 x398004 x398005)))) else (none)) else ((sift_New.f (Go.bits .xor .i64 x0 1) x1 x2).bind fun bt414 => ((sift_Union.f k x366000 x366001 x366002 x366003 x366004 x366005 bt414.1 bt414.2.1 bt414.2.2.1 bt414.2.2.2.1 bt414.2.2.2.2.1 bt414.2.2.2.2.2).bind fun bt424 => ((w20_code.f bt424.2.2.2.2.2.2).bind fun t436 => (if t436 = 7 then ((w20_live.f k).bind fun t437 => (some t437)) else (some false)))))
end
def w20_SiftKeeps.f (k : Nat) (a0 : Int) (a1 : Int) (a2 : Int) (l3 : List (List (S23))) (l4 : List (List (S23))) : Option (Bool) := (w20_much.f k l3 ([] : List (S23)) a1).bind fun t342 => (if t342 = true then (w20_SiftKeeps.j0 k a0 a1 a2 l3 l4 true) else ((w20_much.f k l4 ([] : List (S23)) a1).bind fun t343 => (w20_SiftKeeps.j0 k a0 a1 a2 l3 l4 t343)))
theorem w20_SiftKeeps.mono_l : ∀ k, (∀ y0 y1 y2 y3 y4 y5, LeO (w20_SiftKeeps.j0 k y0 y1 y2 y3 y4 y5) (w20_SiftKeeps.j0 (k + 1) y0 y1 y2 y3 y4 y5)) ∧ (∀ y0 y1 y2 y3 y4 y5 y6 y7 y8 y9 y10 y11 y12 y13 y14 y15 y16 y17, LeO (w20_SiftKeeps.j1 k y0 y1 y2 y3 y4 y5 y6 y7 y8 y9 y10 y11 y12 y13 y14 y15 y16 y17) (w20_SiftKeeps.j1 (k + 1) y0 y1 y2 y3 y4 y5 y6 y7 y8 y9 y10 y11 y12 y13 y14 y15 y16 y17)) ∧ (∀ y0 y1 y2 y3 y4 y5 y6 y7 y8 y9 y10 y11 y12 y13 y14 y15 y16 y17, LeO (w20_SiftKeeps.l0 k y0 y1 y2 y3 y4 y5 y6 y7 y8 y9 y10 y11 y12 y13 y14 y15 y16 y17) (w20_SiftKeeps.l0 (k + 1) y0 y1 y2 y3 y4 y5 y6 y7 y8 y9 y10 y11 y12 y13 y14 y15 y16 y17)) ∧ (∀ y0 y1 y2 y3 y4 y5 y6 y7 y8 y9 y10 y11 y12 y13 y14 y15 y16, LeO (w20_SiftKeeps.l1 k y0 y1 y2 y3 y4 y5 y6 y7 y8 y9 y10 y11 y12 y13 y14 y15 y16) (w20_SiftKeeps.l1 (k + 1) y0 y1 y2 y3 y4 y5 y6 y7 y8 y9 y10 y11 y12 y13 y14 y15 y16))
 | 0 => ⟨fun _ _ _ _ _ _ r h => by simp [w20_SiftKeeps.j0] at h, fun _ _ _ _ _ _ _ _ _ _ _ _ _ _ _ _ _ _ r h => by simp [w20_SiftKeeps.j1] at h, fun _ _ _ _ _ _ _ _ _ _ _ _ _ _ _ _ _ _ r h => by simp [w20_SiftKeeps.l0] at h, fun _ _ _ _ _ _ _ _ _ _ _ _ _ _ _ _ _ r h => by simp [w20_SiftKeeps.l1] at h⟩
 | k + 1 => by
  obtain ⟨ih0, ih1, ih2, ih3⟩ := w20_SiftKeeps.mono_l k; refine ⟨?_, ?_, ?_, ?_⟩
  ·intro y0 y1 y2 y3 y4 y5
   unfold w20_SiftKeeps.j0
   repeat' first
   | (with_reducible exact ih0 _ _ _ _ _ _)
   | (with_reducible exact ih1 _ _ _ _ _ _ _ _ _ _ _ _ _ _ _ _ _ _)
   | (with_reducible exact ih2 _ _ _ _ _ _ _ _ _ _ _ _ _ _ _ _ _ _)
   | (with_reducible exact ih3 _ _ _ _ _ _ _ _ _ _ _ _ _ _ _ _ _)
   | (with_reducible exact sift_Add.mono _ _ _ _ _ _ _ _)
   | (with_reducible exact sift_Passes.mono _ _ _ _ _ _ _ _)
   | (with_reducible exact sift_Union.mono _ _ _ _ _ _ _ _ _ _ _ _ _)
   | (with_reducible exact w20_live.mono _)
   | (with_reducible exact w20_much.mono _ _ _ _)
   | (with_reducible exact r20_Count.mono _ _)
   | (with_reducible exact r20_Whole.mono _ _)
   | (with_reducible exact LeO.refl _)
   | (with_reducible exact LeO.none _)
   | (with_reducible refine LeO.ite ?_ ?_)
   | (with_reducible refine LeO.bind ?_ (fun _ => ?_))
   | exact ih0 _ _ _ _ _ _
   | exact ih1 _ _ _ _ _ _ _ _ _ _ _ _ _ _ _ _ _ _
   | exact ih2 _ _ _ _ _ _ _ _ _ _ _ _ _ _ _ _ _ _
   | exact ih3 _ _ _ _ _ _ _ _ _ _ _ _ _ _ _ _ _
   | exact sift_Add.mono _ _ _ _ _ _ _ _
   | exact sift_Passes.mono _ _ _ _ _ _ _ _
   | exact sift_Union.mono _ _ _ _ _ _ _ _ _ _ _ _ _
   | exact w20_live.mono _
   | exact w20_much.mono _ _ _ _
   | exact r20_Count.mono _ _
   | exact r20_Whole.mono _ _
   | exact LeO.none _
   | refine LeO.ite ?_ ?_
   | refine LeO.bind ?_ (fun _ => ?_)
  ·intro y0 y1 y2 y3 y4 y5 y6 y7 y8 y9 y10 y11 y12 y13 y14 y15 y16 y17
   unfold w20_SiftKeeps.j1
   repeat' first
   | (with_reducible exact ih0 _ _ _ _ _ _)
   | (with_reducible exact ih1 _ _ _ _ _ _ _ _ _ _ _ _ _ _ _ _ _ _)
   | (with_reducible exact ih2 _ _ _ _ _ _ _ _ _ _ _ _ _ _ _ _ _ _)
   | (with_reducible exact ih3 _ _ _ _ _ _ _ _ _ _ _ _ _ _ _ _ _)
   | (with_reducible exact sift_Add.mono _ _ _ _ _ _ _ _)
   | (with_reducible exact sift_Passes.mono _ _ _ _ _ _ _ _)
   | (with_reducible exact sift_Union.mono _ _ _ _ _ _ _ _ _ _ _ _ _)
   | (with_reducible exact w20_live.mono _)
   | (with_reducible exact w20_much.mono _ _ _ _)
   | (with_reducible exact r20_Count.mono _ _)
   | (with_reducible exact r20_Whole.mono _ _)
   | (with_reducible exact LeO.refl _)
   | (with_reducible exact LeO.none _)
   | (with_reducible refine LeO.ite ?_ ?_)
   | (with_reducible refine LeO.bind ?_ (fun _ => ?_))
   | exact ih0 _ _ _ _ _ _
   | exact ih1 _ _ _ _ _ _ _ _ _ _ _ _ _ _ _ _ _ _
   | exact ih2 _ _ _ _ _ _ _ _ _ _ _ _ _ _ _ _ _ _
   | exact ih3 _ _ _ _ _ _ _ _ _ _ _ _ _ _ _ _ _
   | exact sift_Add.mono _ _ _ _ _ _ _ _
   | exact sift_Passes.mono _ _ _ _ _ _ _ _
   | exact sift_Union.mono _ _ _ _ _ _ _ _ _ _ _ _ _
   | exact w20_live.mono _
   | exact w20_much.mono _ _ _ _
   | exact r20_Count.mono _ _
   | exact r20_Whole.mono _ _
   | exact LeO.none _
   | refine LeO.ite ?_ ?_
   | refine LeO.bind ?_ (fun _ => ?_)
  ·intro y0 y1 y2 y3 y4 y5 y6 y7 y8 y9 y10 y11 y12 y13 y14 y15 y16 y17
   unfold w20_SiftKeeps.l0
   repeat' first
   | (with_reducible exact ih0 _ _ _ _ _ _)
   | (with_reducible exact ih1 _ _ _ _ _ _ _ _ _ _ _ _ _ _ _ _ _ _)
   | (with_reducible exact ih2 _ _ _ _ _ _ _ _ _ _ _ _ _ _ _ _ _ _)
   | (with_reducible exact ih3 _ _ _ _ _ _ _ _ _ _ _ _ _ _ _ _ _)
   | (with_reducible exact sift_Add.mono _ _ _ _ _ _ _ _)
   | (with_reducible exact sift_Passes.mono _ _ _ _ _ _ _ _)
   | (with_reducible exact sift_Union.mono _ _ _ _ _ _ _ _ _ _ _ _ _)
   | (with_reducible exact w20_live.mono _)
   | (with_reducible exact w20_much.mono _ _ _ _)
   | (with_reducible exact r20_Count.mono _ _)
   | (with_reducible exact r20_Whole.mono _ _)
   | (with_reducible exact LeO.refl _)
   | (with_reducible exact LeO.none _)
   | (with_reducible refine LeO.ite ?_ ?_)
   | (with_reducible refine LeO.bind ?_ (fun _ => ?_))
   | exact ih0 _ _ _ _ _ _
   | exact ih1 _ _ _ _ _ _ _ _ _ _ _ _ _ _ _ _ _ _
   | exact ih2 _ _ _ _ _ _ _ _ _ _ _ _ _ _ _ _ _ _
   | exact ih3 _ _ _ _ _ _ _ _ _ _ _ _ _ _ _ _ _
   | exact sift_Add.mono _ _ _ _ _ _ _ _
   | exact sift_Passes.mono _ _ _ _ _ _ _ _
   | exact sift_Union.mono _ _ _ _ _ _ _ _ _ _ _ _ _
   | exact w20_live.mono _
   | exact w20_much.mono _ _ _ _
   | exact r20_Count.mono _ _
   | exact r20_Whole.mono _ _
   | exact LeO.none _
   | refine LeO.ite ?_ ?_
   | refine LeO.bind ?_ (fun _ => ?_)
  ·intro y0 y1 y2 y3 y4 y5 y6 y7 y8 y9 y10 y11 y12 y13 y14 y15 y16
   unfold w20_SiftKeeps.l1
   repeat' first
   | (with_reducible exact ih0 _ _ _ _ _ _)
   | (with_reducible exact ih1 _ _ _ _ _ _ _ _ _ _ _ _ _ _ _ _ _ _)
   | (with_reducible exact ih2 _ _ _ _ _ _ _ _ _ _ _ _ _ _ _ _ _ _)
   | (with_reducible exact ih3 _ _ _ _ _ _ _ _ _ _ _ _ _ _ _ _ _)
   | (with_reducible exact sift_Add.mono _ _ _ _ _ _ _ _)
   | (with_reducible exact sift_Passes.mono _ _ _ _ _ _ _ _)
   | (with_reducible exact sift_Union.mono _ _ _ _ _ _ _ _ _ _ _ _ _)
   | (with_reducible exact w20_live.mono _)
   | (with_reducible exact w20_much.mono _ _ _ _)
   | (with_reducible exact r20_Count.mono _ _)
   | (with_reducible exact r20_Whole.mono _ _)
   | (with_reducible exact LeO.refl _)
   | (with_reducible exact LeO.none _)
   | (with_reducible refine LeO.ite ?_ ?_)
   | (with_reducible refine LeO.bind ?_ (fun _ => ?_))
   | exact ih0 _ _ _ _ _ _
   | exact ih1 _ _ _ _ _ _ _ _ _ _ _ _ _ _ _ _ _ _
   | exact ih2 _ _ _ _ _ _ _ _ _ _ _ _ _ _ _ _ _ _
   | exact ih3 _ _ _ _ _ _ _ _ _ _ _ _ _ _ _ _ _
   | exact sift_Add.mono _ _ _ _ _ _ _ _
   | exact sift_Passes.mono _ _ _ _ _ _ _ _
   | exact sift_Union.mono _ _ _ _ _ _ _ _ _ _ _ _ _
   | exact w20_live.mono _
   | exact w20_much.mono _ _ _ _
   | exact r20_Count.mono _ _
   | exact r20_Whole.mono _ _
   | exact LeO.none _
   | refine LeO.ite ?_ ?_
   | refine LeO.bind ?_ (fun _ => ?_)
theorem w20_SiftKeeps.mono : ∀ a0 a1 a2 a3 a4 k, LeO (w20_SiftKeeps.f k a0 a1 a2 a3 a4) (w20_SiftKeeps.f (k + 1) a0 a1 a2 a3 a4) := by
 intro a0 a1 a2 a3 a4 k; obtain ⟨ih0, ih1, ih2, ih3⟩ := w20_SiftKeeps.mono_l k; unfold w20_SiftKeeps.f
 repeat' first
   | (with_reducible exact ih0 _ _ _ _ _ _)
   | (with_reducible exact ih1 _ _ _ _ _ _ _ _ _ _ _ _ _ _ _ _ _ _)
   | (with_reducible exact ih2 _ _ _ _ _ _ _ _ _ _ _ _ _ _ _ _ _ _)
   | (with_reducible exact ih3 _ _ _ _ _ _ _ _ _ _ _ _ _ _ _ _ _)
   | (with_reducible exact sift_Add.mono _ _ _ _ _ _ _ _)
   | (with_reducible exact sift_Passes.mono _ _ _ _ _ _ _ _)
   | (with_reducible exact sift_Union.mono _ _ _ _ _ _ _ _ _ _ _ _ _)
   | (with_reducible exact w20_live.mono _)
   | (with_reducible exact w20_much.mono _ _ _ _)
   | (with_reducible exact r20_Count.mono _ _)
   | (with_reducible exact r20_Whole.mono _ _)
   | (with_reducible exact LeO.refl _)
   | (with_reducible exact LeO.none _)
   | (with_reducible refine LeO.ite ?_ ?_)
   | (with_reducible refine LeO.bind ?_ (fun _ => ?_))
   | exact ih0 _ _ _ _ _ _
   | exact ih1 _ _ _ _ _ _ _ _ _ _ _ _ _ _ _ _ _ _
   | exact ih2 _ _ _ _ _ _ _ _ _ _ _ _ _ _ _ _ _ _
   | exact ih3 _ _ _ _ _ _ _ _ _ _ _ _ _ _ _ _ _
   | exact sift_Add.mono _ _ _ _ _ _ _ _
   | exact sift_Passes.mono _ _ _ _ _ _ _ _
   | exact sift_Union.mono _ _ _ _ _ _ _ _ _ _ _ _ _
   | exact w20_live.mono _
   | exact w20_much.mono _ _ _ _
   | exact r20_Count.mono _ _
   | exact r20_Whole.mono _ _
   | exact LeO.none _
   | refine LeO.ite ?_ ?_
   | refine LeO.bind ?_ (fun _ => ?_)
def w20_SiftKeeps.T4 : Bool × List (List Nat × List Nat) := (true, [([], []), ([], []), ([], []), ([], []), ([1, 2, 3], [1, 2, 3]), ([], []), ([4, 5, 4], [4, 5]), ([0, 6, 6], [0, 6]), ([7], [7]), ([8], [8]), ([8], [8]), ([], []), ([11, 9, 7, 0, 1, 2, 3, 4, 5, 6, 7, 8, 9, 11], [9, 11]), ([10, 12, 0, 1, 2, 3, 4, 5, 6, 7, 8, 9, 10, 11, 12], [10])])
def w20_SiftKeeps.B4 : List Nat := [0, 0, 0, 0, 14, 0, 62, 127, 255, 511, 511, 0, 3071, 8191]
theorem w20_SiftKeeps.tab4 : rtab .any (opsOf Tryd.f8 4) = w20_SiftKeeps.T4 := by kernel_rfl
theorem w20_SiftKeeps.bits4 : waitsOk w20_SiftKeeps.T4.2 w20_SiftKeeps.B4 = true := by kernel_rfl
def w20_SiftKeeps.T10 : Bool × List (List Nat × List Nat) := (true, [([], []), ([], []), ([], []), ([1, 2], [1, 2]), ([3], [3]), ([0, 4], [0, 4]), ([], []), ([], []), ([6, 7], [6, 7]), ([8], [8]), ([9, 5], [9]), ([5, 10], [5, 10]), ([11, 10], [11]), ([12], [12]), ([12], [12]), ([12], [12]), ([14, 15, 12], [12, 14, 15]), ([16, 12], [12, 16]), ([13, 17, 12, 12], [12, 13, 17]), ([12], [12]), ([12], [12]), ([19, 20, 12], [12, 19, 20]), ([21, 12], [12, 21]), ([22, 18, 12], [12, 22]), ([18, 23, 12], [12, 18, 23]), ([12, 24], [12, 24])])
def w20_SiftKeeps.B10 : List Nat := [0, 0, 0, 6, 14, 31, 0, 0, 192, 448, 1023, 2047, 4095, 8191, 8191, 8191, 57343, 122879, 262143, 8191, 8191, 1581055, 3678207, 8388607, 16777215, 33554431]
theorem w20_SiftKeeps.tab10 : rtab .any (opsOf Tryd.f8 10) = w20_SiftKeeps.T10 := by kernel_rfl
theorem w20_SiftKeeps.bits10 : waitsOk w20_SiftKeeps.T10.2 w20_SiftKeeps.B10 = true := by kernel_rfl
def w20_SiftKeeps.T15 : Bool × List (List Nat × List Nat) := (true, [([], []), ([], []), ([], []), ([1, 2], [1, 2]), ([3], [3]), ([0, 4], [0, 4]), ([], []), ([], []), ([6, 7], [6, 7]), ([8], [8]), ([9, 5], [9]), ([5, 10], [5, 10])])
def w20_SiftKeeps.B15 : List Nat := [0, 0, 0, 6, 14, 31, 0, 0, 192, 448, 1023, 2047]
theorem w20_SiftKeeps.tab15 : rtab .any (opsOf Tryd.f8 15) = w20_SiftKeeps.T15 := by kernel_rfl
theorem w20_SiftKeeps.bits15 : waitsOk w20_SiftKeeps.T15.2 w20_SiftKeeps.B15 = true := by kernel_rfl
def w20_SiftKeeps.T17 : Bool × List (List Nat × List Nat) := (true, [([], []), ([], []), ([1], [1]), ([], []), ([], []), ([2, 3, 4], [2, 3, 4]), ([0, 5, 5], [0, 5]), ([6], [6]), ([7], [7]), ([7], [7]), ([], []), ([10, 8, 6, 0, 1, 2, 3, 4, 5, 6, 7, 8, 10], [8, 10]), ([9, 11, 0, 1, 2, 3, 4, 5, 6, 7, 8, 9, 10, 11], [9])])
def w20_SiftKeeps.B17 : List Nat := [0, 0, 2, 0, 0, 30, 63, 127, 255, 255, 0, 1535, 4095]
theorem w20_SiftKeeps.tab17 : rtab .any (opsOf Tryd.f8 17) = w20_SiftKeeps.T17 := by kernel_rfl
theorem w20_SiftKeeps.bits17 : waitsOk w20_SiftKeeps.T17.2 w20_SiftKeeps.B17 = true := by kernel_rfl
end Go.Proofs.YtcfgjaggccnoaaaDoor.PSiftKeeps
