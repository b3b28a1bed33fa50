import Derived.Test.YtcfgjaggccnoaaaDoorPSiftPassesx0
import Derived.Test.YtcfgjaggccnoaaaDoorPSiftPassesx2
namespace Go.Proofs.YtcfgjaggccnoaaaDoor.PSiftPasses
open Go.RowKit Go.Proofs.YtcfgjaggccnoaaaDoorW.PrintWords Go.Proofs.YtcfgjaggccnoaaaDoorW.PrintLast Go.Proofs.YtcfgjaggccnoaaaDoorW.PrintMore
attribute [local go_sem] max2_int min2_int max_two min_two max_three min_three max_four min_four
set_option linter.unusedVariables false
set_option linter.unusedSimpArgs false
set_option maxRecDepth 100000

mutual
def span_Union.j0 : Nat → Bool → Int → Int → ByteArray → Int → Int → ByteArray → Int → Int → Int → Int → ByteArray → Int → Int → ByteArray → Int → Int → Int → Int → ByteArray → Int → Int → ByteArray → Int → Int → Option (Int × Int × ByteArray × Int × Int × ByteArray × Int × Int)
 | 0, _, _, _, _, _, _, _, _, _, _, _, _, _, _, _, _, _, _, _, _, _, _, _, _, _ => none
 | k + 1, x22, x166000, x166001, x166002, x166003, x166004, x166005, x166006, x166007, x167000, x167001, x167002, x167003, x167004, x167005, x167006, x167007, x169000, x169001, x169002, x169003, x169004, x169005, x169006, x169007 => if x22 = true then (span_Union.j1 k x166000 x166001 x166002 x166003 x166004 x166005 x166006 x166007 x167000 x167001 x167002 x167003 x167004 x167005 x167006 x167007 x167000 x167001 x167002 x169003 x169004 x169005 x169006 x169007) else (span_Union.j1 k x166000 x166001 x166002 x166003 x166004 x166005 x166006 x166007 x167000 x167001 x167002 x167003 x167004 x167005 x167006 x167007 x169000 x169001 x169002 x169003 x169004 x169005 x169006 x169007)
def span_Union.j1 : Nat → Int → Int → ByteArray → Int → Int → ByteArray → Int → Int → Int → Int → ByteArray → Int → Int → ByteArray → Int → Int → Int → Int → ByteArray → Int → Int → ByteArray → Int → Int → Option (Int × Int × ByteArray × Int × Int × ByteArray × Int × Int)
 | 0, _, _, _, _, _, _, _, _, _, _, _, _, _, _, _, _, _, _, _, _, _, _, _, _ => none
 | k + 1, x166000, x166001, x166002, x166003, x166004, x166005, x166006, x166007, x167000, x167001, x167002, x167003, x167004, x167005, x167006, x167007, x169000, x169001, x169002, x169003, x169004, x169005, x169006, x169007 => if x166006 = 0 then (span_Union.j2 k true x166000 x166001 x166002 x166003 x166004 x166005 x166006 x166007 x167000 x167001 x167002 x167003 x167004 x167005 x167006 x167007 x169000 x169001 x169002 x169003 x169004 x169005 x169006 x169007) else (if x167006 > 0 then ((val_Order.f k x167003 x167004 x167005 x166003 x166004 x166005).bind fun t170 => (span_Union.j2 k (decide (t170 > 0)) x166000 x166001 x166002 x166003 x166004 x166005 x166006 x166007 x167000 x167001 x167002 x167003 x167004 x167005 x167006 x167007 x169000 x169001 x169002 x169003 x169004 x169005 x169006 x169007)) else (span_Union.j2 k false x166000 x166001 x166002 x166003 x166004 x166005 x166006 x166007 x167000 x167001 x167002 x167003 x167004 x167005 x167006 x167007 x169000 x169001 x169002 x169003 x169004 x169005 x169006 x169007))
def span_Union.j2 : Nat → Bool → Int → Int → ByteArray → Int → Int → ByteArray → Int → Int → Int → Int → ByteArray → Int → Int → ByteArray → Int → Int → Int → Int → ByteArray → Int → Int → ByteArray → Int → Int → Option (Int × Int × ByteArray × Int × Int × ByteArray × Int × Int)
 | 0, _, _, _, _, _, _, _, _, _, _, _, _, _, _, _, _, _, _, _, _, _, _, _, _, _ => none
 | k + 1, x41, x166000, x166001, x166002, x166003, x166004, x166005, x166006, x166007, x167000, x167001, x167002, x167003, x167004, x167005, x167006, x167007, x169000, x169001, x169002, x169003, x169004, x169005, x169006, x169007 => if x41 = true then (span_Union.j3 k x166000 x166001 x166002 x166003 x166004 x166005 x166006 x166007 x167000 x167001 x167002 x167003 x167004 x167005 x167006 x167007 x169000 x169001 x169002 x167003 x167004 x167005 x169006 x169007) else (span_Union.j3 k x166000 x166001 x166002 x166003 x166004 x166005 x166006 x166007 x167000 x167001 x167002 x167003 x167004 x167005 x167006 x167007 x169000 x169001 x169002 x169003 x169004 x169005 x169006 x169007)
def span_Union.j3 : Nat → Int → Int → ByteArray → Int → Int → ByteArray → Int → Int → Int → Int → ByteArray → Int → Int → ByteArray → Int → Int → Int → Int → ByteArray → Int → Int → ByteArray → Int → Int → Option (Int × Int × ByteArray × Int × Int × ByteArray × Int × Int)
 | 0, _, _, _, _, _, _, _, _, _, _, _, _, _, _, _, _, _, _, _, _, _, _, _, _ => none
 | k + 1, x166000, x166001, x166002, x166003, x166004, x166005, x166006, x166007, x167000, x167001, x167002, x167003, x167004, x167005, x167006, x167007, x169000, x169001, x169002, x169003, x169004, x169005, x169006, x169007 => some (x169000, x169001, x169002, x169003, x169004, x169005, wrap64 (x166006 + x167006), wrap64 (x166007 + x167007))
end
def span_Union.f (k : Nat) (a0_0 : Int) (a0_1 : Int) (a0_2 : ByteArray) (a0_3 : Int) (a0_4 : Int) (a0_5 : ByteArray) (a0_6 : Int) (a0_7 : Int) (a1_0 : Int) (a1_1 : Int) (a1_2 : ByteArray) (a1_3 : Int) (a1_4 : Int) (a1_5 : ByteArray) (a1_6 : Int) (a1_7 : Int) : Option (Int × Int × ByteArray × Int × Int × ByteArray × Int × Int) := if a0_6 = 0 then (span_Union.j0 k true a0_0 a0_1 a0_2 a0_3 a0_4 a0_5 a0_6 a0_7 a1_0 a1_1 a1_2 a1_3 a1_4 a1_5 a1_6 a1_7 a0_0 a0_1 a0_2 a0_3 a0_4 a0_5 a0_6 a0_7) else (if a1_6 > 0 then ((val_Order.f k a1_0 a1_1 a1_2 a0_0 a0_1 a0_2).bind fun t169 => (span_Union.j0 k (decide (t169 < 0)) a0_0 a0_1 a0_2 a0_3 a0_4 a0_5 a0_6 a0_7 a1_0 a1_1 a1_2 a1_3 a1_4 a1_5 a1_6 a1_7 a0_0 a0_1 a0_2 a0_3 a0_4 a0_5 a0_6 a0_7)) else (span_Union.j0 k false a0_0 a0_1 a0_2 a0_3 a0_4 a0_5 a0_6 a0_7 a1_0 a1_1 a1_2 a1_3 a1_4 a1_5 a1_6 a1_7 a0_0 a0_1 a0_2 a0_3 a0_4 a0_5 a0_6 a0_7))
theorem span_Union.mono_l : ∀ k, (∀ y0 y1 y2 y3 y4 y5 y6 y7 y8 y9 y10 y11 y12 y13 y14 y15 y16 y17 y18 y19 y20 y21 y22 y23 y24, LeO (span_Union.j0 k y0 y1 y2 y3 y4 y5 y6 y7 y8 y9 y10 y11 y12 y13 y14 y15 y16 y17 y18 y19 y20 y21 y22 y23 y24) (span_Union.j0 (k + 1) y0 y1 y2 y3 y4 y5 y6 y7 y8 y9 y10 y11 y12 y13 y14 y15 y16 y17 y18 y19 y20 y21 y22 y23 y24)) ∧ (∀ y0 y1 y2 y3 y4 y5 y6 y7 y8 y9 y10 y11 y12 y13 y14 y15 y16 y17 y18 y19 y20 y21 y22 y23, LeO (span_Union.j1 k y0 y1 y2 y3 y4 y5 y6 y7 y8 y9 y10 y11 y12 y13 y14 y15 y16 y17 y18 y19 y20 y21 y22 y23) (span_Union.j1 (k + 1) y0 y1 y2 y3 y4 y5 y6 y7 y8 y9 y10 y11 y12 y13 y14 y15 y16 y17 y18 y19 y20 y21 y22 y23)) ∧ (∀ y0 y1 y2 y3 y4 y5 y6 y7 y8 y9 y10 y11 y12 y13 y14 y15 y16 y17 y18 y19 y20 y21 y22 y23 y24, LeO (span_Union.j2 k y0 y1 y2 y3 y4 y5 y6 y7 y8 y9 y10 y11 y12 y13 y14 y15 y16 y17 y18 y19 y20 y21 y22 y23 y24) (span_Union.j2 (k + 1) y0 y1 y2 y3 y4 y5 y6 y7 y8 y9 y10 y11 y12 y13 y14 y15 y16 y17 y18 y19 y20 y21 y22 y23 y24)) ∧ (∀ y0 y1 y2 y3 y4 y5 y6 y7 y8 y9 y10 y11 y12 y13 y14 y15 y16 y17 y18 y19 y20 y21 y22 y23, LeO (span_Union.j3 k y0 y1 y2 y3 y4 y5 y6 y7 y8 y9 y10 y11 y12 y13 y14 y15 y16 y17 y18 y19 y20 y21 y22 y23) (span_Union.j3 (k + 1) y0 y1 y2 y3 y4 y5 y6 y7 y8 y9 y10 y11 y12 y13 y14 y15 y16 y17 y18 y19 y20 y21 y22 y23))
 | 0 => ⟨fun _ _ _ _ _ _ _ _ _ _ _ _ _ _ _ _ _ _ _ _ _ _ _ _ _ r h => by simp [span_Union.j0] at h, fun _ _ _ _ _ _ _ _ _ _ _ _ _ _ _ _ _ _ _ _ _ _ _ _ r h => by simp [span_Union.j1] at h, fun _ _ _ _ _ _ _ _ _ _ _ _ _ _ _ _ _ _ _ _ _ _ _ _ _ r h => by simp [span_Union.j2] at h, fun _ _ _ _ _ _ _ _ _ _ _ _ _ _ _ _ _ _ _ _ _ _ _ _ r h => by simp [span_Union.j3] at h⟩
 | k + 1 => by
  obtain ⟨ih0, ih1, ih2, ih3⟩ := span_Union.mono_l k
  refine ⟨?_, ?_, ?_, ?_⟩
  ·intro y0 y1 y2 y3 y4 y5 y6 y7 y8 y9 y10 y11 y12 y13 y14 y15 y16 y17 y18 y19 y20 y21 y22 y23 y24
   unfold span_Union.j0
   repeat' first
   | (with_reducible exact ih0 _ _ _ _ _ _ _ _ _ _ _ _ _ _ _ _ _ _ _ _ _ _ _ _ _)
   | (with_reducible exact ih1 _ _ _ _ _ _ _ _ _ _ _ _ _ _ _ _ _ _ _ _ _ _ _ _)
   | (with_reducible exact ih2 _ _ _ _ _ _ _ _ _ _ _ _ _ _ _ _ _ _ _ _ _ _ _ _ _)
   | (with_reducible exact ih3 _ _ _ _ _ _ _ _ _ _ _ _ _ _ _ _ _ _ _ _ _ _ _ _)
   | (with_reducible exact val_Order.mono _ _ _ _ _ _ _)
   | (with_reducible exact LeO.refl _)
   | (with_reducible exact LeO.none _)
   | (with_reducible refine LeO.ite ?_ ?_)
   | (with_reducible refine LeO.bind ?_ (fun _ => ?_))
   | exact ih0 _ _ _ _ _ _ _ _ _ _ _ _ _ _ _ _ _ _ _ _ _ _ _ _ _
   | exact ih1 _ _ _ _ _ _ _ _ _ _ _ _ _ _ _ _ _ _ _ _ _ _ _ _
   | exact ih2 _ _ _ _ _ _ _ _ _ _ _ _ _ _ _ _ _ _ _ _ _ _ _ _ _
   | exact ih3 _ _ _ _ _ _ _ _ _ _ _ _ _ _ _ _ _ _ _ _ _ _ _ _
   | exact val_Order.mono _ _ _ _ _ _ _
   | exact LeO.none _
   | refine LeO.ite ?_ ?_
   | refine LeO.bind ?_ (fun _ => ?_)
  ·intro y0 y1 y2 y3 y4 y5 y6 y7 y8 y9 y10 y11 y12 y13 y14 y15 y16 y17 y18 y19 y20 y21 y22 y23
   unfold span_Union.j1
   repeat' first
   | (with_reducible exact ih0 _ _ _ _ _ _ _ _ _ _ _ _ _ _ _ _ _ _ _ _ _ _ _ _ _)
   | (with_reducible exact ih1 _ _ _ _ _ _ _ _ _ _ _ _ _ _ _ _ _ _ _ _ _ _ _ _)
   | (with_reducible exact ih2 _ _ _ _ _ _ _ _ _ _ _ _ _ _ _ _ _ _ _ _ _ _ _ _ _)
   | (with_reducible exact ih3 _ _ _ _ _ _ _ _ _ _ _ _ _ _ _ _ _ _ _ _ _ _ _ _)
   | (with_reducible exact val_Order.mono _ _ _ _ _ _ _)
   | (with_reducible exact LeO.refl _)
   | (with_reducible exact LeO.none _)
   | (with_reducible refine LeO.ite ?_ ?_)
   | (with_reducible refine LeO.bind ?_ (fun _ => ?_))
   | exact ih0 _ _ _ _ _ _ _ _ _ _ _ _ _ _ _ _ _ _ _ _ _ _ _ _ _
   | exact ih1 _ _ _ _ _ _ _ _ _ _ _ _ _ _ _ _ _ _ _ _ _ _ _ _
   | exact ih2 _ _ _ _ _ _ _ _ _ _ _ _ _ _ _ _ _ _ _ _ _ _ _ _ _
   | exact ih3 _ _ _ _ _ _ _ _ _ _ _ _ _ _ _ _ _ _ _ _ _ _ _ _
   | exact val_Order.mono _ _ _ _ _ _ _
   | exact LeO.none _
   | refine LeO.ite ?_ ?_
   | refine LeO.bind ?_ (fun _ => ?_)
  ·intro y0 y1 y2 y3 y4 y5 y6 y7 y8 y9 y10 y11 y12 y13 y14 y15 y16 y17 y18 y19 y20 y21 y22 y23 y24
   unfold span_Union.j2
   repeat' first
   | (with_reducible exact ih0 _ _ _ _ _ _ _ _ _ _ _ _ _ _ _ _ _ _ _ _ _ _ _ _ _)
   | (with_reducible exact ih1 _ _ _ _ _ _ _ _ _ _ _ _ _ _ _ _ _ _ _ _ _ _ _ _)
   | (with_reducible exact ih2 _ _ _ _ _ _ _ _ _ _ _ _ _ _ _ _ _ _ _ _ _ _ _ _ _)
   | (with_reducible exact ih3 _ _ _ _ _ _ _ _ _ _ _ _ _ _ _ _ _ _ _ _ _ _ _ _)
   | (with_reducible exact val_Order.mono _ _ _ _ _ _ _)
   | (with_reducible exact LeO.refl _)
   | (with_reducible exact LeO.none _)
   | (with_reducible refine LeO.ite ?_ ?_)
   | (with_reducible refine LeO.bind ?_ (fun _ => ?_))
   | exact ih0 _ _ _ _ _ _ _ _ _ _ _ _ _ _ _ _ _ _ _ _ _ _ _ _ _
   | exact ih1 _ _ _ _ _ _ _ _ _ _ _ _ _ _ _ _ _ _ _ _ _ _ _ _
   | exact ih2 _ _ _ _ _ _ _ _ _ _ _ _ _ _ _ _ _ _ _ _ _ _ _ _ _
   | exact ih3 _ _ _ _ _ _ _ _ _ _ _ _ _ _ _ _ _ _ _ _ _ _ _ _
   | exact val_Order.mono _ _ _ _ _ _ _
   | exact LeO.none _
   | refine LeO.ite ?_ ?_
   | refine LeO.bind ?_ (fun _ => ?_)
  ·intro y0 y1 y2 y3 y4 y5 y6 y7 y8 y9 y10 y11 y12 y13 y14 y15 y16 y17 y18 y19 y20 y21 y22 y23
   unfold span_Union.j3
   repeat' first
   | (with_reducible exact ih0 _ _ _ _ _ _ _ _ _ _ _ _ _ _ _ _ _ _ _ _ _ _ _ _ _)
   | (with_reducible exact ih1 _ _ _ _ _ _ _ _ _ _ _ _ _ _ _ _ _ _ _ _ _ _ _ _)
   | (with_reducible exact ih2 _ _ _ _ _ _ _ _ _ _ _ _ _ _ _ _ _ _ _ _ _ _ _ _ _)
   | (with_reducible exact ih3 _ _ _ _ _ _ _ _ _ _ _ _ _ _ _ _ _ _ _ _ _ _ _ _)
   | (with_reducible exact val_Order.mono _ _ _ _ _ _ _)
   | (with_reducible exact LeO.refl _)
   | (with_reducible exact LeO.none _)
   | (with_reducible refine LeO.ite ?_ ?_)
   | (with_reducible refine LeO.bind ?_ (fun _ => ?_))
   | exact ih0 _ _ _ _ _ _ _ _ _ _ _ _ _ _ _ _ _ _ _ _ _ _ _ _ _
   | exact ih1 _ _ _ _ _ _ _ _ _ _ _ _ _ _ _ _ _ _ _ _ _ _ _ _
   | exact ih2 _ _ _ _ _ _ _ _ _ _ _ _ _ _ _ _ _ _ _ _ _ _ _ _ _
   | exact ih3 _ _ _ _ _ _ _ _ _ _ _ _ _ _ _ _ _ _ _ _ _ _ _ _
   | exact val_Order.mono _ _ _ _ _ _ _
   | exact LeO.none _
   | refine LeO.ite ?_ ?_
   | refine LeO.bind ?_ (fun _ => ?_)
theorem span_Union.mono : ∀ a0 a1 a2 a3 a4 a5 a6 a7 a8 a9 a10 a11 a12 a13 a14 a15 k, LeO (span_Union.f k a0 a1 a2 a3 a4 a5 a6 a7 a8 a9 a10 a11 a12 a13 a14 a15) (span_Union.f (k + 1) a0 a1 a2 a3 a4 a5 a6 a7 a8 a9 a10 a11 a12 a13 a14 a15) := by
 intro a0 a1 a2 a3 a4 a5 a6 a7 a8 a9 a10 a11 a12 a13 a14 a15 k
 obtain ⟨ih0, ih1, ih2, ih3⟩ := span_Union.mono_l k
 unfold span_Union.f
 repeat' first
   | (with_reducible exact ih0 _ _ _ _ _ _ _ _ _ _ _ _ _ _ _ _ _ _ _ _ _ _ _ _ _)
   | (with_reducible exact ih1 _ _ _ _ _ _ _ _ _ _ _ _ _ _ _ _ _ _ _ _ _ _ _ _)
   | (with_reducible exact ih2 _ _ _ _ _ _ _ _ _ _ _ _ _ _ _ _ _ _ _ _ _ _ _ _ _)
   | (with_reducible exact ih3 _ _ _ _ _ _ _ _ _ _ _ _ _ _ _ _ _ _ _ _ _ _ _ _)
   | (with_reducible exact val_Order.mono _ _ _ _ _ _ _)
   | (with_reducible exact LeO.refl _)
   | (with_reducible exact LeO.none _)
   | (with_reducible refine LeO.ite ?_ ?_)
   | (with_reducible refine LeO.bind ?_ (fun _ => ?_))
   | exact ih0 _ _ _ _ _ _ _ _ _ _ _ _ _ _ _ _ _ _ _ _ _ _ _ _ _
   | exact ih1 _ _ _ _ _ _ _ _ _ _ _ _ _ _ _ _ _ _ _ _ _ _ _ _
   | exact ih2 _ _ _ _ _ _ _ _ _ _ _ _ _ _ _ _ _ _ _ _ _ _ _ _ _
   | exact ih3 _ _ _ _ _ _ _ _ _ _ _ _ _ _ _ _ _ _ _ _ _ _ _ _
   | exact val_Order.mono _ _ _ _ _ _ _
   | exact LeO.none _
   | refine LeO.ite ?_ ?_
   | refine LeO.bind ?_ (fun _ => ?_)
def span_Union.T6 : Bool × List (List Nat × List Nat) := (true, [([], []), ([0], [0]), ([], []), ([2], [2]), ([1, 3], [1, 3]), ([], []), ([5], [5]), ([], []), ([7], [7]), ([6, 8], [6, 8]), ([0, 1, 2, 3, 4], []), ([10, 4, 0, 1, 2, 3, 4], [4, 10]), ([0, 1, 2, 3, 4, 5, 6, 7, 8, 9, 10, 11], []), ([12, 9, 11, 0, 1, 2, 3, 4, 5, 6, 7, 8, 9, 10, 11], [9, 12])])
def span_Union.B6 : List Nat := [0, 1, 0, 4, 15, 0, 32, 0, 128, 480, 31, 1055, 4095, 8191]
theorem span_Union.tab6 : rtab .any (opsOf Tryd.f84 6) = span_Union.T6 := by kernel_rfl
theorem span_Union.bits6 : waitsOk span_Union.T6.2 span_Union.B6 = true := by kernel_rfl
set_option maxHeartbeats 8000000 in
set_option maxRecDepth 100000 in
theorem span_Union.calls (k : Nat) (a0_0 : Int) (a0_1 : Int) (a0_2 : ByteArray) (a0_3 : Int) (a0_4 : Int) (a0_5 : ByteArray) (a0_6 : Int) (a0_7 : Int) (a1_0 : Int) (a1_1 : Int) (a1_2 : ByteArray) (a1_3 : Int) (a1_4 : Int) (a1_5 : ByteArray) (a1_6 : Int) (a1_7 : Int) (r1 : Int) (r2 : Int) (r3 : ByteArray) (r4 : Int) (r5 : Int) (r6 : ByteArray) (r7 : Int) (r8 : Int) (w : World) (h : span_Union.f k a0_0 a0_1 a0_2 a0_3 a0_4 a0_5 a0_6 a0_7 a1_0 a1_1 a1_2 a1_3 a1_4 a1_5 a1_6 a1_7 = some (r1, r2, r3, r4, r5, r6, r7, r8)) :
  Calls Tryd.prog 84 #[.agg #[.int .i64 a0_0, .int .i64 a0_1, .string a0_2, .int .i64 a0_3, .int .i64 a0_4, .string a0_5, .int .i64 a0_6, .int .i64 a0_7], .agg #[.int .i64 a1_0, .int .i64 a1_1, .string a1_2, .int .i64 a1_3, .int .i64 a1_4, .string a1_5, .int .i64 a1_6, .int .i64 a1_7]] w fun e w' => e = .returned (.agg #[.int .i64 r1, .int .i64 r2, .string r3, .int .i64 r4, .int .i64 r5, .string r6, .int .i64 r7, .int .i64 r8]) ∧ Below w.heap.size w w' := by
 have hu106 := Tryd.underlying106
 have hu23 := Tryd.underlying23
 have HB := am_ (Below.refl w.heap.size w)
 have H : (if a0_6 = 0 then (span_Union.j0 k true a0_0 a0_1 a0_2 a0_3 a0_4 a0_5 a0_6 a0_7 a1_0 a1_1 a1_2 a1_3 a1_4 a1_5 a1_6 a1_7 a0_0 a0_1 a0_2 a0_3 a0_4 a0_5 a0_6 a0_7) else (if a1_6 > 0 then ((val_Order.f k a1_0 a1_1 a1_2 a0_0 a0_1 a0_2).bind fun t169 => (span_Union.j0 k (decide (t169 < 0)) a0_0 a0_1 a0_2 a0_3 a0_4 a0_5 a0_6 a0_7 a1_0 a1_1 a1_2 a1_3 a1_4 a1_5 a1_6 a1_7 a0_0 a0_1 a0_2 a0_3 a0_4 a0_5 a0_6 a0_7)) else (span_Union.j0 k false a0_0 a0_1 a0_2 a0_3 a0_4 a0_5 a0_6 a0_7 a1_0 a1_1 a1_2 a1_3 a1_4 a1_5 a1_6 a1_7 a0_0 a0_1 a0_2 a0_3 a0_4 a0_5 a0_6 a0_7))) = some (r1, r2, r3, r4, r5, r6, r7, r8) := h
 clear h
 have HC3 := am_ H
 clear H
 go_enter Tryd.func84, Tryd.ntmps84
 go_upto_region 2 with (first | ((with_reducible refine gate_dst (N := 2) rfl ?_); refine box_event ?hg (N := 2) ?hd (cs := #[.int .i64 a0_0, .int .i64 a0_1, .string a0_2, .int .i64 a0_3, .int .i64 a0_4, .string a0_5, .int .i64 a0_6, .int .i64 a0_7]) (t := 106) ?hr ?_; (case hd => rfl); (case hg => rfl); (case hr => first | (go_simp; done) | (go_simp; rfl)); intro gb165 hg w4 hbox hb; have BK165 := am_ (hbox); have GW165 := am_ ((by rw [hg]; exact (below_size (bl_)) : w.heap.size ≤ gb165)); have GE165 := am_ ((by rw [hg]; exact (below_size (bl_)) : w.heap.size ≤ gb165)); replace HB := am_ (below_step (bl_) hb); clear hb hbox hg) | ((with_reducible refine gate_dst (N := 3) rfl ?_); refine box_event ?hg (N := 3) ?hd (cs := #[.int .i64 a1_0, .int .i64 a1_1, .string a1_2, .int .i64 a1_3, .int .i64 a1_4, .string a1_5, .int .i64 a1_6, .int .i64 a1_7]) (t := 106) ?hr ?_; (case hd => rfl); (case hg => rfl); (case hr => first | (go_simp; done) | (go_simp; rfl)); intro gb166 hg w5 hbox hb; have n0_ := am_ (blk_below (g := gb165) (o := .cells #[.int .i64 a0_0, .int .i64 a0_1, .string a0_2, .int .i64 a0_3, .int .i64 a0_4, .string a0_5, .int .i64 a0_6, .int .i64 a0_7] 106 (0, 0)) (bk_ BK165.out) hb); have n1_ := am_ (below_step (bl_) hb); have n2_ := am_ (hbox); have n3_ := am_ ((by rw [hg]; exact (below_size (bl_)) : w.heap.size ≤ gb166)); have n4_ := am_ ((by rw [hg]; exact (below_size (bl_)) : w.heap.size ≤ gb166)); have n5_ := am_ ((by rw [hg]; exact Nat.ne_of_lt (blk_lt (g := gb165) (o := .cells #[.int .i64 a0_0, .int .i64 a0_1, .string a0_2, .int .i64 a0_3, .int .i64 a0_4, .string a0_5, .int .i64 a0_6, .int .i64 a0_7] 106 (0, 0)) (bk_ BK165.out)) : gb165 ≠ gb166)); have n6_ := am_ ((by rw [hg]; exact Nat.ne_of_gt (blk_lt (g := gb165) (o := .cells #[.int .i64 a0_0, .int .i64 a0_1, .string a0_2, .int .i64 a0_3, .int .i64 a0_4, .string a0_5, .int .i64 a0_6, .int .i64 a0_7] 106 (0, 0)) (bk_ BK165.out)) : gb166 ≠ gb165)); clear BK165; clear HB; have BK165 := n0_; have HB := n1_; have BK166 := n2_; have GW166 := n3_; have GE166 := n4_; have NB165_166 := n5_; have NB166_165 := n6_; clear n0_ n1_ n2_ n3_ n4_ n5_ n6_; clear hb hbox hg) | ((with_reducible refine gate_dst (N := 4) rfl ?_); refine box_event ?hg (N := 4) ?hd (cs := #[.int .i64 0, .int .i64 0, .string (⟨#[]⟩ : ByteArray), .int .i64 0, .int .i64 0, .string (⟨#[]⟩ : ByteArray), .int .i64 0, .int .i64 0]) (t := 106) ?hr ?_; (case hd => rfl); (case hg => rfl); (case hr => first | (go_simp; done) | (go_simp; rfl)); intro gb167 hg w6 hbox hb; have n0_ := am_ (blk_below (g := gb165) (o := .cells #[.int .i64 a0_0, .int .i64 a0_1, .string a0_2, .int .i64 a0_3, .int .i64 a0_4, .string a0_5, .int .i64 a0_6, .int .i64 a0_7] 106 (0, 0)) (bk_ BK165.out) hb); have n1_ := am_ (blk_below (g := gb166) (o := .cells #[.int .i64 a1_0, .int .i64 a1_1, .string a1_2, .int .i64 a1_3, .int .i64 a1_4, .string a1_5, .int .i64 a1_6, .int .i64 a1_7] 106 (0, 0)) (bk_ BK166.out) hb); have n2_ := am_ (below_step (bl_) hb); have n3_ := am_ (hbox); have n4_ := am_ ((by rw [hg]; exact (below_size (bl_)) : w.heap.size ≤ gb167)); have n5_ := am_ ((by rw [hg]; exact (below_size (bl_)) : w.heap.size ≤ gb167)); have n6_ := am_ ((by rw [hg]; exact Nat.ne_of_lt (blk_lt (g := gb165) (o := .cells #[.int .i64 a0_0, .int .i64 a0_1, .string a0_2, .int .i64 a0_3, .int .i64 a0_4, .string a0_5, .int .i64 a0_6, .int .i64 a0_7] 106 (0, 0)) (bk_ BK165.out)) : gb165 ≠ gb167)); have n7_ := am_ ((by rw [hg]; exact Nat.ne_of_gt (blk_lt (g := gb165) (o := .cells #[.int .i64 a0_0, .int .i64 a0_1, .string a0_2, .int .i64 a0_3, .int .i64 a0_4, .string a0_5, .int .i64 a0_6, .int .i64 a0_7] 106 (0, 0)) (bk_ BK165.out)) : gb167 ≠ gb165)); have n8_ := am_ ((by rw [hg]; exact Nat.ne_of_lt (blk_lt (g := gb166) (o := .cells #[.int .i64 a1_0, .int .i64 a1_1, .string a1_2, .int .i64 a1_3, .int .i64 a1_4, .string a1_5, .int .i64 a1_6, .int .i64 a1_7] 106 (0, 0)) (bk_ BK166.out)) : gb166 ≠ gb167)); have n9_ := am_ ((by rw [hg]; exact Nat.ne_of_gt (blk_lt (g := gb166) (o := .cells #[.int .i64 a1_0, .int .i64 a1_1, .string a1_2, .int .i64 a1_3, .int .i64 a1_4, .string a1_5, .int .i64 a1_6, .int .i64 a1_7] 106 (0, 0)) (bk_ BK166.out)) : gb167 ≠ gb166)); clear BK165; clear BK166; clear HB; have BK165 := n0_; have BK166 := n1_; have HB := n2_; have BK167 := n3_; have GW167 := n4_; have GE167 := n5_; have NB165_167 := n6_; have NB167_165 := n7_; have NB166_167 := n8_; have NB167_166 := n9_; clear n0_ n1_ n2_ n3_ n4_ n5_ n6_ n7_ n8_ n9_; clear hb hbox hg; have hnb7 := NB165_166.out; have hnc7 := NB166_165.out; have hnb8 := NB165_167.out; have hnc8 := NB167_165.out; have hcz9_0 : w6.cell? ⟨gb165, 0, none⟩ = some (.int .i64 a0_0) := (blk_cell BK165.out 0).trans rfl; have hcz9_1 : w6.cell? ⟨gb165, 1, none⟩ = some (.int .i64 a0_1) := (blk_cell BK165.out 1).trans rfl; have hcz9_2 : w6.cell? ⟨gb165, 2, none⟩ = some (.string a0_2) := (blk_cell BK165.out 2).trans rfl; have hcz9_3 : w6.cell? ⟨gb165, 3, none⟩ = some (.int .i64 a0_3) := (blk_cell BK165.out 3).trans rfl; have hcz9_4 : w6.cell? ⟨gb165, 4, none⟩ = some (.int .i64 a0_4) := (blk_cell BK165.out 4).trans rfl; have hcz9_5 : w6.cell? ⟨gb165, 5, none⟩ = some (.string a0_5) := (blk_cell BK165.out 5).trans rfl; have hcz9_6 : w6.cell? ⟨gb165, 6, none⟩ = some (.int .i64 a0_6) := (blk_cell BK165.out 6).trans rfl; have hcz9_7 : w6.cell? ⟨gb165, 7, none⟩ = some (.int .i64 a0_7) := (blk_cell BK165.out 7).trans rfl; have hfz9_0 := blk_frozen BK165.out 0; have hfz9_1 := blk_frozen BK165.out 1; have hfz9_2 := blk_frozen BK165.out 2; have hfz9_3 := blk_frozen BK165.out 3; have hfz9_4 := blk_frozen BK165.out 4; have hfz9_5 := blk_frozen BK165.out 5; have hfz9_6 := blk_frozen BK165.out 6; have hfz9_7 := blk_frozen BK165.out 7) | ((with_reducible refine gate_dst (N := 5) rfl ?_); refine box_event ?hg (N := 5) ?hd (cs := #[.int .i64 0, .int .i64 0, .string (⟨#[]⟩ : ByteArray), .int .i64 0, .int .i64 0, .string (⟨#[]⟩ : ByteArray), .int .i64 0, .int .i64 0]) (t := 106) ?hr ?_; (case hd => rfl); (case hg => rfl); (case hr => first | (go_simp; done) | (go_simp; rfl)); intro gb168 hg w10 hbox hb; have n0_ := am_ (blk_below (g := gb165) (o := .cells #[.int .i64 a0_0, .int .i64 a0_1, .string a0_2, .int .i64 a0_3, .int .i64 a0_4, .string a0_5, .int .i64 a0_6, .int .i64 a0_7] 106 (0, 0)) (bk_ BK165.out) hb); have n1_ := am_ (blk_below (g := gb166) (o := .cells #[.int .i64 a1_0, .int .i64 a1_1, .string a1_2, .int .i64 a1_3, .int .i64 a1_4, .string a1_5, .int .i64 a1_6, .int .i64 a1_7] 106 (0, 0)) (bk_ BK166.out) hb); have n2_ := am_ (blk_below (g := gb167) (o := .cells #[.int .i64 0, .int .i64 0, .string (⟨#[]⟩ : ByteArray), .int .i64 0, .int .i64 0, .string (⟨#[]⟩ : ByteArray), .int .i64 0, .int .i64 0] 106 (0, 0)) (bk_ BK167.out) hb); have n3_ := am_ (below_step (bl_) hb); have n4_ := am_ (hbox); have n5_ := am_ ((by rw [hg]; exact (below_size (bl_)) : w.heap.size ≤ gb168)); have n6_ := am_ ((by rw [hg]; exact (below_size (bl_)) : w.heap.size ≤ gb168)); have n7_ := am_ ((by rw [hg]; exact Nat.ne_of_lt (blk_lt (g := gb165) (o := .cells #[.int .i64 a0_0, .int .i64 a0_1, .string a0_2, .int .i64 a0_3, .int .i64 a0_4, .string a0_5, .int .i64 a0_6, .int .i64 a0_7] 106 (0, 0)) (bk_ BK165.out)) : gb165 ≠ gb168)); have n8_ := am_ ((by rw [hg]; exact Nat.ne_of_gt (blk_lt (g := gb165) (o := .cells #[.int .i64 a0_0, .int .i64 a0_1, .string a0_2, .int .i64 a0_3, .int .i64 a0_4, .string a0_5, .int .i64 a0_6, .int .i64 a0_7] 106 (0, 0)) (bk_ BK165.out)) : gb168 ≠ gb165)); have n9_ := am_ ((by rw [hg]; exact Nat.ne_of_lt (blk_lt (g := gb166) (o := .cells #[.int .i64 a1_0, .int .i64 a1_1, .string a1_2, .int .i64 a1_3, .int .i64 a1_4, .string a1_5, .int .i64 a1_6, .int .i64 a1_7] 106 (0, 0)) (bk_ BK166.out)) : gb166 ≠ gb168)); have n10_ := am_ ((by rw [hg]; exact Nat.ne_of_gt (blk_lt (g := gb166) (o := .cells #[.int .i64 a1_0, .int .i64 a1_1, .string a1_2, .int .i64 a1_3, .int .i64 a1_4, .string a1_5, .int .i64 a1_6, .int .i64 a1_7] 106 (0, 0)) (bk_ BK166.out)) : gb168 ≠ gb166)); have n11_ := am_ ((by rw [hg]; exact Nat.ne_of_lt (blk_lt (g := gb167) (o := .cells #[.int .i64 0, .int .i64 0, .string (⟨#[]⟩ : ByteArray), .int .i64 0, .int .i64 0, .string (⟨#[]⟩ : ByteArray), .int .i64 0, .int .i64 0] 106 (0, 0)) (bk_ BK167.out)) : gb167 ≠ gb168)); have n12_ := am_ ((by rw [hg]; exact Nat.ne_of_gt (blk_lt (g := gb167) (o := .cells #[.int .i64 0, .int .i64 0, .string (⟨#[]⟩ : ByteArray), .int .i64 0, .int .i64 0, .string (⟨#[]⟩ : ByteArray), .int .i64 0, .int .i64 0] 106 (0, 0)) (bk_ BK167.out)) : gb168 ≠ gb167)); clear BK165; clear BK166; clear BK167; clear HB; have BK165 := n0_; have BK166 := n1_; have BK167 := n2_; have HB := n3_; have BK168 := n4_; have GW168 := n5_; have GE168 := n6_; have NB165_168 := n7_; have NB168_165 := n8_; have NB166_168 := n9_; have NB168_166 := n10_; have NB167_168 := n11_; have NB168_167 := n12_; clear n0_ n1_ n2_ n3_ n4_ n5_ n6_ n7_ n8_ n9_ n10_ n11_ n12_; clear hb hbox hg; have hnb11 := NB168_165.out; have hnc11 := NB165_168.out; have hnb12 := NB168_166.out; have hnc12 := NB166_168.out; have hnb13 := NB168_167.out; have hnc13 := NB167_168.out; have hcz14_0 : w10.cell? ⟨gb168, 0, none⟩ = some (.int .i64 0) := (blk_cell BK168.out 0).trans rfl; have hcz14_1 : w10.cell? ⟨gb168, 1, none⟩ = some (.int .i64 0) := (blk_cell BK168.out 1).trans rfl; have hcz14_2 : w10.cell? ⟨gb168, 2, none⟩ = some (.string (⟨#[]⟩ : ByteArray)) := (blk_cell BK168.out 2).trans rfl; have hcz14_3 : w10.cell? ⟨gb168, 3, none⟩ = some (.int .i64 0) := (blk_cell BK168.out 3).trans rfl; have hcz14_4 : w10.cell? ⟨gb168, 4, none⟩ = some (.int .i64 0) := (blk_cell BK168.out 4).trans rfl; have hcz14_5 : w10.cell? ⟨gb168, 5, none⟩ = some (.string (⟨#[]⟩ : ByteArray)) := (blk_cell BK168.out 5).trans rfl; have hcz14_6 : w10.cell? ⟨gb168, 6, none⟩ = some (.int .i64 0) := (blk_cell BK168.out 6).trans rfl; have hcz14_7 : w10.cell? ⟨gb168, 7, none⟩ = some (.int .i64 0) := (blk_cell BK168.out 7).trans rfl; have hfz14_0 := blk_frozen BK168.out 0; have hfz14_1 := blk_frozen BK168.out 1; have hfz14_2 := blk_frozen BK168.out 2; have hfz14_3 := blk_frozen BK168.out 3; have hfz14_4 := blk_frozen BK168.out 4; have hfz14_5 := blk_frozen BK168.out 5; have hfz14_6 := blk_frozen BK168.out 6; have hfz14_7 := blk_frozen BK168.out 7))
 (try simp only [Act.put, List.setIfInBounds_toArray, List.set_cons_zero, List.set_cons_succ])
 go_cut [22] (fun v22 wc => ∃ (kq : Nat) (x22_2 : Bool), v22 = .bool x22_2 ∧ Aside0 (span_Union.j0 kq x22_2 a0_0 a0_1 a0_2 a0_3 a0_4 a0_5 a0_6 a0_7 a1_0 a1_1 a1_2 a1_3 a1_4 a1_5 a1_6 a1_7 a0_0 a0_1 a0_2 a0_3 a0_4 a0_5 a0_6 a0_7 = some (r1, r2, r3, r4, r5, r6, r7, r8)) ∧ Aside0 (kq ≤ k) ∧ Aside0 (wc.heap[gb165]? = some (.cells #[.int .i64 a0_0, .int .i64 a0_1, .string a0_2, .int .i64 a0_3, .int .i64 a0_4, .string a0_5, .int .i64 a0_6, .int .i64 a0_7] 106 (0, 0))) ∧ Aside0 (wc.heap[gb166]? = some (.cells #[.int .i64 a1_0, .int .i64 a1_1, .string a1_2, .int .i64 a1_3, .int .i64 a1_4, .string a1_5, .int .i64 a1_6, .int .i64 a1_7] 106 (0, 0))) ∧ Aside0 (wc.heap[gb167]? = some (.cells #[.int .i64 0, .int .i64 0, .string (⟨#[]⟩ : ByteArray), .int .i64 0, .int .i64 0, .string (⟨#[]⟩ : ByteArray), .int .i64 0, .int .i64 0] 106 (0, 0))) ∧ Aside0 (wc.heap[gb168]? = some (.cells #[.int .i64 a0_0, .int .i64 a0_1, .string a0_2, .int .i64 a0_3, .int .i64 a0_4, .string a0_5, .int .i64 a0_6, .int .i64 a0_7] 106 (0, 0))) ∧ Aside0 (Below w.heap.size w wc))
 case first =>
  have H := HC3.out
  clear HC3
  by_cases c15 : a0_6 = 0
  ·rw [if_pos c15] at H
   have c15b0 : (a0_6 == 0) = true := beq_iff_eq.mpr c15
   have c15b1 : (a0_6 != 0) = false := bne_eq_false_iff_eq.mpr c15
   clear c15
   (first | rw [c15b0] | (simp only [i64_w, i32_w]; rw [c15b0]) | skip)
   have H' := am_ H
   clear H
   have hnb16 := NB165_166.out
   have hnc16 := NB166_165.out
   have hnb17 := NB165_167.out
   have hnc17 := NB167_165.out
   have hnb18 := NB165_168.out
   have hnc18 := NB168_165.out
   have hcz19_0 : w10.cell? ⟨gb165, 0, none⟩ = some (.int .i64 a0_0) := (blk_cell BK165.out 0).trans rfl
   have hcz19_1 : w10.cell? ⟨gb165, 1, none⟩ = some (.int .i64 a0_1) := (blk_cell BK165.out 1).trans rfl
   have hcz19_2 : w10.cell? ⟨gb165, 2, none⟩ = some (.string a0_2) := (blk_cell BK165.out 2).trans rfl
   have hcz19_3 : w10.cell? ⟨gb165, 3, none⟩ = some (.int .i64 a0_3) := (blk_cell BK165.out 3).trans rfl
   have hcz19_4 : w10.cell? ⟨gb165, 4, none⟩ = some (.int .i64 a0_4) := (blk_cell BK165.out 4).trans rfl
   have hcz19_5 : w10.cell? ⟨gb165, 5, none⟩ = some (.string a0_5) := (blk_cell BK165.out 5).trans rfl
   have hcz19_6 : w10.cell? ⟨gb165, 6, none⟩ = some (.int .i64 a0_6) := (blk_cell BK165.out 6).trans rfl
   have hcz19_7 : w10.cell? ⟨gb165, 7, none⟩ = some (.int .i64 a0_7) := (blk_cell BK165.out 7).trans rfl
   have hfz19_0 := blk_frozen BK165.out 0
   have hfz19_1 := blk_frozen BK165.out 1
   have hfz19_2 := blk_frozen BK165.out 2
   have hfz19_3 := blk_frozen BK165.out 3
   have hfz19_4 := blk_frozen BK165.out 4
   have hfz19_5 := blk_frozen BK165.out 5
   have hfz19_6 := blk_frozen BK165.out 6
   have hfz19_7 := blk_frozen BK165.out 7
   go_wp2
   go_meet
   case rel => exact ⟨_, (true), (rs_), H', ⟨by first | omega | exact Nat.le_refl _⟩, ⟨by refine bp_ ?_; refine blk_far ?_ NB165_168.out _; refine bp_ ?_; refine blk_far ?_ NB165_168.out _; refine bp_ ?_; refine blk_far ?_ NB165_168.out _; refine bp_ ?_; refine blk_far ?_ NB165_168.out _; refine bp_ ?_; refine blk_far ?_ NB165_168.out _; refine bp_ ?_; refine blk_far ?_ NB165_168.out _; refine bp_ ?_; refine blk_far ?_ NB165_168.out _; refine bp_ ?_; refine blk_far ?_ NB165_168.out _; refine bp_ ?_; exact BK165.out⟩, ⟨by refine bp_ ?_; refine blk_far ?_ NB166_168.out _; refine bp_ ?_; refine blk_far ?_ NB166_168.out _; refine bp_ ?_; refine blk_far ?_ NB166_168.out _; refine bp_ ?_; refine blk_far ?_ NB166_168.out _; refine bp_ ?_; refine blk_far ?_ NB166_168.out _; refine bp_ ?_; refine blk_far ?_ NB166_168.out _; refine bp_ ?_; refine blk_far ?_ NB166_168.out _; refine bp_ ?_; refine blk_far ?_ NB166_168.out _; refine bp_ ?_; exact BK166.out⟩, ⟨by refine bp_ ?_; refine blk_far ?_ NB167_168.out _; refine bp_ ?_; refine blk_far ?_ NB167_168.out _; refine bp_ ?_; refine blk_far ?_ NB167_168.out _; refine bp_ ?_; refine blk_far ?_ NB167_168.out _; refine bp_ ?_; refine blk_far ?_ NB167_168.out _; refine bp_ ?_; refine blk_far ?_ NB167_168.out _; refine bp_ ?_; refine blk_far ?_ NB167_168.out _; refine bp_ ?_; refine blk_far ?_ NB167_168.out _; refine bp_ ?_; exact BK167.out⟩, ⟨by refine bp_ ?_; refine blk_put (cs := #[.int .i64 a0_0, .int .i64 a0_1, .string a0_2, .int .i64 a0_3, .int .i64 a0_4, .string a0_5, .int .i64 a0_6, .int .i64 0]) ?_ 7 _ rfl; refine bp_ ?_; refine blk_put (cs := #[.int .i64 a0_0, .int .i64 a0_1, .string a0_2, .int .i64 a0_3, .int .i64 a0_4, .string a0_5, .int .i64 0, .int .i64 0]) ?_ 6 _ rfl; refine bp_ ?_; refine blk_put (cs := #[.int .i64 a0_0, .int .i64 a0_1, .string a0_2, .int .i64 a0_3, .int .i64 a0_4, .string (⟨#[]⟩ : ByteArray), .int .i64 0, .int .i64 0]) ?_ 5 _ rfl; refine bp_ ?_; refine blk_put (cs := #[.int .i64 a0_0, .int .i64 a0_1, .string a0_2, .int .i64 a0_3, .int .i64 0, .string (⟨#[]⟩ : ByteArray), .int .i64 0, .int .i64 0]) ?_ 4 _ rfl; refine bp_ ?_; refine blk_put (cs := #[.int .i64 a0_0, .int .i64 a0_1, .string a0_2, .int .i64 0, .int .i64 0, .string (⟨#[]⟩ : ByteArray), .int .i64 0, .int .i64 0]) ?_ 3 _ rfl; refine bp_ ?_; refine blk_put (cs := #[.int .i64 a0_0, .int .i64 a0_1, .string (⟨#[]⟩ : ByteArray), .int .i64 0, .int .i64 0, .string (⟨#[]⟩ : ByteArray), .int .i64 0, .int .i64 0]) ?_ 2 _ rfl; refine bp_ ?_; refine blk_put (cs := #[.int .i64 a0_0, .int .i64 0, .string (⟨#[]⟩ : ByteArray), .int .i64 0, .int .i64 0, .string (⟨#[]⟩ : ByteArray), .int .i64 0, .int .i64 0]) ?_ 1 _ rfl; refine bp_ ?_; refine blk_put (cs := #[.int .i64 0, .int .i64 0, .string (⟨#[]⟩ : ByteArray), .int .i64 0, .int .i64 0, .string (⟨#[]⟩ : ByteArray), .int .i64 0, .int .i64 0]) ?_ 0 _ rfl; refine bp_ ?_; exact BK168.out⟩, ⟨bl_⟩⟩
  ·rw [if_neg c15] at H
   have c15b0 : (a0_6 == 0) = false := beq_eq_false_iff_ne.mpr c15
   have c15b1 : (a0_6 != 0) = true := bne_iff_ne.mpr c15
   (first | rw [c15b0] | (simp only [i64_w, i32_w]; rw [c15b0]) | skip)
   by_cases c20 : a1_6 > 0
   ·rw [if_pos c20] at H
    have c20b0 : decide (0 < a1_6) = true := decide_eq_true c20
    clear c20
    replace H := Option.bind_eq_some_iff.mp H
    obtain ⟨t169, A210, H⟩ := H
    replace H : (span_Union.j0 k (decide (t169 < 0)) a0_0 a0_1 a0_2 a0_3 a0_4 a0_5 a0_6 a0_7 a1_0 a1_1 a1_2 a1_3 a1_4 a1_5 a1_6 a1_7 a0_0 a0_1 a0_2 a0_3 a0_4 a0_5 a0_6 a0_7) = some (r1, r2, r3, r4, r5, r6, r7, r8) := H
    have A21 := am_ A210
    clear A210
    have H' := am_ H
    clear H
    have hnb22 := NB165_166.out
    have hnc22 := NB166_165.out
    have hnb23 := NB165_167.out
    have hnc23 := NB167_165.out
    have hnb24 := NB165_168.out
    have hnc24 := NB168_165.out
    have hcz25_0 : w10.cell? ⟨gb165, 0, none⟩ = some (.int .i64 a0_0) := (blk_cell BK165.out 0).trans rfl
    have hcz25_1 : w10.cell? ⟨gb165, 1, none⟩ = some (.int .i64 a0_1) := (blk_cell BK165.out 1).trans rfl
    have hcz25_2 : w10.cell? ⟨gb165, 2, none⟩ = some (.string a0_2) := (blk_cell BK165.out 2).trans rfl
    have hcz25_3 : w10.cell? ⟨gb165, 3, none⟩ = some (.int .i64 a0_3) := (blk_cell BK165.out 3).trans rfl
    have hcz25_4 : w10.cell? ⟨gb165, 4, none⟩ = some (.int .i64 a0_4) := (blk_cell BK165.out 4).trans rfl
    have hcz25_5 : w10.cell? ⟨gb165, 5, none⟩ = some (.string a0_5) := (blk_cell BK165.out 5).trans rfl
    have hcz25_6 : w10.cell? ⟨gb165, 6, none⟩ = some (.int .i64 a0_6) := (blk_cell BK165.out 6).trans rfl
    have hcz25_7 : w10.cell? ⟨gb165, 7, none⟩ = some (.int .i64 a0_7) := (blk_cell BK165.out 7).trans rfl
    have hfz25_0 := blk_frozen BK165.out 0
    have hfz25_1 := blk_frozen BK165.out 1
    have hfz25_2 := blk_frozen BK165.out 2
    have hfz25_3 := blk_frozen BK165.out 3
    have hfz25_4 := blk_frozen BK165.out 4
    have hfz25_5 := blk_frozen BK165.out 5
    have hfz25_6 := blk_frozen BK165.out 6
    have hfz25_7 := blk_frozen BK165.out 7
    have hnb26 := NB166_167.out
    have hnc26 := NB167_166.out
    have hnb27 := NB166_168.out
    have hnc27 := NB168_166.out
    have hcz28_0 : w10.cell? ⟨gb166, 0, none⟩ = some (.int .i64 a1_0) := (blk_cell BK166.out 0).trans rfl
    have hcz28_1 : w10.cell? ⟨gb166, 1, none⟩ = some (.int .i64 a1_1) := (blk_cell BK166.out 1).trans rfl
    have hcz28_2 : w10.cell? ⟨gb166, 2, none⟩ = some (.string a1_2) := (blk_cell BK166.out 2).trans rfl
    have hcz28_3 : w10.cell? ⟨gb166, 3, none⟩ = some (.int .i64 a1_3) := (blk_cell BK166.out 3).trans rfl
    have hcz28_4 : w10.cell? ⟨gb166, 4, none⟩ = some (.int .i64 a1_4) := (blk_cell BK166.out 4).trans rfl
    have hcz28_5 : w10.cell? ⟨gb166, 5, none⟩ = some (.string a1_5) := (blk_cell BK166.out 5).trans rfl
    have hcz28_6 : w10.cell? ⟨gb166, 6, none⟩ = some (.int .i64 a1_6) := (blk_cell BK166.out 6).trans rfl
    have hcz28_7 : w10.cell? ⟨gb166, 7, none⟩ = some (.int .i64 a1_7) := (blk_cell BK166.out 7).trans rfl
    have hfz28_0 := blk_frozen BK166.out 0
    have hfz28_1 := blk_frozen BK166.out 1
    have hfz28_2 := blk_frozen BK166.out 2
    have hfz28_3 := blk_frozen BK166.out 3
    have hfz28_4 := blk_frozen BK166.out 4
    have hfz28_5 := blk_frozen BK166.out 5
    have hfz28_6 := blk_frozen BK166.out 6
    have hfz28_7 := blk_frozen BK166.out 7
    go_wp2_with (first | (go_at_call 111; (with_reducible refine (val_Order.calls k a1_0 a1_1 a1_2 a0_0 a0_1 a0_2 t169 _ A21.out).mono ?_); rintro e w29 ⟨rfl, hb⟩; replace BK165 := am_ (blk_below (g := gb165) (o := .cells #[.int .i64 a0_0, .int .i64 a0_1, .string a0_2, .int .i64 a0_3, .int .i64 a0_4, .string a0_5, .int .i64 a0_6, .int .i64 a0_7] 106 (0, 0)) (by refine bp_ ?_; refine blk_far ?_ NB165_168.out _; refine bp_ ?_; refine blk_far ?_ NB165_168.out _; refine bp_ ?_; refine blk_far ?_ NB165_168.out _; refine bp_ ?_; refine blk_far ?_ NB165_168.out _; refine bp_ ?_; refine blk_far ?_ NB165_168.out _; refine bp_ ?_; refine blk_far ?_ NB165_168.out _; refine bp_ ?_; refine blk_far ?_ NB165_168.out _; refine bp_ ?_; refine blk_far ?_ NB165_168.out _; refine bp_ ?_; exact BK165.out) hb); replace BK166 := am_ (blk_below (g := gb166) (o := .cells #[.int .i64 a1_0, .int .i64 a1_1, .string a1_2, .int .i64 a1_3, .int .i64 a1_4, .string a1_5, .int .i64 a1_6, .int .i64 a1_7] 106 (0, 0)) (by refine bp_ ?_; refine blk_far ?_ NB166_168.out _; refine bp_ ?_; refine blk_far ?_ NB166_168.out _; refine bp_ ?_; refine blk_far ?_ NB166_168.out _; refine bp_ ?_; refine blk_far ?_ NB166_168.out _; refine bp_ ?_; refine blk_far ?_ NB166_168.out _; refine bp_ ?_; refine blk_far ?_ NB166_168.out _; refine bp_ ?_; refine blk_far ?_ NB166_168.out _; refine bp_ ?_; refine blk_far ?_ NB166_168.out _; refine bp_ ?_; exact BK166.out) hb); replace BK167 := am_ (blk_below (g := gb167) (o := .cells #[.int .i64 0, .int .i64 0, .string (⟨#[]⟩ : ByteArray), .int .i64 0, .int .i64 0, .string (⟨#[]⟩ : ByteArray), .int .i64 0, .int .i64 0] 106 (0, 0)) (by refine bp_ ?_; refine blk_far ?_ NB167_168.out _; refine bp_ ?_; refine blk_far ?_ NB167_168.out _; refine bp_ ?_; refine blk_far ?_ NB167_168.out _; refine bp_ ?_; refine blk_far ?_ NB167_168.out _; refine bp_ ?_; refine blk_far ?_ NB167_168.out _; refine bp_ ?_; refine blk_far ?_ NB167_168.out _; refine bp_ ?_; refine blk_far ?_ NB167_168.out _; refine bp_ ?_; refine blk_far ?_ NB167_168.out _; refine bp_ ?_; exact BK167.out) hb); replace BK168 := am_ (blk_below (g := gb168) (o := .cells #[.int .i64 a0_0, .int .i64 a0_1, .string a0_2, .int .i64 a0_3, .int .i64 a0_4, .string a0_5, .int .i64 a0_6, .int .i64 a0_7] 106 (0, 0)) (by refine bp_ ?_; refine blk_put (cs := #[.int .i64 a0_0, .int .i64 a0_1, .string a0_2, .int .i64 a0_3, .int .i64 a0_4, .string a0_5, .int .i64 a0_6, .int .i64 0]) ?_ 7 _ rfl; refine bp_ ?_; refine blk_put (cs := #[.int .i64 a0_0, .int .i64 a0_1, .string a0_2, .int .i64 a0_3, .int .i64 a0_4, .string a0_5, .int .i64 0, .int .i64 0]) ?_ 6 _ rfl; refine bp_ ?_; refine blk_put (cs := #[.int .i64 a0_0, .int .i64 a0_1, .string a0_2, .int .i64 a0_3, .int .i64 a0_4, .string (⟨#[]⟩ : ByteArray), .int .i64 0, .int .i64 0]) ?_ 5 _ rfl; refine bp_ ?_; refine blk_put (cs := #[.int .i64 a0_0, .int .i64 a0_1, .string a0_2, .int .i64 a0_3, .int .i64 0, .string (⟨#[]⟩ : ByteArray), .int .i64 0, .int .i64 0]) ?_ 4 _ rfl; refine bp_ ?_; refine blk_put (cs := #[.int .i64 a0_0, .int .i64 a0_1, .string a0_2, .int .i64 0, .int .i64 0, .string (⟨#[]⟩ : ByteArray), .int .i64 0, .int .i64 0]) ?_ 3 _ rfl; refine bp_ ?_; refine blk_put (cs := #[.int .i64 a0_0, .int .i64 a0_1, .string (⟨#[]⟩ : ByteArray), .int .i64 0, .int .i64 0, .string (⟨#[]⟩ : ByteArray), .int .i64 0, .int .i64 0]) ?_ 2 _ rfl; refine bp_ ?_; refine blk_put (cs := #[.int .i64 a0_0, .int .i64 0, .string (⟨#[]⟩ : ByteArray), .int .i64 0, .int .i64 0, .string (⟨#[]⟩ : ByteArray), .int .i64 0, .int .i64 0]) ?_ 1 _ rfl; refine bp_ ?_; refine blk_put (cs := #[.int .i64 0, .int .i64 0, .string (⟨#[]⟩ : ByteArray), .int .i64 0, .int .i64 0, .string (⟨#[]⟩ : ByteArray), .int .i64 0, .int .i64 0]) ?_ 0 _ rfl; refine bp_ ?_; exact BK168.out) hb); replace HB := am_ (below_step (bl_) hb); (try clear hb); (try clear hb2); (try clear hk); (try clear hi)))
    go_meet
    case rel => exact ⟨_, (decide (t169 < 0)), (rs_), H', ⟨by first | omega | exact Nat.le_refl _⟩, ⟨bk_ BK165.out⟩, ⟨bk_ BK166.out⟩, ⟨bk_ BK167.out⟩, ⟨bk_ BK168.out⟩, ⟨bl_⟩⟩
   ·rw [if_neg c20] at H
    have c20b0 : decide (0 < a1_6) = false := decide_eq_false c20
    clear c20
    have H' := am_ H
    clear H
    have hnb30 := NB165_166.out
    have hnc30 := NB166_165.out
    have hnb31 := NB165_167.out
    have hnc31 := NB167_165.out
    have hnb32 := NB165_168.out
    have hnc32 := NB168_165.out
    have hcz33_0 : w10.cell? ⟨gb165, 0, none⟩ = some (.int .i64 a0_0) := (blk_cell BK165.out 0).trans rfl
    have hcz33_1 : w10.cell? ⟨gb165, 1, none⟩ = some (.int .i64 a0_1) := (blk_cell BK165.out 1).trans rfl
    have hcz33_2 : w10.cell? ⟨gb165, 2, none⟩ = some (.string a0_2) := (blk_cell BK165.out 2).trans rfl
    have hcz33_3 : w10.cell? ⟨gb165, 3, none⟩ = some (.int .i64 a0_3) := (blk_cell BK165.out 3).trans rfl
    have hcz33_4 : w10.cell? ⟨gb165, 4, none⟩ = some (.int .i64 a0_4) := (blk_cell BK165.out 4).trans rfl
    have hcz33_5 : w10.cell? ⟨gb165, 5, none⟩ = some (.string a0_5) := (blk_cell BK165.out 5).trans rfl
    have hcz33_6 : w10.cell? ⟨gb165, 6, none⟩ = some (.int .i64 a0_6) := (blk_cell BK165.out 6).trans rfl
    have hcz33_7 : w10.cell? ⟨gb165, 7, none⟩ = some (.int .i64 a0_7) := (blk_cell BK165.out 7).trans rfl
    have hfz33_0 := blk_frozen BK165.out 0
    have hfz33_1 := blk_frozen BK165.out 1
    have hfz33_2 := blk_frozen BK165.out 2
    have hfz33_3 := blk_frozen BK165.out 3
    have hfz33_4 := blk_frozen BK165.out 4
    have hfz33_5 := blk_frozen BK165.out 5
    have hfz33_6 := blk_frozen BK165.out 6
    have hfz33_7 := blk_frozen BK165.out 7
    have hnb34 := NB166_167.out
    have hnc34 := NB167_166.out
    have hnb35 := NB166_168.out
    have hnc35 := NB168_166.out
    have hcz36_0 : w10.cell? ⟨gb166, 0, none⟩ = some (.int .i64 a1_0) := (blk_cell BK166.out 0).trans rfl
    have hcz36_1 : w10.cell? ⟨gb166, 1, none⟩ = some (.int .i64 a1_1) := (blk_cell BK166.out 1).trans rfl
    have hcz36_2 : w10.cell? ⟨gb166, 2, none⟩ = some (.string a1_2) := (blk_cell BK166.out 2).trans rfl
    have hcz36_3 : w10.cell? ⟨gb166, 3, none⟩ = some (.int .i64 a1_3) := (blk_cell BK166.out 3).trans rfl
    have hcz36_4 : w10.cell? ⟨gb166, 4, none⟩ = some (.int .i64 a1_4) := (blk_cell BK166.out 4).trans rfl
    have hcz36_5 : w10.cell? ⟨gb166, 5, none⟩ = some (.string a1_5) := (blk_cell BK166.out 5).trans rfl
    have hcz36_6 : w10.cell? ⟨gb166, 6, none⟩ = some (.int .i64 a1_6) := (blk_cell BK166.out 6).trans rfl
    have hcz36_7 : w10.cell? ⟨gb166, 7, none⟩ = some (.int .i64 a1_7) := (blk_cell BK166.out 7).trans rfl
    have hfz36_0 := blk_frozen BK166.out 0
    have hfz36_1 := blk_frozen BK166.out 1
    have hfz36_2 := blk_frozen BK166.out 2
    have hfz36_3 := blk_frozen BK166.out 3
    have hfz36_4 := blk_frozen BK166.out 4
    have hfz36_5 := blk_frozen BK166.out 5
    have hfz36_6 := blk_frozen BK166.out 6
    have hfz36_7 := blk_frozen BK166.out 7
    go_wp2
    go_meet
    case rel => exact ⟨_, (false), (rs_), H', ⟨by first | omega | exact Nat.le_refl _⟩, ⟨by refine bp_ ?_; refine blk_far ?_ NB165_168.out _; refine bp_ ?_; refine blk_far ?_ NB165_168.out _; refine bp_ ?_; refine blk_far ?_ NB165_168.out _; refine bp_ ?_; refine blk_far ?_ NB165_168.out _; refine bp_ ?_; refine blk_far ?_ NB165_168.out _; refine bp_ ?_; refine blk_far ?_ NB165_168.out _; refine bp_ ?_; refine blk_far ?_ NB165_168.out _; refine bp_ ?_; refine blk_far ?_ NB165_168.out _; refine bp_ ?_; exact BK165.out⟩, ⟨by refine bp_ ?_; refine blk_far ?_ NB166_168.out _; refine bp_ ?_; refine blk_far ?_ NB166_168.out _; refine bp_ ?_; refine blk_far ?_ NB166_168.out _; refine bp_ ?_; refine blk_far ?_ NB166_168.out _; refine bp_ ?_; refine blk_far ?_ NB166_168.out _; refine bp_ ?_; refine blk_far ?_ NB166_168.out _; refine bp_ ?_; refine blk_far ?_ NB166_168.out _; refine bp_ ?_; refine blk_far ?_ NB166_168.out _; refine bp_ ?_; exact BK166.out⟩, ⟨by refine bp_ ?_; refine blk_far ?_ NB167_168.out _; refine bp_ ?_; refine blk_far ?_ NB167_168.out _; refine bp_ ?_; refine blk_far ?_ NB167_168.out _; refine bp_ ?_; refine blk_far ?_ NB167_168.out _; refine bp_ ?_; refine blk_far ?_ NB167_168.out _; refine bp_ ?_; refine blk_far ?_ NB167_168.out _; refine bp_ ?_; refine blk_far ?_ NB167_168.out _; refine bp_ ?_; refine blk_far ?_ NB167_168.out _; refine bp_ ?_; exact BK167.out⟩, ⟨by refine bp_ ?_; refine blk_put (cs := #[.int .i64 a0_0, .int .i64 a0_1, .string a0_2, .int .i64 a0_3, .int .i64 a0_4, .string a0_5, .int .i64 a0_6, .int .i64 0]) ?_ 7 _ rfl; refine bp_ ?_; refine blk_put (cs := #[.int .i64 a0_0, .int .i64 a0_1, .string a0_2, .int .i64 a0_3, .int .i64 a0_4, .string a0_5, .int .i64 0, .int .i64 0]) ?_ 6 _ rfl; refine bp_ ?_; refine blk_put (cs := #[.int .i64 a0_0, .int .i64 a0_1, .string a0_2, .int .i64 a0_3, .int .i64 a0_4, .string (⟨#[]⟩ : ByteArray), .int .i64 0, .int .i64 0]) ?_ 5 _ rfl; refine bp_ ?_; refine blk_put (cs := #[.int .i64 a0_0, .int .i64 a0_1, .string a0_2, .int .i64 a0_3, .int .i64 0, .string (⟨#[]⟩ : ByteArray), .int .i64 0, .int .i64 0]) ?_ 4 _ rfl; refine bp_ ?_; refine blk_put (cs := #[.int .i64 a0_0, .int .i64 a0_1, .string a0_2, .int .i64 0, .int .i64 0, .string (⟨#[]⟩ : ByteArray), .int .i64 0, .int .i64 0]) ?_ 3 _ rfl; refine bp_ ?_; refine blk_put (cs := #[.int .i64 a0_0, .int .i64 a0_1, .string (⟨#[]⟩ : ByteArray), .int .i64 0, .int .i64 0, .string (⟨#[]⟩ : ByteArray), .int .i64 0, .int .i64 0]) ?_ 2 _ rfl; refine bp_ ?_; refine blk_put (cs := #[.int .i64 a0_0, .int .i64 0, .string (⟨#[]⟩ : ByteArray), .int .i64 0, .int .i64 0, .string (⟨#[]⟩ : ByteArray), .int .i64 0, .int .i64 0]) ?_ 1 _ rfl; refine bp_ ?_; refine blk_put (cs := #[.int .i64 0, .int .i64 0, .string (⟨#[]⟩ : ByteArray), .int .i64 0, .int .i64 0, .string (⟨#[]⟩ : ByteArray), .int .i64 0, .int .i64 0]) ?_ 0 _ rfl; refine bp_ ?_; exact BK168.out⟩, ⟨bl_⟩⟩
 case rest =>
  clear HC3
  try clear c1
  try clear c2
  try clear p2
  try clear c3
  try clear c7
  try clear c8
  try clear c11
  try clear c12
  try clear c13
  try clear c15
  try clear c15b0
  try clear c15b1
  try clear c16
  try clear c17
  try clear c18
  try clear c20
  try clear c20b0
  try clear c22
  try clear c23
  try clear c24
  try clear c26
  try clear c27
  try clear c30
  try clear c31
  try clear c32
  try clear c34
  try clear c35
  try clear hcz14_0
  try clear hcz14_1
  try clear hcz14_2
  try clear hcz14_3
  try clear hcz14_4
  try clear hcz14_5
  try clear hcz14_6
  try clear hcz14_7
  try clear hcz19_0
  try clear hcz19_1
  try clear hcz19_2
  try clear hcz19_3
  try clear hcz19_4
  try clear hcz19_5
  try clear hcz19_6
  try clear hcz19_7
  try clear hcz25_0
  try clear hcz25_1
  try clear hcz25_2
  try clear hcz25_3
  try clear hcz25_4
  try clear hcz25_5
  try clear hcz25_6
  try clear hcz25_7
  try clear hcz28_0
  try clear hcz28_1
  try clear hcz28_2
  try clear hcz28_3
  try clear hcz28_4
  try clear hcz28_5
  try clear hcz28_6
  try clear hcz28_7
  try clear hcz33_0
  try clear hcz33_1
  try clear hcz33_2
  try clear hcz33_3
  try clear hcz33_4
  try clear hcz33_5
  try clear hcz33_6
  try clear hcz33_7
  try clear hcz36_0
  try clear hcz36_1
  try clear hcz36_2
  try clear hcz36_3
  try clear hcz36_4
  try clear hcz36_5
  try clear hcz36_6
  try clear hcz36_7
  try clear hcz9_0
  try clear hcz9_1
  try clear hcz9_2
  try clear hcz9_3
  try clear hcz9_4
  try clear hcz9_5
  try clear hcz9_6
  try clear hcz9_7
  try clear hfz14_0
  try clear hfz14_1
  try clear hfz14_2
  try clear hfz14_3
  try clear hfz14_4
  try clear hfz14_5
  try clear hfz14_6
  try clear hfz14_7
  try clear hfz19_0
  try clear hfz19_1
  try clear hfz19_2
  try clear hfz19_3
  try clear hfz19_4
  try clear hfz19_5
  try clear hfz19_6
  try clear hfz19_7
  try clear hfz25_0
  try clear hfz25_1
  try clear hfz25_2
  try clear hfz25_3
  try clear hfz25_4
  try clear hfz25_5
  try clear hfz25_6
  try clear hfz25_7
  try clear hfz28_0
  try clear hfz28_1
  try clear hfz28_2
  try clear hfz28_3
  try clear hfz28_4
  try clear hfz28_5
  try clear hfz28_6
  try clear hfz28_7
  try clear hfz33_0
  try clear hfz33_1
  try clear hfz33_2
  try clear hfz33_3
  try clear hfz33_4
  try clear hfz33_5
  try clear hfz33_6
  try clear hfz33_7
  try clear hfz36_0
  try clear hfz36_1
  try clear hfz36_2
  try clear hfz36_3
  try clear hfz36_4
  try clear hfz36_5
  try clear hfz36_6
  try clear hfz36_7
  try clear hfz9_0
  try clear hfz9_1
  try clear hfz9_2
  try clear hfz9_3
  try clear hfz9_4
  try clear hfz9_5
  try clear hfz9_6
  try clear hfz9_7
  obtain ⟨kq, x22_2, rfl, HA, HJ2, BK165, BK166, BK167, BK168, HB⟩ := hcut
  cases kq with
  | zero => exact absurd HA.out (by simp [span_Union.j0])
  | succ kj2 =>
   have H := HA.out
   clear HA
   simp only [span_Union.j0] at H
   have HC37 := am_ H
   clear H
   go_upto_if 22 with (fail)
   go_cut [] (fun wc => ∃ (kq : Nat) (x169000_36 : Int) (x169001_36 : Int) (x169002_36 : ByteArray), Aside0 (span_Union.j1 kq a0_0 a0_1 a0_2 a0_3 a0_4 a0_5 a0_6 a0_7 a1_0 a1_1 a1_2 a1_3 a1_4 a1_5 a1_6 a1_7 x169000_36 x169001_36 x169002_36 a0_3 a0_4 a0_5 a0_6 a0_7 = some (r1, r2, r3, r4, r5, r6, r7, r8)) ∧ Aside0 (kq ≤ kj2) ∧ Aside0 (wc.heap[gb165]? = some (.cells #[.int .i64 a0_0, .int .i64 a0_1, .string a0_2, .int .i64 a0_3, .int .i64 a0_4, .string a0_5, .int .i64 a0_6, .int .i64 a0_7] 106 (0, 0))) ∧ Aside0 (wc.heap[gb166]? = some (.cells #[.int .i64 a1_0, .int .i64 a1_1, .string a1_2, .int .i64 a1_3, .int .i64 a1_4, .string a1_5, .int .i64 a1_6, .int .i64 a1_7] 106 (0, 0))) ∧ Aside0 (wc.heap[gb167]? = some (.cells #[.int .i64 0, .int .i64 0, .string (⟨#[]⟩ : ByteArray), .int .i64 0, .int .i64 0, .string (⟨#[]⟩ : ByteArray), .int .i64 0, .int .i64 0] 106 (0, 0))) ∧ Aside0 (wc.heap[gb168]? = some (.cells #[.int .i64 x169000_36, .int .i64 x169001_36, .string x169002_36, .int .i64 a0_3, .int .i64 a0_4, .string a0_5, .int .i64 a0_6, .int .i64 a0_7] 106 (0, 0))) ∧ Aside0 (Below w.heap.size w wc))
   case first =>
    have H := HC37.out
    clear HC37
    by_cases c38 : x22_2 = true
    ·subst c38
     have H1 : (span_Union.j1 kj2 a0_0 a0_1 a0_2 a0_3 a0_4 a0_5 a0_6 a0_7 a1_0 a1_1 a1_2 a1_3 a1_4 a1_5 a1_6 a1_7 a1_0 a1_1 a1_2 a0_3 a0_4 a0_5 a0_6 a0_7) = some (r1, r2, r3, r4, r5, r6, r7, r8) := by rw [if_pos rfl] at H; exact H
     clear H
     have H := H1
     clear H1
     have H' := am_ H
     clear H
     have hnb39 := NB166_165.out
     have hnc39 := NB165_166.out
     have hnb40 := NB166_167.out
     have hnc40 := NB167_166.out
     have hnb41 := NB166_168.out
     have hnc41 := NB168_166.out
     have hcz42_0 : wc.cell? ⟨gb166, 0, none⟩ = some (.int .i64 a1_0) := (blk_cell BK166.out 0).trans rfl
     have hcz42_1 : wc.cell? ⟨gb166, 1, none⟩ = some (.int .i64 a1_1) := (blk_cell BK166.out 1).trans rfl
     have hcz42_2 : wc.cell? ⟨gb166, 2, none⟩ = some (.string a1_2) := (blk_cell BK166.out 2).trans rfl
     have hcz42_3 : wc.cell? ⟨gb166, 3, none⟩ = some (.int .i64 a1_3) := (blk_cell BK166.out 3).trans rfl
     have hcz42_4 : wc.cell? ⟨gb166, 4, none⟩ = some (.int .i64 a1_4) := (blk_cell BK166.out 4).trans rfl
     have hcz42_5 : wc.cell? ⟨gb166, 5, none⟩ = some (.string a1_5) := (blk_cell BK166.out 5).trans rfl
     have hcz42_6 : wc.cell? ⟨gb166, 6, none⟩ = some (.int .i64 a1_6) := (blk_cell BK166.out 6).trans rfl
     have hcz42_7 : wc.cell? ⟨gb166, 7, none⟩ = some (.int .i64 a1_7) := (blk_cell BK166.out 7).trans rfl
     have hfz42_0 := blk_frozen BK166.out 0
     have hfz42_1 := blk_frozen BK166.out 1
     have hfz42_2 := blk_frozen BK166.out 2
     have hfz42_3 := blk_frozen BK166.out 3
     have hfz42_4 := blk_frozen BK166.out 4
     have hfz42_5 := blk_frozen BK166.out 5
     have hfz42_6 := blk_frozen BK166.out 6
     have hfz42_7 := blk_frozen BK166.out 7
     have hnb43 := NB168_165.out
     have hnc43 := NB165_168.out
     have hnb44 := NB168_167.out
     have hnc44 := NB167_168.out
     have hcz45_0 : wc.cell? ⟨gb168, 0, none⟩ = some (.int .i64 a0_0) := (blk_cell BK168.out 0).trans rfl
     have hcz45_1 : wc.cell? ⟨gb168, 1, none⟩ = some (.int .i64 a0_1) := (blk_cell BK168.out 1).trans rfl
     have hcz45_2 : wc.cell? ⟨gb168, 2, none⟩ = some (.string a0_2) := (blk_cell BK168.out 2).trans rfl
     have hcz45_3 : wc.cell? ⟨gb168, 3, none⟩ = some (.int .i64 a0_3) := (blk_cell BK168.out 3).trans rfl
     have hcz45_4 : wc.cell? ⟨gb168, 4, none⟩ = some (.int .i64 a0_4) := (blk_cell BK168.out 4).trans rfl
     have hcz45_5 : wc.cell? ⟨gb168, 5, none⟩ = some (.string a0_5) := (blk_cell BK168.out 5).trans rfl
     have hcz45_6 : wc.cell? ⟨gb168, 6, none⟩ = some (.int .i64 a0_6) := (blk_cell BK168.out 6).trans rfl
     have hcz45_7 : wc.cell? ⟨gb168, 7, none⟩ = some (.int .i64 a0_7) := (blk_cell BK168.out 7).trans rfl
     have hfz45_0 := blk_frozen BK168.out 0
     have hfz45_1 := blk_frozen BK168.out 1
     have hfz45_2 := blk_frozen BK168.out 2
     have hfz45_3 := blk_frozen BK168.out 3
     have hfz45_4 := blk_frozen BK168.out 4
     have hfz45_5 := blk_frozen BK168.out 5
     have hfz45_6 := blk_frozen BK168.out 6
     have hfz45_7 := blk_frozen BK168.out 7
     go_wp2
     go_meet
     case rel => exact ⟨_, (a1_0), (a1_1), (a1_2), H', ⟨by have := HJ2.out; first | omega | exact Nat.le_refl _⟩, ⟨by refine bp_ ?_; refine blk_far ?_ NB165_168.out _; refine bp_ ?_; refine blk_far ?_ NB165_168.out _; refine bp_ ?_; refine blk_far ?_ NB165_168.out _; refine bp_ ?_; exact BK165.out⟩, ⟨by refine bp_ ?_; refine blk_far ?_ NB166_168.out _; refine bp_ ?_; refine blk_far ?_ NB166_168.out _; refine bp_ ?_; refine blk_far ?_ NB166_168.out _; refine bp_ ?_; exact BK166.out⟩, ⟨by refine bp_ ?_; refine blk_far ?_ NB167_168.out _; refine bp_ ?_; refine blk_far ?_ NB167_168.out _; refine bp_ ?_; refine blk_far ?_ NB167_168.out _; refine bp_ ?_; exact BK167.out⟩, ⟨by refine bp_ ?_; refine blk_put (cs := #[.int .i64 a1_0, .int .i64 a1_1, .string a0_2, .int .i64 a0_3, .int .i64 a0_4, .string a0_5, .int .i64 a0_6, .int .i64 a0_7]) ?_ 2 _ rfl; refine bp_ ?_; refine blk_put (cs := #[.int .i64 a1_0, .int .i64 a0_1, .string a0_2, .int .i64 a0_3, .int .i64 a0_4, .string a0_5, .int .i64 a0_6, .int .i64 a0_7]) ?_ 1 _ rfl; refine bp_ ?_; refine blk_put (cs := #[.int .i64 a0_0, .int .i64 a0_1, .string a0_2, .int .i64 a0_3, .int .i64 a0_4, .string a0_5, .int .i64 a0_6, .int .i64 a0_7]) ?_ 0 _ rfl; refine bp_ ?_; exact BK168.out⟩, ⟨bl_⟩⟩
    ·replace c38 := Bool.eq_false_iff.mpr c38
     subst c38
     have H1 : (span_Union.j1 kj2 a0_0 a0_1 a0_2 a0_3 a0_4 a0_5 a0_6 a0_7 a1_0 a1_1 a1_2 a1_3 a1_4 a1_5 a1_6 a1_7 a0_0 a0_1 a0_2 a0_3 a0_4 a0_5 a0_6 a0_7) = some (r1, r2, r3, r4, r5, r6, r7, r8) := by rw [if_neg (show ¬ (false = true) by decide)] at H; exact H
     clear H
     have H := H1
     clear H1
     have H' := am_ H
     clear H
     go_wp2
     go_meet
     case rel => exact ⟨_, (a0_0), (a0_1), (a0_2), H', ⟨by have := HJ2.out; first | omega | exact Nat.le_refl _⟩, ⟨bk_ BK165.out⟩, ⟨bk_ BK166.out⟩, ⟨bk_ BK167.out⟩, ⟨bk_ BK168.out⟩, ⟨bl_⟩⟩
   case rest =>
    clear HC37
    try clear c1
    try clear c2
    try clear p2
    try clear c3
    try clear c4
    try clear c7
    try clear c8
    try clear c11
    try clear c12
    try clear c13
    try clear c15
    try clear c15b0
    try clear c15b1
    try clear c16
    try clear c17
    try clear c18
    try clear c20
    try clear c20b0
    try clear c22
    try clear c23
    try clear c24
    try clear c26
    try clear c27
    try clear c30
    try clear c31
    try clear c32
    try clear c34
    try clear c35
    try clear c38
    try clear c39
    try clear c40
    try clear c41
    try clear c43
    try clear c44
    try clear hcz14_0
    try clear hcz14_1
    try clear hcz14_2
    try clear hcz14_3
    try clear hcz14_4
    try clear hcz14_5
    try clear hcz14_6
    try clear hcz14_7
    try clear hcz19_0
    try clear hcz19_1
    try clear hcz19_2
    try clear hcz19_3
    try clear hcz19_4
    try clear hcz19_5
    try clear hcz19_6
    try clear hcz19_7
    try clear hcz25_0
    try clear hcz25_1
    try clear hcz25_2
    try clear hcz25_3
    try clear hcz25_4
    try clear hcz25_5
    try clear hcz25_6
    try clear hcz25_7
    try clear hcz28_0
    try clear hcz28_1
    try clear hcz28_2
    try clear hcz28_3
    try clear hcz28_4
    try clear hcz28_5
    try clear hcz28_6
    try clear hcz28_7
    try clear hcz33_0
    try clear hcz33_1
    try clear hcz33_2
    try clear hcz33_3
    try clear hcz33_4
    try clear hcz33_5
    try clear hcz33_6
    try clear hcz33_7
    try clear hcz36_0
    try clear hcz36_1
    try clear hcz36_2
    try clear hcz36_3
    try clear hcz36_4
    try clear hcz36_5
    try clear hcz36_6
    try clear hcz36_7
    try clear hcz42_0
    try clear hcz42_1
    try clear hcz42_2
    try clear hcz42_3
    try clear hcz42_4
    try clear hcz42_5
    try clear hcz42_6
    try clear hcz42_7
    try clear hcz45_0
    try clear hcz45_1
    try clear hcz45_2
    try clear hcz45_3
    try clear hcz45_4
    try clear hcz45_5
    try clear hcz45_6
    try clear hcz45_7
    try clear hcz9_0
    try clear hcz9_1
    try clear hcz9_2
    try clear hcz9_3
    try clear hcz9_4
    try clear hcz9_5
    try clear hcz9_6
    try clear hcz9_7
    try clear hfz14_0
    try clear hfz14_1
    try clear hfz14_2
    try clear hfz14_3
    try clear hfz14_4
    try clear hfz14_5
    try clear hfz14_6
    try clear hfz14_7
    try clear hfz19_0
    try clear hfz19_1
    try clear hfz19_2
    try clear hfz19_3
    try clear hfz19_4
    try clear hfz19_5
    try clear hfz19_6
    try clear hfz19_7
    try clear hfz25_0
    try clear hfz25_1
    try clear hfz25_2
    try clear hfz25_3
    try clear hfz25_4
    try clear hfz25_5
    try clear hfz25_6
    try clear hfz25_7
    try clear hfz28_0
    try clear hfz28_1
    try clear hfz28_2
    try clear hfz28_3
    try clear hfz28_4
    try clear hfz28_5
    try clear hfz28_6
    try clear hfz28_7
    try clear hfz33_0
    try clear hfz33_1
    try clear hfz33_2
    try clear hfz33_3
    try clear hfz33_4
    try clear hfz33_5
    try clear hfz33_6
    try clear hfz33_7
    try clear hfz36_0
    try clear hfz36_1
    try clear hfz36_2
    try clear hfz36_3
    try clear hfz36_4
    try clear hfz36_5
    try clear hfz36_6
    try clear hfz36_7
    try clear hfz42_0
    try clear hfz42_1
    try clear hfz42_2
    try clear hfz42_3
    try clear hfz42_4
    try clear hfz42_5
    try clear hfz42_6
    try clear hfz42_7
    try clear hfz45_0
    try clear hfz45_1
    try clear hfz45_2
    try clear hfz45_3
    try clear hfz45_4
    try clear hfz45_5
    try clear hfz45_6
    try clear hfz45_7
    try clear hfz9_0
    try clear hfz9_1
    try clear hfz9_2
    try clear hfz9_3
    try clear hfz9_4
    try clear hfz9_5
    try clear hfz9_6
    try clear hfz9_7
    try clear p2
    obtain ⟨kq, x169000_36, x169001_36, x169002_36, HA, HJ36, BK165, BK166, BK167, BK168, HB⟩ := hcut
    cases kq with
    | zero => exact absurd HA.out (by simp [span_Union.j1])
    | succ kj36 =>
     have H := HA.out
     clear HA
     simp only [span_Union.j1] at H
     have HC46 := am_ H
     clear H
     go_upto_region 4 with (fail)
     go_cut [41] (fun v41 wc => ∃ (kq : Nat) (x41_45 : Bool), v41 = .bool x41_45 ∧ Aside0 (span_Union.j2 kq x41_45 a0_0 a0_1 a0_2 a0_3 a0_4 a0_5 a0_6 a0_7 a1_0 a1_1 a1_2 a1_3 a1_4 a1_5 a1_6 a1_7 x169000_36 x169001_36 x169002_36 a0_3 a0_4 a0_5 a0_6 a0_7 = some (r1, r2, r3, r4, r5, r6, r7, r8)) ∧ Aside0 (kq ≤ kj36) ∧ Aside0 (wc.heap[gb165]? = some (.cells #[.int .i64 a0_0, .int .i64 a0_1, .string a0_2, .int .i64 a0_3, .int .i64 a0_4, .string a0_5, .int .i64 a0_6, .int .i64 a0_7] 106 (0, 0))) ∧ Aside0 (wc.heap[gb166]? = some (.cells #[.int .i64 a1_0, .int .i64 a1_1, .string a1_2, .int .i64 a1_3, .int .i64 a1_4, .string a1_5, .int .i64 a1_6, .int .i64 a1_7] 106 (0, 0))) ∧ Aside0 (wc.heap[gb167]? = some (.cells #[.int .i64 0, .int .i64 0, .string (⟨#[]⟩ : ByteArray), .int .i64 0, .int .i64 0, .string (⟨#[]⟩ : ByteArray), .int .i64 0, .int .i64 0] 106 (0, 0))) ∧ Aside0 (wc.heap[gb168]? = some (.cells #[.int .i64 x169000_36, .int .i64 x169001_36, .string x169002_36, .int .i64 a0_3, .int .i64 a0_4, .string a0_5, .int .i64 a0_6, .int .i64 a0_7] 106 (0, 0))) ∧ Aside0 (Below w.heap.size w wc))
     case first =>
      have H := HC46.out
      clear HC46
      by_cases c47 : a0_6 = 0
      ·rw [if_pos c47] at H
       have c47b0 : (a0_6 == 0) = true := beq_iff_eq.mpr c47
       have c47b1 : (a0_6 != 0) = false := bne_eq_false_iff_eq.mpr c47
       clear c47
       (first | rw [c47b0] | (simp only [i64_w, i32_w]; rw [c47b0]) | skip)
       have H' := am_ H
       clear H
       have hnb48 := NB165_166.out
       have hnc48 := NB166_165.out
       have hnb49 := NB165_167.out
       have hnc49 := NB167_165.out
       have hnb50 := NB165_168.out
       have hnc50 := NB168_165.out
       have hcz51_0 : wc.cell? ⟨gb165, 0, none⟩ = some (.int .i64 a0_0) := (blk_cell BK165.out 0).trans rfl
       have hcz51_1 : wc.cell? ⟨gb165, 1, none⟩ = some (.int .i64 a0_1) := (blk_cell BK165.out 1).trans rfl
       have hcz51_2 : wc.cell? ⟨gb165, 2, none⟩ = some (.string a0_2) := (blk_cell BK165.out 2).trans rfl
       have hcz51_3 : wc.cell? ⟨gb165, 3, none⟩ = some (.int .i64 a0_3) := (blk_cell BK165.out 3).trans rfl
       have hcz51_4 : wc.cell? ⟨gb165, 4, none⟩ = some (.int .i64 a0_4) := (blk_cell BK165.out 4).trans rfl
       have hcz51_5 : wc.cell? ⟨gb165, 5, none⟩ = some (.string a0_5) := (blk_cell BK165.out 5).trans rfl
       have hcz51_6 : wc.cell? ⟨gb165, 6, none⟩ = some (.int .i64 a0_6) := (blk_cell BK165.out 6).trans rfl
       have hcz51_7 : wc.cell? ⟨gb165, 7, none⟩ = some (.int .i64 a0_7) := (blk_cell BK165.out 7).trans rfl
       have hfz51_0 := blk_frozen BK165.out 0
       have hfz51_1 := blk_frozen BK165.out 1
       have hfz51_2 := blk_frozen BK165.out 2
       have hfz51_3 := blk_frozen BK165.out 3
       have hfz51_4 := blk_frozen BK165.out 4
       have hfz51_5 := blk_frozen BK165.out 5
       have hfz51_6 := blk_frozen BK165.out 6
       have hfz51_7 := blk_frozen BK165.out 7
       go_wp2
       go_meet
       case rel => exact ⟨_, (true), (rs_), H', ⟨by have := HJ2.out; have := HJ36.out; first | omega | exact Nat.le_refl _⟩, ⟨bk_ BK165.out⟩, ⟨bk_ BK166.out⟩, ⟨bk_ BK167.out⟩, ⟨bk_ BK168.out⟩, ⟨bl_⟩⟩
      ·rw [if_neg c47] at H
       have c47b0 : (a0_6 == 0) = false := beq_eq_false_iff_ne.mpr c47
       have c47b1 : (a0_6 != 0) = true := bne_iff_ne.mpr c47
       (first | rw [c47b0] | (simp only [i64_w, i32_w]; rw [c47b0]) | skip)
       by_cases c52 : a1_6 > 0
       ·rw [if_pos c52] at H
        have c52b0 : decide (0 < a1_6) = true := decide_eq_true c52
        clear c52
        replace H := Option.bind_eq_some_iff.mp H
        obtain ⟨t170, A530, H⟩ := H
        replace H : (span_Union.j2 kj36 (decide (t170 > 0)) a0_0 a0_1 a0_2 a0_3 a0_4 a0_5 a0_6 a0_7 a1_0 a1_1 a1_2 a1_3 a1_4 a1_5 a1_6 a1_7 x169000_36 x169001_36 x169002_36 a0_3 a0_4 a0_5 a0_6 a0_7) = some (r1, r2, r3, r4, r5, r6, r7, r8) := H
        have A53 := am_ A530
        clear A530
        have H' := am_ H
        clear H
        have hnb54 := NB165_166.out
        have hnc54 := NB166_165.out
        have hnb55 := NB165_167.out
        have hnc55 := NB167_165.out
        have hnb56 := NB165_168.out
        have hnc56 := NB168_165.out
        have hcz57_0 : wc.cell? ⟨gb165, 0, none⟩ = some (.int .i64 a0_0) := (blk_cell BK165.out 0).trans rfl
        have hcz57_1 : wc.cell? ⟨gb165, 1, none⟩ = some (.int .i64 a0_1) := (blk_cell BK165.out 1).trans rfl
        have hcz57_2 : wc.cell? ⟨gb165, 2, none⟩ = some (.string a0_2) := (blk_cell BK165.out 2).trans rfl
        have hcz57_3 : wc.cell? ⟨gb165, 3, none⟩ = some (.int .i64 a0_3) := (blk_cell BK165.out 3).trans rfl
        have hcz57_4 : wc.cell? ⟨gb165, 4, none⟩ = some (.int .i64 a0_4) := (blk_cell BK165.out 4).trans rfl
        have hcz57_5 : wc.cell? ⟨gb165, 5, none⟩ = some (.string a0_5) := (blk_cell BK165.out 5).trans rfl
        have hcz57_6 : wc.cell? ⟨gb165, 6, none⟩ = some (.int .i64 a0_6) := (blk_cell BK165.out 6).trans rfl
        have hcz57_7 : wc.cell? ⟨gb165, 7, none⟩ = some (.int .i64 a0_7) := (blk_cell BK165.out 7).trans rfl
        have hfz57_0 := blk_frozen BK165.out 0
        have hfz57_1 := blk_frozen BK165.out 1
        have hfz57_2 := blk_frozen BK165.out 2
        have hfz57_3 := blk_frozen BK165.out 3
        have hfz57_4 := blk_frozen BK165.out 4
        have hfz57_5 := blk_frozen BK165.out 5
        have hfz57_6 := blk_frozen BK165.out 6
        have hfz57_7 := blk_frozen BK165.out 7
        have hnb58 := NB166_167.out
        have hnc58 := NB167_166.out
        have hnb59 := NB166_168.out
        have hnc59 := NB168_166.out
        have hcz60_0 : wc.cell? ⟨gb166, 0, none⟩ = some (.int .i64 a1_0) := (blk_cell BK166.out 0).trans rfl
        have hcz60_1 : wc.cell? ⟨gb166, 1, none⟩ = some (.int .i64 a1_1) := (blk_cell BK166.out 1).trans rfl
        have hcz60_2 : wc.cell? ⟨gb166, 2, none⟩ = some (.string a1_2) := (blk_cell BK166.out 2).trans rfl
        have hcz60_3 : wc.cell? ⟨gb166, 3, none⟩ = some (.int .i64 a1_3) := (blk_cell BK166.out 3).trans rfl
        have hcz60_4 : wc.cell? ⟨gb166, 4, none⟩ = some (.int .i64 a1_4) := (blk_cell BK166.out 4).trans rfl
        have hcz60_5 : wc.cell? ⟨gb166, 5, none⟩ = some (.string a1_5) := (blk_cell BK166.out 5).trans rfl
        have hcz60_6 : wc.cell? ⟨gb166, 6, none⟩ = some (.int .i64 a1_6) := (blk_cell BK166.out 6).trans rfl
        have hcz60_7 : wc.cell? ⟨gb166, 7, none⟩ = some (.int .i64 a1_7) := (blk_cell BK166.out 7).trans rfl
        have hfz60_0 := blk_frozen BK166.out 0
        have hfz60_1 := blk_frozen BK166.out 1
        have hfz60_2 := blk_frozen BK166.out 2
        have hfz60_3 := blk_frozen BK166.out 3
        have hfz60_4 := blk_frozen BK166.out 4
        have hfz60_5 := blk_frozen BK166.out 5
        have hfz60_6 := blk_frozen BK166.out 6
        have hfz60_7 := blk_frozen BK166.out 7
        go_wp2_with (first | (go_at_call 111; (with_reducible refine (val_Order.calls kj36 a1_3 a1_4 a1_5 a0_3 a0_4 a0_5 t170 _ A53.out).mono ?_); rintro e w61 ⟨rfl, hb⟩; replace BK165 := am_ (blk_below (g := gb165) (o := .cells #[.int .i64 a0_0, .int .i64 a0_1, .string a0_2, .int .i64 a0_3, .int .i64 a0_4, .string a0_5, .int .i64 a0_6, .int .i64 a0_7] 106 (0, 0)) (bk_ BK165.out) hb); replace BK166 := am_ (blk_below (g := gb166) (o := .cells #[.int .i64 a1_0, .int .i64 a1_1, .string a1_2, .int .i64 a1_3, .int .i64 a1_4, .string a1_5, .int .i64 a1_6, .int .i64 a1_7] 106 (0, 0)) (bk_ BK166.out) hb); replace BK167 := am_ (blk_below (g := gb167) (o := .cells #[.int .i64 0, .int .i64 0, .string (⟨#[]⟩ : ByteArray), .int .i64 0, .int .i64 0, .string (⟨#[]⟩ : ByteArray), .int .i64 0, .int .i64 0] 106 (0, 0)) (bk_ BK167.out) hb); replace BK168 := am_ (blk_below (g := gb168) (o := .cells #[.int .i64 x169000_36, .int .i64 x169001_36, .string x169002_36, .int .i64 a0_3, .int .i64 a0_4, .string a0_5, .int .i64 a0_6, .int .i64 a0_7] 106 (0, 0)) (bk_ BK168.out) hb); replace HB := am_ (below_step (bl_) hb); (try clear hb); (try clear hb2); (try clear hk); (try clear hi)))
        go_meet
        case rel => exact ⟨_, (decide (t170 > 0)), (rs_), H', ⟨by have := HJ2.out; have := HJ36.out; first | omega | exact Nat.le_refl _⟩, ⟨bk_ BK165.out⟩, ⟨bk_ BK166.out⟩, ⟨bk_ BK167.out⟩, ⟨bk_ BK168.out⟩, ⟨bl_⟩⟩
       ·rw [if_neg c52] at H
        have c52b0 : decide (0 < a1_6) = false := decide_eq_false c52
        clear c52
        have H' := am_ H
        clear H
        have hnb62 := NB165_166.out
        have hnc62 := NB166_165.out
        have hnb63 := NB165_167.out
        have hnc63 := NB167_165.out
        have hnb64 := NB165_168.out
        have hnc64 := NB168_165.out
        have hcz65_0 : wc.cell? ⟨gb165, 0, none⟩ = some (.int .i64 a0_0) := (blk_cell BK165.out 0).trans rfl
        have hcz65_1 : wc.cell? ⟨gb165, 1, none⟩ = some (.int .i64 a0_1) := (blk_cell BK165.out 1).trans rfl
        have hcz65_2 : wc.cell? ⟨gb165, 2, none⟩ = some (.string a0_2) := (blk_cell BK165.out 2).trans rfl
        have hcz65_3 : wc.cell? ⟨gb165, 3, none⟩ = some (.int .i64 a0_3) := (blk_cell BK165.out 3).trans rfl
        have hcz65_4 : wc.cell? ⟨gb165, 4, none⟩ = some (.int .i64 a0_4) := (blk_cell BK165.out 4).trans rfl
        have hcz65_5 : wc.cell? ⟨gb165, 5, none⟩ = some (.string a0_5) := (blk_cell BK165.out 5).trans rfl
        have hcz65_6 : wc.cell? ⟨gb165, 6, none⟩ = some (.int .i64 a0_6) := (blk_cell BK165.out 6).trans rfl
        have hcz65_7 : wc.cell? ⟨gb165, 7, none⟩ = some (.int .i64 a0_7) := (blk_cell BK165.out 7).trans rfl
        have hfz65_0 := blk_frozen BK165.out 0
        have hfz65_1 := blk_frozen BK165.out 1
        have hfz65_2 := blk_frozen BK165.out 2
        have hfz65_3 := blk_frozen BK165.out 3
        have hfz65_4 := blk_frozen BK165.out 4
        have hfz65_5 := blk_frozen BK165.out 5
        have hfz65_6 := blk_frozen BK165.out 6
        have hfz65_7 := blk_frozen BK165.out 7
        have hnb66 := NB166_167.out
        have hnc66 := NB167_166.out
        have hnb67 := NB166_168.out
        have hnc67 := NB168_166.out
        have hcz68_0 : wc.cell? ⟨gb166, 0, none⟩ = some (.int .i64 a1_0) := (blk_cell BK166.out 0).trans rfl
        have hcz68_1 : wc.cell? ⟨gb166, 1, none⟩ = some (.int .i64 a1_1) := (blk_cell BK166.out 1).trans rfl
        have hcz68_2 : wc.cell? ⟨gb166, 2, none⟩ = some (.string a1_2) := (blk_cell BK166.out 2).trans rfl
        have hcz68_3 : wc.cell? ⟨gb166, 3, none⟩ = some (.int .i64 a1_3) := (blk_cell BK166.out 3).trans rfl
        have hcz68_4 : wc.cell? ⟨gb166, 4, none⟩ = some (.int .i64 a1_4) := (blk_cell BK166.out 4).trans rfl
        have hcz68_5 : wc.cell? ⟨gb166, 5, none⟩ = some (.string a1_5) := (blk_cell BK166.out 5).trans rfl
        have hcz68_6 : wc.cell? ⟨gb166, 6, none⟩ = some (.int .i64 a1_6) := (blk_cell BK166.out 6).trans rfl
        have hcz68_7 : wc.cell? ⟨gb166, 7, none⟩ = some (.int .i64 a1_7) := (blk_cell BK166.out 7).trans rfl
        have hfz68_0 := blk_frozen BK166.out 0
        have hfz68_1 := blk_frozen BK166.out 1
        have hfz68_2 := blk_frozen BK166.out 2
        have hfz68_3 := blk_frozen BK166.out 3
        have hfz68_4 := blk_frozen BK166.out 4
        have hfz68_5 := blk_frozen BK166.out 5
        have hfz68_6 := blk_frozen BK166.out 6
        have hfz68_7 := blk_frozen BK166.out 7
        go_wp2
        go_meet
        case rel => exact ⟨_, (false), (rs_), H', ⟨by have := HJ2.out; have := HJ36.out; first | omega | exact Nat.le_refl _⟩, ⟨bk_ BK165.out⟩, ⟨bk_ BK166.out⟩, ⟨bk_ BK167.out⟩, ⟨bk_ BK168.out⟩, ⟨bl_⟩⟩
     case rest =>
      clear HC46
      try clear c1
      try clear c2
      try clear p2
      try clear c3
      try clear c4
      try clear c5
      try clear c6
      try clear c7
      try clear c8
      try clear c11
      try clear c12
      try clear c13
      try clear c15
      try clear c15b0
      try clear c15b1
      try clear c16
      try clear c17
      try clear c18
      try clear c20
      try clear c20b0
      try clear c22
      try clear c23
      try clear c24
      try clear c26
      try clear c27
      try clear c30
      try clear c31
      try clear c32
      try clear c34
      try clear c35
      try clear c38
      try clear c39
      try clear c40
      try clear c41
      try clear c43
      try clear c44
      try clear c47
      try clear c47b0
      try clear c47b1
      try clear c48
      try clear c49
      try clear c50
      try clear c52
      try clear c52b0
      try clear c54
      try clear c55
      try clear c56
      try clear c58
      try clear c59
      try clear c62
      try clear c63
      try clear c64
      try clear c66
      try clear c67
      try clear hcz14_0
      try clear hcz14_1
      try clear hcz14_2
      try clear hcz14_3
      try clear hcz14_4
      try clear hcz14_5
      try clear hcz14_6
      try clear hcz14_7
      try clear hcz19_0
      try clear hcz19_1
      try clear hcz19_2
      try clear hcz19_3
      try clear hcz19_4
      try clear hcz19_5
      try clear hcz19_6
      try clear hcz19_7
      try clear hcz25_0
      try clear hcz25_1
      try clear hcz25_2
      try clear hcz25_3
      try clear hcz25_4
      try clear hcz25_5
      try clear hcz25_6
      try clear hcz25_7
      try clear hcz28_0
      try clear hcz28_1
      try clear hcz28_2
      try clear hcz28_3
      try clear hcz28_4
      try clear hcz28_5
      try clear hcz28_6
      try clear hcz28_7
      try clear hcz33_0
      try clear hcz33_1
      try clear hcz33_2
      try clear hcz33_3
      try clear hcz33_4
      try clear hcz33_5
      try clear hcz33_6
      try clear hcz33_7
      try clear hcz36_0
      try clear hcz36_1
      try clear hcz36_2
      try clear hcz36_3
      try clear hcz36_4
      try clear hcz36_5
      try clear hcz36_6
      try clear hcz36_7
      try clear hcz42_0
      try clear hcz42_1
      try clear hcz42_2
      try clear hcz42_3
      try clear hcz42_4
      try clear hcz42_5
      try clear hcz42_6
      try clear hcz42_7
      try clear hcz45_0
      try clear hcz45_1
      try clear hcz45_2
      try clear hcz45_3
      try clear hcz45_4
      try clear hcz45_5
      try clear hcz45_6
      try clear hcz45_7
      try clear hcz51_0
      try clear hcz51_1
      try clear hcz51_2
      try clear hcz51_3
      try clear hcz51_4
      try clear hcz51_5
      try clear hcz51_6
      try clear hcz51_7
      try clear hcz57_0
      try clear hcz57_1
      try clear hcz57_2
      try clear hcz57_3
      try clear hcz57_4
      try clear hcz57_5
      try clear hcz57_6
      try clear hcz57_7
      try clear hcz60_0
      try clear hcz60_1
      try clear hcz60_2
      try clear hcz60_3
      try clear hcz60_4
      try clear hcz60_5
      try clear hcz60_6
      try clear hcz60_7
      try clear hcz65_0
      try clear hcz65_1
      try clear hcz65_2
      try clear hcz65_3
      try clear hcz65_4
      try clear hcz65_5
      try clear hcz65_6
      try clear hcz65_7
      try clear hcz68_0
      try clear hcz68_1
      try clear hcz68_2
      try clear hcz68_3
      try clear hcz68_4
      try clear hcz68_5
      try clear hcz68_6
      try clear hcz68_7
      try clear hcz9_0
      try clear hcz9_1
      try clear hcz9_2
      try clear hcz9_3
      try clear hcz9_4
      try clear hcz9_5
      try clear hcz9_6
      try clear hcz9_7
      try clear hfz14_0
      try clear hfz14_1
      try clear hfz14_2
      try clear hfz14_3
      try clear hfz14_4
      try clear hfz14_5
      try clear hfz14_6
      try clear hfz14_7
      try clear hfz19_0
      try clear hfz19_1
      try clear hfz19_2
      try clear hfz19_3
      try clear hfz19_4
      try clear hfz19_5
      try clear hfz19_6
      try clear hfz19_7
      try clear hfz25_0
      try clear hfz25_1
      try clear hfz25_2
      try clear hfz25_3
      try clear hfz25_4
      try clear hfz25_5
      try clear hfz25_6
      try clear hfz25_7
      try clear hfz28_0
      try clear hfz28_1
      try clear hfz28_2
      try clear hfz28_3
      try clear hfz28_4
      try clear hfz28_5
      try clear hfz28_6
      try clear hfz28_7
      try clear hfz33_0
      try clear hfz33_1
      try clear hfz33_2
      try clear hfz33_3
      try clear hfz33_4
      try clear hfz33_5
      try clear hfz33_6
      try clear hfz33_7
      try clear hfz36_0
      try clear hfz36_1
      try clear hfz36_2
      try clear hfz36_3
      try clear hfz36_4
      try clear hfz36_5
      try clear hfz36_6
      try clear hfz36_7
      try clear hfz42_0
      try clear hfz42_1
      try clear hfz42_2
      try clear hfz42_3
      try clear hfz42_4
      try clear hfz42_5
      try clear hfz42_6
      try clear hfz42_7
      try clear hfz45_0
      try clear hfz45_1
      try clear hfz45_2
      try clear hfz45_3
      try clear hfz45_4
      try clear hfz45_5
      try clear hfz45_6
      try clear hfz45_7
      try clear hfz51_0
      try clear hfz51_1
      try clear hfz51_2
      try clear hfz51_3
      try clear hfz51_4
      try clear hfz51_5
      try clear hfz51_6
      try clear hfz51_7
      try clear hfz57_0
      try clear hfz57_1
      try clear hfz57_2
      try clear hfz57_3
      try clear hfz57_4
      try clear hfz57_5
      try clear hfz57_6
      try clear hfz57_7
      try clear hfz60_0
      try clear hfz60_1
      try clear hfz60_2
      try clear hfz60_3
      try clear hfz60_4
      try clear hfz60_5
      try clear hfz60_6
      try clear hfz60_7
      try clear hfz65_0
      try clear hfz65_1
      try clear hfz65_2
      try clear hfz65_3
      try clear hfz65_4
      try clear hfz65_5
      try clear hfz65_6
      try clear hfz65_7
      try clear hfz68_0
      try clear hfz68_1
      try clear hfz68_2
      try clear hfz68_3
      try clear hfz68_4
      try clear hfz68_5
      try clear hfz68_6
      try clear hfz68_7
      try clear hfz9_0
      try clear hfz9_1
      try clear hfz9_2
      try clear hfz9_3
      try clear hfz9_4
      try clear hfz9_5
      try clear hfz9_6
      try clear hfz9_7
      try clear p2
      obtain ⟨kq, x41_45, rfl, HA, HJ45, BK165, BK166, BK167, BK168, HB⟩ := hcut
      cases kq with
      | zero => exact absurd HA.out (by simp [span_Union.j2])
      | succ kj45 =>
       have H := HA.out
       clear HA
       simp only [span_Union.j2] at H
       have HC69 := am_ H
       clear H
       go_upto_if 41 with (fail)
       go_cut [] (fun wc => ∃ (kq : Nat) (x169003_68 : Int) (x169004_68 : Int) (x169005_68 : ByteArray), Aside0 (span_Union.j3 kq a0_0 a0_1 a0_2 a0_3 a0_4 a0_5 a0_6 a0_7 a1_0 a1_1 a1_2 a1_3 a1_4 a1_5 a1_6 a1_7 x169000_36 x169001_36 x169002_36 x169003_68 x169004_68 x169005_68 a0_6 a0_7 = some (r1, r2, r3, r4, r5, r6, r7, r8)) ∧ Aside0 (kq ≤ kj45) ∧ Aside0 (wc.heap[gb165]? = some (.cells #[.int .i64 a0_0, .int .i64 a0_1, .string a0_2, .int .i64 a0_3, .int .i64 a0_4, .string a0_5, .int .i64 a0_6, .int .i64 a0_7] 106 (0, 0))) ∧ Aside0 (wc.heap[gb166]? = some (.cells #[.int .i64 a1_0, .int .i64 a1_1, .string a1_2, .int .i64 a1_3, .int .i64 a1_4, .string a1_5, .int .i64 a1_6, .int .i64 a1_7] 106 (0, 0))) ∧ Aside0 (wc.heap[gb167]? = some (.cells #[.int .i64 0, .int .i64 0, .string (⟨#[]⟩ : ByteArray), .int .i64 0, .int .i64 0, .string (⟨#[]⟩ : ByteArray), .int .i64 0, .int .i64 0] 106 (0, 0))) ∧ Aside0 (wc.heap[gb168]? = some (.cells #[.int .i64 x169000_36, .int .i64 x169001_36, .string x169002_36, .int .i64 x169003_68, .int .i64 x169004_68, .string x169005_68, .int .i64 a0_6, .int .i64 a0_7] 106 (0, 0))) ∧ Aside0 (Below w.heap.size w wc))
       case first =>
        have H := HC69.out
        clear HC69
        by_cases c70 : x41_45 = true
        ·subst c70
         have H1 : (span_Union.j3 kj45 a0_0 a0_1 a0_2 a0_3 a0_4 a0_5 a0_6 a0_7 a1_0 a1_1 a1_2 a1_3 a1_4 a1_5 a1_6 a1_7 x169000_36 x169001_36 x169002_36 a1_3 a1_4 a1_5 a0_6 a0_7) = some (r1, r2, r3, r4, r5, r6, r7, r8) := by rw [if_pos rfl] at H; exact H
         clear H
         have H := H1
         clear H1
         have H' := am_ H
         clear H
         have hnb71 := NB166_165.out
         have hnc71 := NB165_166.out
         have hnb72 := NB166_167.out
         have hnc72 := NB167_166.out
         have hnb73 := NB166_168.out
         have hnc73 := NB168_166.out
         have hcz74_0 : wc.cell? ⟨gb166, 0, none⟩ = some (.int .i64 a1_0) := (blk_cell BK166.out 0).trans rfl
         have hcz74_1 : wc.cell? ⟨gb166, 1, none⟩ = some (.int .i64 a1_1) := (blk_cell BK166.out 1).trans rfl
         have hcz74_2 : wc.cell? ⟨gb166, 2, none⟩ = some (.string a1_2) := (blk_cell BK166.out 2).trans rfl
         have hcz74_3 : wc.cell? ⟨gb166, 3, none⟩ = some (.int .i64 a1_3) := (blk_cell BK166.out 3).trans rfl
         have hcz74_4 : wc.cell? ⟨gb166, 4, none⟩ = some (.int .i64 a1_4) := (blk_cell BK166.out 4).trans rfl
         have hcz74_5 : wc.cell? ⟨gb166, 5, none⟩ = some (.string a1_5) := (blk_cell BK166.out 5).trans rfl
         have hcz74_6 : wc.cell? ⟨gb166, 6, none⟩ = some (.int .i64 a1_6) := (blk_cell BK166.out 6).trans rfl
         have hcz74_7 : wc.cell? ⟨gb166, 7, none⟩ = some (.int .i64 a1_7) := (blk_cell BK166.out 7).trans rfl
         have hfz74_0 := blk_frozen BK166.out 0
         have hfz74_1 := blk_frozen BK166.out 1
         have hfz74_2 := blk_frozen BK166.out 2
         have hfz74_3 := blk_frozen BK166.out 3
         have hfz74_4 := blk_frozen BK166.out 4
         have hfz74_5 := blk_frozen BK166.out 5
         have hfz74_6 := blk_frozen BK166.out 6
         have hfz74_7 := blk_frozen BK166.out 7
         have hnb75 := NB168_165.out
         have hnc75 := NB165_168.out
         have hnb76 := NB168_167.out
         have hnc76 := NB167_168.out
         have hcz77_0 : wc.cell? ⟨gb168, 0, none⟩ = some (.int .i64 x169000_36) := (blk_cell BK168.out 0).trans rfl
         have hcz77_1 : wc.cell? ⟨gb168, 1, none⟩ = some (.int .i64 x169001_36) := (blk_cell BK168.out 1).trans rfl
         have hcz77_2 : wc.cell? ⟨gb168, 2, none⟩ = some (.string x169002_36) := (blk_cell BK168.out 2).trans rfl
         have hcz77_3 : wc.cell? ⟨gb168, 3, none⟩ = some (.int .i64 a0_3) := (blk_cell BK168.out 3).trans rfl
         have hcz77_4 : wc.cell? ⟨gb168, 4, none⟩ = some (.int .i64 a0_4) := (blk_cell BK168.out 4).trans rfl
         have hcz77_5 : wc.cell? ⟨gb168, 5, none⟩ = some (.string a0_5) := (blk_cell BK168.out 5).trans rfl
         have hcz77_6 : wc.cell? ⟨gb168, 6, none⟩ = some (.int .i64 a0_6) := (blk_cell BK168.out 6).trans rfl
         have hcz77_7 : wc.cell? ⟨gb168, 7, none⟩ = some (.int .i64 a0_7) := (blk_cell BK168.out 7).trans rfl
         have hfz77_0 := blk_frozen BK168.out 0
         have hfz77_1 := blk_frozen BK168.out 1
         have hfz77_2 := blk_frozen BK168.out 2
         have hfz77_3 := blk_frozen BK168.out 3
         have hfz77_4 := blk_frozen BK168.out 4
         have hfz77_5 := blk_frozen BK168.out 5
         have hfz77_6 := blk_frozen BK168.out 6
         have hfz77_7 := blk_frozen BK168.out 7
         go_wp2
         go_meet
         case rel => exact ⟨_, (a1_3), (a1_4), (a1_5), H', ⟨by have := HJ2.out; have := HJ36.out; have := HJ45.out; first | omega | exact Nat.le_refl _⟩, ⟨by refine bp_ ?_; refine blk_far ?_ NB165_168.out _; refine bp_ ?_; refine blk_far ?_ NB165_168.out _; refine bp_ ?_; refine blk_far ?_ NB165_168.out _; refine bp_ ?_; exact BK165.out⟩, ⟨by refine bp_ ?_; refine blk_far ?_ NB166_168.out _; refine bp_ ?_; refine blk_far ?_ NB166_168.out _; refine bp_ ?_; refine blk_far ?_ NB166_168.out _; refine bp_ ?_; exact BK166.out⟩, ⟨by refine bp_ ?_; refine blk_far ?_ NB167_168.out _; refine bp_ ?_; refine blk_far ?_ NB167_168.out _; refine bp_ ?_; refine blk_far ?_ NB167_168.out _; refine bp_ ?_; exact BK167.out⟩, ⟨by refine bp_ ?_; refine blk_put (cs := #[.int .i64 x169000_36, .int .i64 x169001_36, .string x169002_36, .int .i64 a1_3, .int .i64 a1_4, .string a0_5, .int .i64 a0_6, .int .i64 a0_7]) ?_ 5 _ rfl; refine bp_ ?_; refine blk_put (cs := #[.int .i64 x169000_36, .int .i64 x169001_36, .string x169002_36, .int .i64 a1_3, .int .i64 a0_4, .string a0_5, .int .i64 a0_6, .int .i64 a0_7]) ?_ 4 _ rfl; refine bp_ ?_; refine blk_put (cs := #[.int .i64 x169000_36, .int .i64 x169001_36, .string x169002_36, .int .i64 a0_3, .int .i64 a0_4, .string a0_5, .int .i64 a0_6, .int .i64 a0_7]) ?_ 3 _ rfl; refine bp_ ?_; exact BK168.out⟩, ⟨bl_⟩⟩
        ·replace c70 := Bool.eq_false_iff.mpr c70
         subst c70
         have H1 : (span_Union.j3 kj45 a0_0 a0_1 a0_2 a0_3 a0_4 a0_5 a0_6 a0_7 a1_0 a1_1 a1_2 a1_3 a1_4 a1_5 a1_6 a1_7 x169000_36 x169001_36 x169002_36 a0_3 a0_4 a0_5 a0_6 a0_7) = some (r1, r2, r3, r4, r5, r6, r7, r8) := by rw [if_neg (show ¬ (false = true) by decide)] at H; exact H
         clear H
         have H := H1
         clear H1
         have H' := am_ H
         clear H
         go_wp2
         go_meet
         case rel => exact ⟨_, (a0_3), (a0_4), (a0_5), H', ⟨by have := HJ2.out; have := HJ36.out; have := HJ45.out; first | omega | exact Nat.le_refl _⟩, ⟨bk_ BK165.out⟩, ⟨bk_ BK166.out⟩, ⟨bk_ BK167.out⟩, ⟨bk_ BK168.out⟩, ⟨bl_⟩⟩
       case rest =>
        clear HC69
        try clear c1
        try clear c2
        try clear p2
        try clear c3
        try clear c4
        try clear c5
        try clear c6
        try clear c7
        try clear c8
        try clear c11
        try clear c12
        try clear c13
        try clear c15
        try clear c15b0
        try clear c15b1
        try clear c16
        try clear c17
        try clear c18
        try clear c20
        try clear c20b0
        try clear c22
        try clear c23
        try clear c24
        try clear c26
        try clear c27
        try clear c30
        try clear c31
        try clear c32
        try clear c34
        try clear c35
        try clear c38
        try clear c39
        try clear c40
        try clear c41
        try clear c43
        try clear c44
        try clear c47
        try clear c47b0
        try clear c47b1
        try clear c48
        try clear c49
        try clear c50
        try clear c52
        try clear c52b0
        try clear c54
        try clear c55
        try clear c56
        try clear c58
        try clear c59
        try clear c62
        try clear c63
        try clear c64
        try clear c66
        try clear c67
        try clear c70
        try clear c71
        try clear c72
        try clear c73
        try clear c75
        try clear c76
        try clear hcz14_0
        try clear hcz14_1
        try clear hcz14_2
        try clear hcz14_3
        try clear hcz14_4
        try clear hcz14_5
        try clear hcz14_6
        try clear hcz14_7
        try clear hcz19_0
        try clear hcz19_1
        try clear hcz19_2
        try clear hcz19_3
        try clear hcz19_4
        try clear hcz19_5
        try clear hcz19_6
        try clear hcz19_7
        try clear hcz25_0
        try clear hcz25_1
        try clear hcz25_2
        try clear hcz25_3
        try clear hcz25_4
        try clear hcz25_5
        try clear hcz25_6
        try clear hcz25_7
        try clear hcz28_0
        try clear hcz28_1
        try clear hcz28_2
        try clear hcz28_3
        try clear hcz28_4
        try clear hcz28_5
        try clear hcz28_6
        try clear hcz28_7
        try clear hcz33_0
        try clear hcz33_1
        try clear hcz33_2
        try clear hcz33_3
        try clear hcz33_4
        try clear hcz33_5
        try clear hcz33_6
        try clear hcz33_7
        try clear hcz36_0
        try clear hcz36_1
        try clear hcz36_2
        try clear hcz36_3
        try clear hcz36_4
        try clear hcz36_5
        try clear hcz36_6
        try clear hcz36_7
        try clear hcz42_0
        try clear hcz42_1
        try clear hcz42_2
        try clear hcz42_3
        try clear hcz42_4
        try clear hcz42_5
        try clear hcz42_6
        try clear hcz42_7
        try clear hcz45_0
        try clear hcz45_1
        try clear hcz45_2
        try clear hcz45_3
        try clear hcz45_4
        try clear hcz45_5
        try clear hcz45_6
        try clear hcz45_7
        try clear hcz51_0
        try clear hcz51_1
        try clear hcz51_2
        try clear hcz51_3
        try clear hcz51_4
        try clear hcz51_5
        try clear hcz51_6
        try clear hcz51_7
        try clear hcz57_0
        try clear hcz57_1
        try clear hcz57_2
        try clear hcz57_3
        try clear hcz57_4
        try clear hcz57_5
        try clear hcz57_6
        try clear hcz57_7
        try clear hcz60_0
        try clear hcz60_1
        try clear hcz60_2
        try clear hcz60_3
        try clear hcz60_4
        try clear hcz60_5
        try clear hcz60_6
        try clear hcz60_7
        try clear hcz65_0
        try clear hcz65_1
        try clear hcz65_2
        try clear hcz65_3
        try clear hcz65_4
        try clear hcz65_5
        try clear hcz65_6
        try clear hcz65_7
        try clear hcz68_0
        try clear hcz68_1
        try clear hcz68_2
        try clear hcz68_3
        try clear hcz68_4
        try clear hcz68_5
        try clear hcz68_6
        try clear hcz68_7
        try clear hcz74_0
        try clear hcz74_1
        try clear hcz74_2
        try clear hcz74_3
        try clear hcz74_4
        try clear hcz74_5
        try clear hcz74_6
        try clear hcz74_7
        try clear hcz77_0
        try clear hcz77_1
        try clear hcz77_2
        try clear hcz77_3
        try clear hcz77_4
        try clear hcz77_5
        try clear hcz77_6
        try clear hcz77_7
        try clear hcz9_0
        try clear hcz9_1
        try clear hcz9_2
        try clear hcz9_3
        try clear hcz9_4
        try clear hcz9_5
        try clear hcz9_6
        try clear hcz9_7
        try clear hfz14_0
        try clear hfz14_1
        try clear hfz14_2
        try clear hfz14_3
        try clear hfz14_4
        try clear hfz14_5
        try clear hfz14_6
        try clear hfz14_7
        try clear hfz19_0
        try clear hfz19_1
        try clear hfz19_2
        try clear hfz19_3
        try clear hfz19_4
        try clear hfz19_5
        try clear hfz19_6
        try clear hfz19_7
        try clear hfz25_0
        try clear hfz25_1
        try clear hfz25_2
        try clear hfz25_3
        try clear hfz25_4
        try clear hfz25_5
        try clear hfz25_6
        try clear hfz25_7
        try clear hfz28_0
        try clear hfz28_1
        try clear hfz28_2
        try clear hfz28_3
        try clear hfz28_4
        try clear hfz28_5
        try clear hfz28_6
        try clear hfz28_7
        try clear hfz33_0
        try clear hfz33_1
        try clear hfz33_2
        try clear hfz33_3
        try clear hfz33_4
        try clear hfz33_5
        try clear hfz33_6
        try clear hfz33_7
        try clear hfz36_0
        try clear hfz36_1
        try clear hfz36_2
        try clear hfz36_3
        try clear hfz36_4
        try clear hfz36_5
        try clear hfz36_6
        try clear hfz36_7
        try clear hfz42_0
        try clear hfz42_1
        try clear hfz42_2
        try clear hfz42_3
        try clear hfz42_4
        try clear hfz42_5
        try clear hfz42_6
        try clear hfz42_7
        try clear hfz45_0
        try clear hfz45_1
        try clear hfz45_2
        try clear hfz45_3
        try clear hfz45_4
        try clear hfz45_5
        try clear hfz45_6
        try clear hfz45_7
        try clear hfz51_0
        try clear hfz51_1
        try clear hfz51_2
        try clear hfz51_3
        try clear hfz51_4
        try clear hfz51_5
        try clear hfz51_6
        try clear hfz51_7
        try clear hfz57_0
        try clear hfz57_1
        try clear hfz57_2
        try clear hfz57_3
        try clear hfz57_4
        try clear hfz57_5
        try clear hfz57_6
        try clear hfz57_7
        try clear hfz60_0
        try clear hfz60_1
        try clear hfz60_2
        try clear hfz60_3
        try clear hfz60_4
        try clear hfz60_5
        try clear hfz60_6
        try clear hfz60_7
        try clear hfz65_0
        try clear hfz65_1
        try clear hfz65_2
        try clear hfz65_3
        try clear hfz65_4
        try clear hfz65_5
        try clear hfz65_6
        try clear hfz65_7
        try clear hfz68_0
        try clear hfz68_1
        try clear hfz68_2
        try clear hfz68_3
        try clear hfz68_4
        try clear hfz68_5
        try clear hfz68_6
        try clear hfz68_7
        try clear hfz74_0
        try clear hfz74_1
        try clear hfz74_2
        try clear hfz74_3
        try clear hfz74_4
        try clear hfz74_5
        try clear hfz74_6
        try clear hfz74_7
        try clear hfz77_0
        try clear hfz77_1
        try clear hfz77_2
        try clear hfz77_3
        try clear hfz77_4
        try clear hfz77_5
        try clear hfz77_6
        try clear hfz77_7
        try clear hfz9_0
        try clear hfz9_1
        try clear hfz9_2
        try clear hfz9_3
        try clear hfz9_4
        try clear hfz9_5
        try clear hfz9_6
        try clear hfz9_7
        try clear p2
        obtain ⟨kq, x169003_68, x169004_68, x169005_68, HA, HJ68, BK165, BK166, BK167, BK168, HB⟩ := hcut
        cases kq with
        | zero => exact absurd HA.out (by simp [span_Union.j3])
        | succ kj68 =>
         have H := HA.out
         clear HA
         simp only [span_Union.j3] at H
         simp only [Option.some.injEq, Prod.mk.injEq] at H
         obtain ⟨rfl, rfl, rfl, rfl, rfl, rfl, rfl, rfl⟩ := H
         try go_wp2
         have n0_ := am_ (blk_drew BK165.out)
         have n1_ := am_ (blk_drew BK166.out)
         have n2_ := am_ (blk_drew BK167.out)
         have n3_ := am_ (blk_drew BK168.out)
         have n4_ := am_ (below_drew1 HB.out)
         clear BK165
         clear BK166
         clear BK167
         clear BK168
         clear HB
         have BK165 := n0_
         have BK166 := n1_
         have BK167 := n2_
         have BK168 := n3_
         have HB := n4_
         clear n0_ n1_ n2_ n3_ n4_
         refine start_ (n := 14) (S := fun w' => w'.cell? ⟨gb165, 0, none⟩ = some (.int .i64 a0_0) ∧ w'.cell? ⟨gb165, 1, none⟩ = some (.int .i64 a0_1) ∧ w'.cell? ⟨gb165, 2, none⟩ = some (.string a0_2) ∧ w'.cell? ⟨gb165, 3, none⟩ = some (.int .i64 a0_3) ∧ w'.cell? ⟨gb165, 4, none⟩ = some (.int .i64 a0_4) ∧ w'.cell? ⟨gb165, 5, none⟩ = some (.string a0_5) ∧ w'.cell? ⟨gb165, 6, none⟩ = some (.int .i64 a0_6) ∧ w'.cell? ⟨gb165, 7, none⟩ = some (.int .i64 a0_7) ∧ w'.cell? ⟨gb166, 0, none⟩ = some (.int .i64 a1_0) ∧ w'.cell? ⟨gb166, 1, none⟩ = some (.int .i64 a1_1) ∧ w'.cell? ⟨gb166, 2, none⟩ = some (.string a1_2) ∧ w'.cell? ⟨gb166, 3, none⟩ = some (.int .i64 a1_3) ∧ w'.cell? ⟨gb166, 4, none⟩ = some (.int .i64 a1_4) ∧ w'.cell? ⟨gb166, 5, none⟩ = some (.string a1_5) ∧ w'.cell? ⟨gb166, 6, none⟩ = some (.int .i64 a1_6) ∧ w'.cell? ⟨gb166, 7, none⟩ = some (.int .i64 a1_7)) (ds := []) #[false, false, false, false, false, false, false, false, false, false, false, false, false, false] (by kernel_rfl) rfl rfl ⟨(blk_cell BK165.out 0).trans rfl, (blk_cell BK165.out 1).trans rfl, (blk_cell BK165.out 2).trans rfl, (blk_cell BK165.out 3).trans rfl, (blk_cell BK165.out 4).trans rfl, (blk_cell BK165.out 5).trans rfl, (blk_cell BK165.out 6).trans rfl, (blk_cell BK165.out 7).trans rfl, (blk_cell BK166.out 0).trans rfl, (blk_cell BK166.out 1).trans rfl, (blk_cell BK166.out 2).trans rfl, (blk_cell BK166.out 3).trans rfl, (blk_cell BK166.out 4).trans rfl, (blk_cell BK166.out 5).trans rfl, (blk_cell BK166.out 6).trans rfl, (blk_cell BK166.out 7).trans rfl⟩ (fun hHeld => ?_); refine with_tabW span_Union.tab6 span_Union.bits6 (fun HT_ HW_ => ?_)
         generalize wc.drew = w78 at BK165 BK166 BK167 BK168 HB hHeld ⊢
         refine pure_ (i := 0) (N := some 45) (v := ?_) (a' := ?_) #[true, false, false, false, false, false, false, false, false, false, false, false, false, false] rfl rfl (any_of HT_.out (by kernel_rfl)) (fun _ _ _ h => h) (Or.inl ⟨by rfl, ?_⟩) ?_ ?_
         rotate_left
         ·intro w'
          go_simp
          with_reducible rfl
         rotate_left
         ·simp only [Act.put, List.setIfInBounds_toArray, List.set_cons_zero, List.set_cons_succ, i64_w, i32_w]
          rfl
         refine pure_ (i := 2) (N := some 47) (v := ?_) (a' := ?_) #[true, false, true, false, false, false, false, false, false, false, false, false, false, false] rfl rfl (any_of HT_.out (by kernel_rfl)) (fun _ _ _ h => h) (Or.inl ⟨by rfl, ?_⟩) ?_ ?_
         rotate_left
         ·intro w'
          go_simp
          with_reducible rfl
         rotate_left
         ·simp only [Act.put, List.setIfInBounds_toArray, List.set_cons_zero, List.set_cons_succ, i64_w, i32_w]
          rfl
         refine pure_ (i := 5) (N := some 50) (v := ?_) (a' := ?_) #[true, false, true, false, false, true, false, false, false, false, false, false, false, false] rfl rfl (any_of HT_.out (by kernel_rfl)) (fun _ _ _ h => h) (Or.inl ⟨by rfl, ?_⟩) ?_ ?_
         rotate_left
         ·intro w'
          go_simp
          with_reducible rfl
         rotate_left
         ·simp only [Act.put, List.setIfInBounds_toArray, List.set_cons_zero, List.set_cons_succ, i64_w, i32_w]
          rfl
         refine pure_ (i := 7) (N := some 52) (v := ?_) (a' := ?_) #[true, false, true, false, false, true, false, true, false, false, false, false, false, false] rfl rfl (any_of HT_.out (by kernel_rfl)) (fun _ _ _ h => h) (Or.inl ⟨by rfl, ?_⟩) ?_ ?_
         rotate_left
         ·intro w'
          go_simp
          with_reducible rfl
         rotate_left
         ·simp only [Act.put, List.setIfInBounds_toArray, List.set_cons_zero, List.set_cons_succ, i64_w, i32_w]
          rfl
         refine take_ (i := 1) (N := some 46) (v := ?_) (a' := ?_) #[true, true, true, false, false, true, false, true, false, false, false, false, false, false] rfl rfl (take_ofW HT_.out HW_.out (by kernel_rfl)) (fun _ _ _ h => h) (Or.inl ⟨by rfl, ?_⟩) hHeld ?_ ?_
         rotate_left
         ·rintro w' ⟨s0, s1, s2, s3, s4, s5, s6, s7, s8, s9, s10, s11, s12, s13, s14, s15⟩
          go_simp
          with_reducible rfl
         rotate_left
         ·simp only [Act.put, List.setIfInBounds_toArray, List.set_cons_zero, List.set_cons_succ, i64_w, i32_w]
          rfl
         refine take_ (i := 3) (N := some 48) (v := ?_) (a' := ?_) #[true, true, true, true, false, true, false, true, false, false, false, false, false, false] rfl rfl (take_ofW HT_.out HW_.out (by kernel_rfl)) (fun _ _ _ h => h) (Or.inl ⟨by rfl, ?_⟩) hHeld ?_ ?_
         rotate_left
         ·rintro w' ⟨s0, s1, s2, s3, s4, s5, s6, s7, s8, s9, s10, s11, s12, s13, s14, s15⟩
          go_simp
          with_reducible rfl
         rotate_left
         ·simp only [Act.put, List.setIfInBounds_toArray, List.set_cons_zero, List.set_cons_succ, i64_w, i32_w]
          rfl
         refine pure_ (i := 4) (N := some 49) (v := ?_) (a' := ?_) #[true, true, true, true, true, true, false, true, false, false, false, false, false, false] rfl rfl (any_of HT_.out (by kernel_rfl)) (fun _ _ _ h => h) (Or.inl ⟨by rfl, ?_⟩) ?_ ?_
         rotate_left
         ·intro w'
          go_simp
          with_reducible rfl
         rotate_left
         ·simp only [Act.put, List.setIfInBounds_toArray, List.set_cons_zero, List.set_cons_succ, i64_w, i32_w]
          rfl
         refine pure_ (i := 10) (N := some 55) (v := ?_) (a' := ?_) #[true, true, true, true, true, true, false, true, false, false, true, false, false, false] rfl rfl (any_of HT_.out (by kernel_rfl)) (fun _ _ _ h => h) (Or.inl ⟨by rfl, ?_⟩) ?_ ?_
         rotate_left
         ·intro w'
          go_simp
          with_reducible rfl
         rotate_left
         ·simp only [Act.put, List.setIfInBounds_toArray, List.set_cons_zero, List.set_cons_succ, i64_w, i32_w]
          rfl
         refine take_ (i := 6) (N := some 51) (v := ?_) (a' := ?_) #[true, true, true, true, true, true, true, true, false, false, true, false, false, false] rfl rfl (take_ofW HT_.out HW_.out (by kernel_rfl)) (fun _ _ _ h => h) (Or.inl ⟨by rfl, ?_⟩) hHeld ?_ ?_
         rotate_left
         ·rintro w' ⟨s0, s1, s2, s3, s4, s5, s6, s7, s8, s9, s10, s11, s12, s13, s14, s15⟩
          go_simp
          with_reducible rfl
         rotate_left
         ·simp only [Act.put, List.setIfInBounds_toArray, List.set_cons_zero, List.set_cons_succ, i64_w, i32_w]
          rfl
         refine take_ (i := 8) (N := some 53) (v := ?_) (a' := ?_) #[true, true, true, true, true, true, true, true, true, false, true, false, false, false] rfl rfl (take_ofW HT_.out HW_.out (by kernel_rfl)) (fun _ _ _ h => h) (Or.inl ⟨by rfl, ?_⟩) hHeld ?_ ?_
         rotate_left
         ·rintro w' ⟨s0, s1, s2, s3, s4, s5, s6, s7, s8, s9, s10, s11, s12, s13, s14, s15⟩
          go_simp
          with_reducible rfl
         rotate_left
         ·simp only [Act.put, List.setIfInBounds_toArray, List.set_cons_zero, List.set_cons_succ, i64_w, i32_w]
          rfl
         refine pure_ (i := 9) (N := some 54) (v := ?_) (a' := ?_) #[true, true, true, true, true, true, true, true, true, true, true, false, false, false] rfl rfl (any_of HT_.out (by kernel_rfl)) (fun _ _ _ h => h) (Or.inl ⟨by rfl, ?_⟩) ?_ ?_
         rotate_left
         ·intro w'
          go_simp
          with_reducible rfl
         rotate_left
         ·simp only [Act.put, List.setIfInBounds_toArray, List.set_cons_zero, List.set_cons_succ, i64_w, i32_w]
          rfl
         refine one_ (i := 11) (N := none) #[true, true, true, true, true, true, true, true, true, true, true, true, false, false] rfl rfl (one_of HT_.out (by kernel_rfl)) (by decide) (fun K hK => ?_)
         have hs79 : w78.cell? ⟨gb168, 6, none⟩ = some (.int .i64 a0_6) := (blk_cell BK168.out 6).trans rfl
         have hfs79 := blk_frozen BK168.out 6
         have hns79_0 := NB165_168.out
         have hns79_1 := NB166_168.out
         have hns79_2 := NB167_168.out
         have hms79_0 := NB168_165.out
         have hms79_1 := NB168_166.out
         have hms79_2 := NB168_167.out
         refine skip_ (w1 := ?_) (by rfl) rfl ?_ ?_
         rotate_left
         ·go_simp
          rfl
         refine hK.out _ _ ⟨((cell_far (p := ⟨gb168, _, none⟩) NB165_168.out _).trans (hHeld.1)), ((cell_far (p := ⟨gb168, _, none⟩) NB165_168.out _).trans (hHeld.2.1)), ((cell_far (p := ⟨gb168, _, none⟩) NB165_168.out _).trans (hHeld.2.2.1)), ((cell_far (p := ⟨gb168, _, none⟩) NB165_168.out _).trans (hHeld.2.2.2.1)), ((cell_far (p := ⟨gb168, _, none⟩) NB165_168.out _).trans (hHeld.2.2.2.2.1)), ((cell_far (p := ⟨gb168, _, none⟩) NB165_168.out _).trans (hHeld.2.2.2.2.2.1)), ((cell_far (p := ⟨gb168, _, none⟩) NB165_168.out _).trans (hHeld.2.2.2.2.2.2.1)), ((cell_far (p := ⟨gb168, _, none⟩) NB165_168.out _).trans (hHeld.2.2.2.2.2.2.2.1)), ((cell_far (p := ⟨gb168, _, none⟩) NB166_168.out _).trans (hHeld.2.2.2.2.2.2.2.2.1)), ((cell_far (p := ⟨gb168, _, none⟩) NB166_168.out _).trans (hHeld.2.2.2.2.2.2.2.2.2.1)), ((cell_far (p := ⟨gb168, _, none⟩) NB166_168.out _).trans (hHeld.2.2.2.2.2.2.2.2.2.2.1)), ((cell_far (p := ⟨gb168, _, none⟩) NB166_168.out _).trans (hHeld.2.2.2.2.2.2.2.2.2.2.2.1)), ((cell_far (p := ⟨gb168, _, none⟩) NB166_168.out _).trans (hHeld.2.2.2.2.2.2.2.2.2.2.2.2.1)), ((cell_far (p := ⟨gb168, _, none⟩) NB166_168.out _).trans (hHeld.2.2.2.2.2.2.2.2.2.2.2.2.2.1)), ((cell_far (p := ⟨gb168, _, none⟩) NB166_168.out _).trans (hHeld.2.2.2.2.2.2.2.2.2.2.2.2.2.2.1)), ((cell_far (p := ⟨gb168, _, none⟩) NB166_168.out _).trans (hHeld.2.2.2.2.2.2.2.2.2.2.2.2.2.2.2))⟩ (fun hHeld => ?_)
         clear hK K
         refine pure_ (i := 12) (N := some 56) (v := ?_) (a' := ?_) #[true, true, true, true, true, true, true, true, true, true, true, true, true, false] rfl rfl (any_of HT_.out (by kernel_rfl)) (fun _ _ _ h => h) (Or.inl ⟨by rfl, ?_⟩) ?_ ?_
         rotate_left
         ·intro w'
          go_simp
          with_reducible rfl
         rotate_left
         ·simp only [Act.put, List.setIfInBounds_toArray, List.set_cons_zero, List.set_cons_succ, i64_w, i32_w]
          rfl
         refine one_ (i := 13) (N := none) #[true, true, true, true, true, true, true, true, true, true, true, true, true, true] rfl rfl (one_of HT_.out (by kernel_rfl)) (by decide) (fun K hK => ?_)
         have hs80 : w78.cell? ⟨gb168, 7, none⟩ = some (.int .i64 a0_7) := (blk_cell BK168.out 7).trans rfl
         have hfs80 := blk_frozen BK168.out 7
         have hns80_0 := NB165_168.out
         have hns80_1 := NB166_168.out
         have hns80_2 := NB167_168.out
         have hms80_0 := NB168_165.out
         have hms80_1 := NB168_166.out
         have hms80_2 := NB168_167.out
         refine skip_ (w1 := ?_) (by rfl) rfl ?_ ?_
         rotate_left
         ·go_simp
          rfl
         refine hK.out _ _ ⟨((cell_far (p := ⟨gb168, _, none⟩) NB165_168.out _).trans (hHeld.1)), ((cell_far (p := ⟨gb168, _, none⟩) NB165_168.out _).trans (hHeld.2.1)), ((cell_far (p := ⟨gb168, _, none⟩) NB165_168.out _).trans (hHeld.2.2.1)), ((cell_far (p := ⟨gb168, _, none⟩) NB165_168.out _).trans (hHeld.2.2.2.1)), ((cell_far (p := ⟨gb168, _, none⟩) NB165_168.out _).trans (hHeld.2.2.2.2.1)), ((cell_far (p := ⟨gb168, _, none⟩) NB165_168.out _).trans (hHeld.2.2.2.2.2.1)), ((cell_far (p := ⟨gb168, _, none⟩) NB165_168.out _).trans (hHeld.2.2.2.2.2.2.1)), ((cell_far (p := ⟨gb168, _, none⟩) NB165_168.out _).trans (hHeld.2.2.2.2.2.2.2.1)), ((cell_far (p := ⟨gb168, _, none⟩) NB166_168.out _).trans (hHeld.2.2.2.2.2.2.2.2.1)), ((cell_far (p := ⟨gb168, _, none⟩) NB166_168.out _).trans (hHeld.2.2.2.2.2.2.2.2.2.1)), ((cell_far (p := ⟨gb168, _, none⟩) NB166_168.out _).trans (hHeld.2.2.2.2.2.2.2.2.2.2.1)), ((cell_far (p := ⟨gb168, _, none⟩) NB166_168.out _).trans (hHeld.2.2.2.2.2.2.2.2.2.2.2.1)), ((cell_far (p := ⟨gb168, _, none⟩) NB166_168.out _).trans (hHeld.2.2.2.2.2.2.2.2.2.2.2.2.1)), ((cell_far (p := ⟨gb168, _, none⟩) NB166_168.out _).trans (hHeld.2.2.2.2.2.2.2.2.2.2.2.2.2.1)), ((cell_far (p := ⟨gb168, _, none⟩) NB166_168.out _).trans (hHeld.2.2.2.2.2.2.2.2.2.2.2.2.2.2.1)), ((cell_far (p := ⟨gb168, _, none⟩) NB166_168.out _).trans (hHeld.2.2.2.2.2.2.2.2.2.2.2.2.2.2.2))⟩ (fun hHeld => ?_)
         clear hK K
         refine done_ (done_of HT_.out (by kernel_rfl)) ?_
         have hnb81 := NB168_165.out
         have hnc81 := NB165_168.out
         have hnb82 := NB168_166.out
         have hnc82 := NB166_168.out
         have hnb83 := NB168_167.out
         have hnc83 := NB167_168.out
         have hcz84_0 : w78.cell? ⟨gb168, 0, none⟩ = some (.int .i64 x169000_36) := (blk_cell BK168.out 0).trans rfl
         have hcz84_1 : w78.cell? ⟨gb168, 1, none⟩ = some (.int .i64 x169001_36) := (blk_cell BK168.out 1).trans rfl
         have hcz84_2 : w78.cell? ⟨gb168, 2, none⟩ = some (.string x169002_36) := (blk_cell BK168.out 2).trans rfl
         have hcz84_3 : w78.cell? ⟨gb168, 3, none⟩ = some (.int .i64 x169003_68) := (blk_cell BK168.out 3).trans rfl
         have hcz84_4 : w78.cell? ⟨gb168, 4, none⟩ = some (.int .i64 x169004_68) := (blk_cell BK168.out 4).trans rfl
         have hcz84_5 : w78.cell? ⟨gb168, 5, none⟩ = some (.string x169005_68) := (blk_cell BK168.out 5).trans rfl
         have hcz84_6 : w78.cell? ⟨gb168, 6, none⟩ = some (.int .i64 a0_6) := (blk_cell BK168.out 6).trans rfl
         have hcz84_7 : w78.cell? ⟨gb168, 7, none⟩ = some (.int .i64 a0_7) := (blk_cell BK168.out 7).trans rfl
         have hfz84_0 := blk_frozen BK168.out 0
         have hfz84_1 := blk_frozen BK168.out 1
         have hfz84_2 := blk_frozen BK168.out 2
         have hfz84_3 := blk_frozen BK168.out 3
         have hfz84_4 := blk_frozen BK168.out 4
         have hfz84_5 := blk_frozen BK168.out 5
         have hfz84_6 := blk_frozen BK168.out 6
         have hfz84_7 := blk_frozen BK168.out 7
         have hnb85 := NB167_165.out
         have hnc85 := NB165_167.out
         have hnb86 := NB167_166.out
         have hnc86 := NB166_167.out
         have hcz87_0 : w78.cell? ⟨gb167, 0, none⟩ = some (.int .i64 0) := (blk_cell BK167.out 0).trans rfl
         have hcz87_1 : w78.cell? ⟨gb167, 1, none⟩ = some (.int .i64 0) := (blk_cell BK167.out 1).trans rfl
         have hcz87_2 : w78.cell? ⟨gb167, 2, none⟩ = some (.string (⟨#[]⟩ : ByteArray)) := (blk_cell BK167.out 2).trans rfl
         have hcz87_3 : w78.cell? ⟨gb167, 3, none⟩ = some (.int .i64 0) := (blk_cell BK167.out 3).trans rfl
         have hcz87_4 : w78.cell? ⟨gb167, 4, none⟩ = some (.int .i64 0) := (blk_cell BK167.out 4).trans rfl
         have hcz87_5 : w78.cell? ⟨gb167, 5, none⟩ = some (.string (⟨#[]⟩ : ByteArray)) := (blk_cell BK167.out 5).trans rfl
         have hcz87_6 : w78.cell? ⟨gb167, 6, none⟩ = some (.int .i64 0) := (blk_cell BK167.out 6).trans rfl
         have hcz87_7 : w78.cell? ⟨gb167, 7, none⟩ = some (.int .i64 0) := (blk_cell BK167.out 7).trans rfl
         have hfz87_0 := blk_frozen BK167.out 0
         have hfz87_1 := blk_frozen BK167.out 1
         have hfz87_2 := blk_frozen BK167.out 2
         have hfz87_3 := blk_frozen BK167.out 3
         have hfz87_4 := blk_frozen BK167.out 4
         have hfz87_5 := blk_frozen BK167.out 5
         have hfz87_6 := blk_frozen BK167.out 6
         have hfz87_7 := blk_frozen BK167.out 7
         try go_wp2
         refine bodyPost_ret (results_cell_row rfl _ _ gb167 106 #[.int .i64 x169000_36, .int .i64 x169001_36, .string x169002_36, .int .i64 x169003_68, .int .i64 x169004_68, .string x169005_68, .int .i64 (wrap64 (a0_6 + a1_6)), .int .i64 (wrap64 (a0_7 + a1_7))] (0, 0) _ rfl (by refine bp_ ?_; refine blk_put (cs := #[.int .i64 x169000_36, .int .i64 x169001_36, .string x169002_36, .int .i64 x169003_68, .int .i64 x169004_68, .string x169005_68, .int .i64 (wrap64 (a0_6 + a1_6)), .int .i64 0]) ?_ 7 _ rfl; refine bp_ ?_; refine blk_put (cs := #[.int .i64 x169000_36, .int .i64 x169001_36, .string x169002_36, .int .i64 x169003_68, .int .i64 x169004_68, .string x169005_68, .int .i64 0, .int .i64 0]) ?_ 6 _ rfl; refine bp_ ?_; refine blk_put (cs := #[.int .i64 x169000_36, .int .i64 x169001_36, .string x169002_36, .int .i64 x169003_68, .int .i64 x169004_68, .string (⟨#[]⟩ : ByteArray), .int .i64 0, .int .i64 0]) ?_ 5 _ rfl; refine bp_ ?_; refine blk_put (cs := #[.int .i64 x169000_36, .int .i64 x169001_36, .string x169002_36, .int .i64 x169003_68, .int .i64 0, .string (⟨#[]⟩ : ByteArray), .int .i64 0, .int .i64 0]) ?_ 4 _ rfl; refine bp_ ?_; refine blk_put (cs := #[.int .i64 x169000_36, .int .i64 x169001_36, .string x169002_36, .int .i64 0, .int .i64 0, .string (⟨#[]⟩ : ByteArray), .int .i64 0, .int .i64 0]) ?_ 3 _ rfl; refine bp_ ?_; refine blk_put (cs := #[.int .i64 x169000_36, .int .i64 x169001_36, .string (⟨#[]⟩ : ByteArray), .int .i64 0, .int .i64 0, .string (⟨#[]⟩ : ByteArray), .int .i64 0, .int .i64 0]) ?_ 2 _ rfl; refine bp_ ?_; refine blk_put (cs := #[.int .i64 x169000_36, .int .i64 0, .string (⟨#[]⟩ : ByteArray), .int .i64 0, .int .i64 0, .string (⟨#[]⟩ : ByteArray), .int .i64 0, .int .i64 0]) ?_ 1 _ rfl; refine bp_ ?_; refine blk_put (cs := #[.int .i64 0, .int .i64 0, .string (⟨#[]⟩ : ByteArray), .int .i64 0, .int .i64 0, .string (⟨#[]⟩ : ByteArray), .int .i64 0, .int .i64 0]) ?_ 0 _ rfl; refine bp_ ?_; refine blk_far ?_ NB167_168.out _; refine bp_ ?_; refine blk_far ?_ NB167_168.out _; refine bp_ ?_; exact BK167.out) Tryd.underlying106 rfl (by kernel_rfl)) rfl ?_
         exact ⟨ew_, bl_⟩

end Go.Proofs.YtcfgjaggccnoaaaDoor.PSiftPasses
