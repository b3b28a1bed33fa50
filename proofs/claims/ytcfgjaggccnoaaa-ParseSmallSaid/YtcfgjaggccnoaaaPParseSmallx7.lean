import Derived.Test.YtcfgjaggccnoaaaPParseSmallx0
import Derived.Test.YtcfgjaggccnoaaaPParseSmallx5
import Derived.Test.YtcfgjaggccnoaaaPParseSmallx6
namespace Go.Proofs.Ytcfgjaggccnoaaa.PParseSmall
open Go.RowKit Go.Proofs.YtcfgjaggccnoaaaW.PrintWords Go.Proofs.YtcfgjaggccnoaaaW.PrintLast Go.Proofs.YtcfgjaggccnoaaaW.PrintMore
attribute [local go_sem] max2_int min2_int max_two min_two max_three min_three max_four min_four
set_option linter.unusedVariables false
set_option maxHeartbeats 8000000
set_option linter.unusedSimpArgs false
set_option maxRecDepth 100000

mutual
def r07_One.j0 : Nat → ByteArray → Int → Option (Int × ByteArray × Int × Int × Int × Int)
 | 0, _, _ => none
 | k + 1, x0, x1 => if x1 > (x0.size : Int) then (r07_One.j1 k x0 (x0.size : Int)) else (r07_One.j1 k x0 x1)
def r07_One.j1 : Nat → ByteArray → Int → Option (Int × ByteArray × Int × Int × Int × Int)
 | 0, _, _ => none
 | k + 1, x0, x1 => r07_One.l0 k x0 x1 x1
def r07_One.j3 : Nat → ByteArray → Int → Int → Option (Int × ByteArray × Int × Int × Int × Int)
 | 0, _, _, _ => none
 | k + 1, x0, x1, x7 => if x7 = (x0.size : Int) then (some (0, (⟨#[]⟩ : ByteArray), 0, x7, x7, 0)) else (if 0 ≤ x7 then (if x7 < (x0.size : Int) then ((r07_letter.f (bt x0 x7)).bind fun t203 => (if t203 = true then (r07_One.l1 k x0 x1 x7 x7) else ((r07_digit.f (bt x0 x7)).bind fun t207 => (if t207 = true then (r07_One.l2 k x0 x1 x7 x7) else (if (bt x0 x7) = 39 then ((r07_text.f k x0 x1 x7).bind fun bt212 => (some (bt212.1, bt212.2.1, bt212.2.2.1, bt212.2.2.2.1, bt212.2.2.2.2.1, bt212.2.2.2.2.2))) else ((r07_Sign.f k x0 x7).bind fun t218 => (if t218.toList = ([] : List UInt8) then (some (0, (⟨#[]⟩ : ByteArray), 0, 0, x1, 1)) else (some (5, t218, 0, x7, wrap64 (x7 + (t218.size : Int)), 0))))))))) else (none)) else (none))
def r07_One.j5 : Nat → ByteArray → Int → Int → Int → Option (Int × ByteArray × Int × Int × Int × Int)
 | 0, _, _, _, _ => none
 | k + 1, x0, x1, x7, x8 => if (wrap64 (x8 - x7)) > 32 then (some (0, (⟨#[]⟩ : ByteArray), 0, 0, x1, 1)) else (if 0 ≤ x7 then (if x7 ≤ x8 then (if x8 ≤ (x0.size : Int) then ((r05_Word.f k (x0.extract (x7 : Int).toNat (x8 : Int).toNat)).bind fun t206 => (if t206 = true then (some (2, x0.extract (x7 : Int).toNat (x8 : Int).toNat, 0, x7, x8, 0)) else (some (1, x0.extract (x7 : Int).toNat (x8 : Int).toNat, 0, x7, x8, 0)))) else (none)) else (none)) else (none))
def r07_One.l1 : Nat → ByteArray → Int → Int → Int → Option (Int × ByteArray × Int × Int × Int × Int)
 | 0, _, _, _, _ => none
 | k + 1, x0, x1, x7, x8 => if x8 < (x0.size : Int) then (if 0 ≤ x8 then ((r07_letter.f (bt x0 x8)).bind fun t204 => (if t204 = true then (r07_One.l1 k x0 x1 x7 (wrap64 (x8 + 1))) else ((r07_digit.f (bt x0 x8)).bind fun t205 => (if t205 = true then (r07_One.l1 k x0 x1 x7 (wrap64 (x8 + 1))) else (r07_One.j5 k x0 x1 x7 x8))))) else (none)) else (r07_One.j5 k x0 x1 x7 x8)
def r07_One.j7 : Nat → ByteArray → Int → Int → Int → Option (Int × ByteArray × Int × Int × Int × Int)
 | 0, _, _, _, _ => none
 | k + 1, x0, x1, x7, x8 => if 0 ≤ x7 then (if x7 ≤ x8 then (if x8 ≤ (x0.size : Int) then ((r07_number.f k (x0.extract (x7 : Int).toNat (x8 : Int).toNat)).bind fun bt209 => (if bt209.2 = true then (if x8 < (x0.size : Int) then (if 0 ≤ x8 then ((r07_letter.f (bt x0 x8)).bind fun t211 => (if t211 = true then (some (0, (⟨#[]⟩ : ByteArray), 0, 0, x1, 1)) else (some (3, x0.extract (x7 : Int).toNat (x8 : Int).toNat, bt209.1, x7, x8, 0)))) else (none)) else (some (3, x0.extract (x7 : Int).toNat (x8 : Int).toNat, bt209.1, x7, x8, 0))) else (some (0, (⟨#[]⟩ : ByteArray), 0, 0, x1, 1)))) else (none)) else (none)) else (none)
def r07_One.l2 : Nat → ByteArray → Int → Int → Int → Option (Int × ByteArray × Int × Int × Int × Int)
 | 0, _, _, _, _ => none
 | k + 1, x0, x1, x7, x8 => if x8 < (x0.size : Int) then (if 0 ≤ x8 then ((r07_digit.f (bt x0 x8)).bind fun t208 => (if t208 = true then (r07_One.l2 k x0 x1 x7 (wrap64 (x8 + 1))) else (r07_One.j7 k x0 x1 x7 x8))) else (none)) else (r07_One.j7 k x0 x1 x7 x8)
def r07_One.l0 : Nat → ByteArray → Int → Int → Option (Int × ByteArray × Int × Int × Int × Int)
 | 0, _, _, _ => none
 | k + 1, x0, x1, x7 => if x7 < (x0.size : Int) then (if 0 ≤ x7 then ((r07_Blank.f (bt x0 x7)).bind fun t202 => (if t202 = true then (r07_One.l0 k x0 x1 (wrap64 (x7 + 1))) else (r07_One.j3 k x0 x1 x7))) else (none)) else (r07_One.j3 k x0 x1 x7)
end
def r07_One.f (k : Nat) (a0 : ByteArray) (a1 : Int) : Option (Int × ByteArray × Int × Int × Int × Int) := if a1 < 0 then (r07_One.j0 k a0 0) else (r07_One.j0 k a0 a1)
theorem r07_One.mono_l : ∀ k, (∀ y0 y1, LeO (r07_One.j0 k y0 y1) (r07_One.j0 (k + 1) y0 y1)) ∧ (∀ y0 y1, LeO (r07_One.j1 k y0 y1) (r07_One.j1 (k + 1) y0 y1)) ∧ (∀ y0 y1 y2, LeO (r07_One.j3 k y0 y1 y2) (r07_One.j3 (k + 1) y0 y1 y2)) ∧ (∀ y0 y1 y2 y3, LeO (r07_One.j5 k y0 y1 y2 y3) (r07_One.j5 (k + 1) y0 y1 y2 y3)) ∧ (∀ y0 y1 y2 y3, LeO (r07_One.l1 k y0 y1 y2 y3) (r07_One.l1 (k + 1) y0 y1 y2 y3)) ∧ (∀ y0 y1 y2 y3, LeO (r07_One.j7 k y0 y1 y2 y3) (r07_One.j7 (k + 1) y0 y1 y2 y3)) ∧ (∀ y0 y1 y2 y3, LeO (r07_One.l2 k y0 y1 y2 y3) (r07_One.l2 (k + 1) y0 y1 y2 y3)) ∧ (∀ y0 y1 y2, LeO (r07_One.l0 k y0 y1 y2) (r07_One.l0 (k + 1) y0 y1 y2))
 | 0 => ⟨fun _ _ r h => by simp [r07_One.j0] at h, fun _ _ r h => by simp [r07_One.j1] at h, fun _ _ _ r h => by simp [r07_One.j3] at h, fun _ _ _ _ r h => by simp [r07_One.j5] at h, fun _ _ _ _ r h => by simp [r07_One.l1] at h, fun _ _ _ _ r h => by simp [r07_One.j7] at h, fun _ _ _ _ r h => by simp [r07_One.l2] at h, fun _ _ _ r h => by simp [r07_One.l0] at h⟩
 | k + 1 => by
  obtain ⟨ih0, ih1, ih2, ih3, ih4, ih5, ih6, ih7⟩ := r07_One.mono_l k; refine ⟨?_, ?_, ?_, ?_, ?_, ?_, ?_, ?_⟩
  ·intro y0 y1
   unfold r07_One.j0
   repeat' first
   | (with_reducible exact ih0 _ _)
   | (with_reducible exact ih1 _ _)
   | (with_reducible exact ih2 _ _ _)
   | (with_reducible exact ih3 _ _ _ _)
   | (with_reducible exact ih4 _ _ _ _)
   | (with_reducible exact ih5 _ _ _ _)
   | (with_reducible exact ih6 _ _ _ _)
   | (with_reducible exact ih7 _ _ _)
   | (with_reducible exact r05_Word.mono _ _)
   | (with_reducible exact r07_Sign.mono _ _ _)
   | (with_reducible exact r07_number.mono _ _)
   | (with_reducible exact r07_text.mono _ _ _ _)
   | (with_reducible exact LeO.refl _)
   | (with_reducible exact LeO.none _)
   | (with_reducible refine LeO.ite ?_ ?_)
   | (with_reducible refine LeO.bind ?_ (fun _ => ?_))
   | exact ih0 _ _
   | exact ih1 _ _
   | exact ih2 _ _ _
   | exact ih3 _ _ _ _
   | exact ih4 _ _ _ _
   | exact ih5 _ _ _ _
   | exact ih6 _ _ _ _
   | exact ih7 _ _ _
   | exact r05_Word.mono _ _
   | exact r07_Sign.mono _ _ _
   | exact r07_number.mono _ _
   | exact r07_text.mono _ _ _ _
   | exact LeO.none _
   | refine LeO.ite ?_ ?_
   | refine LeO.bind ?_ (fun _ => ?_)
  ·intro y0 y1
   unfold r07_One.j1
   repeat' first
   | (with_reducible exact ih0 _ _)
   | (with_reducible exact ih1 _ _)
   | (with_reducible exact ih2 _ _ _)
   | (with_reducible exact ih3 _ _ _ _)
   | (with_reducible exact ih4 _ _ _ _)
   | (with_reducible exact ih5 _ _ _ _)
   | (with_reducible exact ih6 _ _ _ _)
   | (with_reducible exact ih7 _ _ _)
   | (with_reducible exact r05_Word.mono _ _)
   | (with_reducible exact r07_Sign.mono _ _ _)
   | (with_reducible exact r07_number.mono _ _)
   | (with_reducible exact r07_text.mono _ _ _ _)
   | (with_reducible exact LeO.refl _)
   | (with_reducible exact LeO.none _)
   | (with_reducible refine LeO.ite ?_ ?_)
   | (with_reducible refine LeO.bind ?_ (fun _ => ?_))
   | exact ih0 _ _
   | exact ih1 _ _
   | exact ih2 _ _ _
   | exact ih3 _ _ _ _
   | exact ih4 _ _ _ _
   | exact ih5 _ _ _ _
   | exact ih6 _ _ _ _
   | exact ih7 _ _ _
   | exact r05_Word.mono _ _
   | exact r07_Sign.mono _ _ _
   | exact r07_number.mono _ _
   | exact r07_text.mono _ _ _ _
   | exact LeO.none _
   | refine LeO.ite ?_ ?_
   | refine LeO.bind ?_ (fun _ => ?_)
  ·intro y0 y1 y2
   unfold r07_One.j3
   repeat' first
   | (with_reducible exact ih0 _ _)
   | (with_reducible exact ih1 _ _)
   | (with_reducible exact ih2 _ _ _)
   | (with_reducible exact ih3 _ _ _ _)
   | (with_reducible exact ih4 _ _ _ _)
   | (with_reducible exact ih5 _ _ _ _)
   | (with_reducible exact ih6 _ _ _ _)
   | (with_reducible exact ih7 _ _ _)
   | (with_reducible exact r05_Word.mono _ _)
   | (with_reducible exact r07_Sign.mono _ _ _)
   | (with_reducible exact r07_number.mono _ _)
   | (with_reducible exact r07_text.mono _ _ _ _)
   | (with_reducible exact LeO.refl _)
   | (with_reducible exact LeO.none _)
   | (with_reducible refine LeO.ite ?_ ?_)
   | (with_reducible refine LeO.bind ?_ (fun _ => ?_))
   | exact ih0 _ _
   | exact ih1 _ _
   | exact ih2 _ _ _
   | exact ih3 _ _ _ _
   | exact ih4 _ _ _ _
   | exact ih5 _ _ _ _
   | exact ih6 _ _ _ _
   | exact ih7 _ _ _
   | exact r05_Word.mono _ _
   | exact r07_Sign.mono _ _ _
   | exact r07_number.mono _ _
   | exact r07_text.mono _ _ _ _
   | exact LeO.none _
   | refine LeO.ite ?_ ?_
   | refine LeO.bind ?_ (fun _ => ?_)
  ·intro y0 y1 y2 y3
   unfold r07_One.j5
   repeat' first
   | (with_reducible exact ih0 _ _)
   | (with_reducible exact ih1 _ _)
   | (with_reducible exact ih2 _ _ _)
   | (with_reducible exact ih3 _ _ _ _)
   | (with_reducible exact ih4 _ _ _ _)
   | (with_reducible exact ih5 _ _ _ _)
   | (with_reducible exact ih6 _ _ _ _)
   | (with_reducible exact ih7 _ _ _)
   | (with_reducible exact r05_Word.mono _ _)
   | (with_reducible exact r07_Sign.mono _ _ _)
   | (with_reducible exact r07_number.mono _ _)
   | (with_reducible exact r07_text.mono _ _ _ _)
   | (with_reducible exact LeO.refl _)
   | (with_reducible exact LeO.none _)
   | (with_reducible refine LeO.ite ?_ ?_)
   | (with_reducible refine LeO.bind ?_ (fun _ => ?_))
   | exact ih0 _ _
   | exact ih1 _ _
   | exact ih2 _ _ _
   | exact ih3 _ _ _ _
   | exact ih4 _ _ _ _
   | exact ih5 _ _ _ _
   | exact ih6 _ _ _ _
   | exact ih7 _ _ _
   | exact r05_Word.mono _ _
   | exact r07_Sign.mono _ _ _
   | exact r07_number.mono _ _
   | exact r07_text.mono _ _ _ _
   | exact LeO.none _
   | refine LeO.ite ?_ ?_
   | refine LeO.bind ?_ (fun _ => ?_)
  ·intro y0 y1 y2 y3
   unfold r07_One.l1
   repeat' first
   | (with_reducible exact ih0 _ _)
   | (with_reducible exact ih1 _ _)
   | (with_reducible exact ih2 _ _ _)
   | (with_reducible exact ih3 _ _ _ _)
   | (with_reducible exact ih4 _ _ _ _)
   | (with_reducible exact ih5 _ _ _ _)
   | (with_reducible exact ih6 _ _ _ _)
   | (with_reducible exact ih7 _ _ _)
   | (with_reducible exact r05_Word.mono _ _)
   | (with_reducible exact r07_Sign.mono _ _ _)
   | (with_reducible exact r07_number.mono _ _)
   | (with_reducible exact r07_text.mono _ _ _ _)
   | (with_reducible exact LeO.refl _)
   | (with_reducible exact LeO.none _)
   | (with_reducible refine LeO.ite ?_ ?_)
   | (with_reducible refine LeO.bind ?_ (fun _ => ?_))
   | exact ih0 _ _
   | exact ih1 _ _
   | exact ih2 _ _ _
   | exact ih3 _ _ _ _
   | exact ih4 _ _ _ _
   | exact ih5 _ _ _ _
   | exact ih6 _ _ _ _
   | exact ih7 _ _ _
   | exact r05_Word.mono _ _
   | exact r07_Sign.mono _ _ _
   | exact r07_number.mono _ _
   | exact r07_text.mono _ _ _ _
   | exact LeO.none _
   | refine LeO.ite ?_ ?_
   | refine LeO.bind ?_ (fun _ => ?_)
  ·intro y0 y1 y2 y3
   unfold r07_One.j7
   repeat' first
   | (with_reducible exact ih0 _ _)
   | (with_reducible exact ih1 _ _)
   | (with_reducible exact ih2 _ _ _)
   | (with_reducible exact ih3 _ _ _ _)
   | (with_reducible exact ih4 _ _ _ _)
   | (with_reducible exact ih5 _ _ _ _)
   | (with_reducible exact ih6 _ _ _ _)
   | (with_reducible exact ih7 _ _ _)
   | (with_reducible exact r05_Word.mono _ _)
   | (with_reducible exact r07_Sign.mono _ _ _)
   | (with_reducible exact r07_number.mono _ _)
   | (with_reducible exact r07_text.mono _ _ _ _)
   | (with_reducible exact LeO.refl _)
   | (with_reducible exact LeO.none _)
   | (with_reducible refine LeO.ite ?_ ?_)
   | (with_reducible refine LeO.bind ?_ (fun _ => ?_))
   | exact ih0 _ _
   | exact ih1 _ _
   | exact ih2 _ _ _
   | exact ih3 _ _ _ _
   | exact ih4 _ _ _ _
   | exact ih5 _ _ _ _
   | exact ih6 _ _ _ _
   | exact ih7 _ _ _
   | exact r05_Word.mono _ _
   | exact r07_Sign.mono _ _ _
   | exact r07_number.mono _ _
   | exact r07_text.mono _ _ _ _
   | exact LeO.none _
   | refine LeO.ite ?_ ?_
   | refine LeO.bind ?_ (fun _ => ?_)
  ·intro y0 y1 y2 y3
   unfold r07_One.l2
   repeat' first
   | (with_reducible exact ih0 _ _)
   | (with_reducible exact ih1 _ _)
   | (with_reducible exact ih2 _ _ _)
   | (with_reducible exact ih3 _ _ _ _)
   | (with_reducible exact ih4 _ _ _ _)
   | (with_reducible exact ih5 _ _ _ _)
   | (with_reducible exact ih6 _ _ _ _)
   | (with_reducible exact ih7 _ _ _)
   | (with_reducible exact r05_Word.mono _ _)
   | (with_reducible exact r07_Sign.mono _ _ _)
   | (with_reducible exact r07_number.mono _ _)
   | (with_reducible exact r07_text.mono _ _ _ _)
   | (with_reducible exact LeO.refl _)
   | (with_reducible exact LeO.none _)
   | (with_reducible refine LeO.ite ?_ ?_)
   | (with_reducible refine LeO.bind ?_ (fun _ => ?_))
   | exact ih0 _ _
   | exact ih1 _ _
   | exact ih2 _ _ _
   | exact ih3 _ _ _ _
   | exact ih4 _ _ _ _
   | exact ih5 _ _ _ _
   | exact ih6 _ _ _ _
   | exact ih7 _ _ _
   | exact r05_Word.mono _ _
   | exact r07_Sign.mono _ _ _
   | exact r07_number.mono _ _
   | exact r07_text.mono _ _ _ _
   | exact LeO.none _
   | refine LeO.ite ?_ ?_
   | refine LeO.bind ?_ (fun _ => ?_)
  ·intro y0 y1 y2
   unfold r07_One.l0
   repeat' first
   | (with_reducible exact ih0 _ _)
   | (with_reducible exact ih1 _ _)
   | (with_reducible exact ih2 _ _ _)
   | (with_reducible exact ih3 _ _ _ _)
   | (with_reducible exact ih4 _ _ _ _)
   | (with_reducible exact ih5 _ _ _ _)
   | (with_reducible exact ih6 _ _ _ _)
   | (with_reducible exact ih7 _ _ _)
   | (with_reducible exact r05_Word.mono _ _)
   | (with_reducible exact r07_Sign.mono _ _ _)
   | (with_reducible exact r07_number.mono _ _)
   | (with_reducible exact r07_text.mono _ _ _ _)
   | (with_reducible exact LeO.refl _)
   | (with_reducible exact LeO.none _)
   | (with_reducible refine LeO.ite ?_ ?_)
   | (with_reducible refine LeO.bind ?_ (fun _ => ?_))
   | exact ih0 _ _
   | exact ih1 _ _
   | exact ih2 _ _ _
   | exact ih3 _ _ _ _
   | exact ih4 _ _ _ _
   | exact ih5 _ _ _ _
   | exact ih6 _ _ _ _
   | exact ih7 _ _ _
   | exact r05_Word.mono _ _
   | exact r07_Sign.mono _ _ _
   | exact r07_number.mono _ _
   | exact r07_text.mono _ _ _ _
   | exact LeO.none _
   | refine LeO.ite ?_ ?_
   | refine LeO.bind ?_ (fun _ => ?_)
theorem r07_One.mono : ∀ a0 a1 k, LeO (r07_One.f k a0 a1) (r07_One.f (k + 1) a0 a1) := by
 intro a0 a1 k; obtain ⟨ih0, ih1, ih2, ih3, ih4, ih5, ih6, ih7⟩ := r07_One.mono_l k; unfold r07_One.f
 repeat' first
   | (with_reducible exact ih0 _ _)
   | (with_reducible exact ih1 _ _)
   | (with_reducible exact ih2 _ _ _)
   | (with_reducible exact ih3 _ _ _ _)
   | (with_reducible exact ih4 _ _ _ _)
   | (with_reducible exact ih5 _ _ _ _)
   | (with_reducible exact ih6 _ _ _ _)
   | (with_reducible exact ih7 _ _ _)
   | (with_reducible exact r05_Word.mono _ _)
   | (with_reducible exact r07_Sign.mono _ _ _)
   | (with_reducible exact r07_number.mono _ _)
   | (with_reducible exact r07_text.mono _ _ _ _)
   | (with_reducible exact LeO.refl _)
   | (with_reducible exact LeO.none _)
   | (with_reducible refine LeO.ite ?_ ?_)
   | (with_reducible refine LeO.bind ?_ (fun _ => ?_))
   | exact ih0 _ _
   | exact ih1 _ _
   | exact ih2 _ _ _
   | exact ih3 _ _ _ _
   | exact ih4 _ _ _ _
   | exact ih5 _ _ _ _
   | exact ih6 _ _ _ _
   | exact ih7 _ _ _
   | exact r05_Word.mono _ _
   | exact r07_Sign.mono _ _ _
   | exact r07_number.mono _ _
   | exact r07_text.mono _ _ _ _
   | exact LeO.none _
   | refine LeO.ite ?_ ?_
   | refine LeO.bind ?_ (fun _ => ?_)
theorem r07_One.calls (k : Nat) (a0 : ByteArray) (a1 : Int) (r1 : Int) (r2 : ByteArray) (r3 : Int) (r4 : Int) (r5 : Int) (r6 : Int) (w : World) (h : r07_One.f k a0 a1 = some (r1, r2, r3, r4, r5, r6)) :
  Calls Try.prog 44 #[.string a0, .int .i64 a1] w fun e w' => e = .returned (.tuple #[.agg #[.int .i64 r1, .string r2, .int .i64 r3, .int .i64 r4], .int .i64 r5, .int .i64 r6]) ∧ Below w.heap.size w w' := by
 have hu91 := Try.underlying91; have HB := am_ (Below.refl w.heap.size w); have H : (if a1 < 0 then (r07_One.j0 k a0 0) else (r07_One.j0 k a0 a1)) = some (r1, r2, r3, r4, r5, r6) := h; clear h; have HC3 := am_ H; clear H
 go_enter Try.func44, Try.ntmps44
 go_upto_if 13 with (first | ((with_reducible refine gate_dst (N := 4) rfl ?_); (try (refine gate_guard (by rfl) ?_; dsimp only)); refine box_event ?hg (N := 4) ?hd (cs := #[.int .i64 0, .string (⟨#[]⟩ : ByteArray), .int .i64 0, .int .i64 0]) (t := 91) ?hr ?_; (case hd => rfl); (case hg => rfl); (case hr => first | (go_simp; done) | (go_simp; rfl)); intro gb201 hg w4 hbox hb; have BK201 := am_ (hbox); have GW201 := am_ ((by rw [hg]; exact (below_size (bl_)) : w.heap.size ≤ gb201)); have GE201 := am_ ((by rw [hg]; exact (below_size (bl_)) : w.heap.size ≤ gb201)); replace HB := am_ (below_step (bl_) hb); clear hb hbox hg))
 (try simp only [Act.put, sa_, sz_, ss_])
 go_cut [1] (fun v1 wc => ∃ (kq : Nat) (x1_2 : Int), v1 = .int .i64 x1_2 ∧ Aside0 (r07_One.j0 kq a0 x1_2 = some (r1, r2, r3, r4, r5, r6)) ∧ Aside0 (kq ≤ k) ∧ Aside0 (wc.heap[gb201]? = some (.cells #[.int .i64 0, .string (⟨#[]⟩ : ByteArray), .int .i64 0, .int .i64 0] 91 (0, 0))) ∧ Aside0 (Below w.heap.size w wc))
 case first =>
  have H := HC3.out; clear HC3
  by_cases c5 : a1 < 0
  ·rw [if_pos c5] at H
   have c5b0 : decide (a1 < 0) = true := decide_eq_true c5; clear c5; (first | rw [c5b0] | (simp only [i64_w, i32_w]; rw [c5b0]) | skip); have H' := am_ H; clear H
   go_wp2
   go_meet
   case rel => exact ⟨_, (0), (rs_), H', ⟨by first | omega | exact Nat.le_refl _⟩, ⟨bk_ BK201.out⟩, ⟨bl_⟩⟩
  ·rw [if_neg c5] at H
   have c5b0 : decide (a1 < 0) = false := decide_eq_false c5; clear c5; (first | rw [c5b0] | (simp only [i64_w, i32_w]; rw [c5b0]) | skip); have H' := am_ H; clear H
   go_wp2
   go_meet
   case rel => exact ⟨_, (a1), (rs_), H', ⟨by first | omega | exact Nat.le_refl _⟩, ⟨bk_ BK201.out⟩, ⟨bl_⟩⟩
 case rest =>
  clear HC3; (try clear p2); (try clear c4); (try clear c5); (try clear c5b0); obtain ⟨kq, x1_2, rfl, HA, HJ2, BK201, HB⟩ := hcut
  cases kq with
  | zero => exact absurd HA.out (by simp [r07_One.j0])
  | succ kj2 =>
   have H := HA.out; clear HA; simp only [r07_One.j0] at H; have HC6 := am_ H; clear H
   go_upto_if 17 with (fail)
   go_cut [1] (fun v1 wc => ∃ (kq : Nat) (x1_5 : Int), v1 = .int .i64 x1_5 ∧ Aside0 (r07_One.j1 kq a0 x1_5 = some (r1, r2, r3, r4, r5, r6)) ∧ Aside0 (kq ≤ kj2) ∧ Aside0 (wc.heap[gb201]? = some (.cells #[.int .i64 0, .string (⟨#[]⟩ : ByteArray), .int .i64 0, .int .i64 0] 91 (0, 0))) ∧ Aside0 (Below w.heap.size w wc))
   case first =>
    have H := HC6.out; clear HC6
    by_cases c7 : x1_2 > (a0.size : Int)
    ·rw [if_pos c7] at H
     have c7b0 : decide ((a0.size : Int) < x1_2) = true := decide_eq_true c7; clear c7; (first | rw [c7b0] | (simp only [i64_w, i32_w]; rw [c7b0]) | skip); have H' := am_ H; clear H
     go_wp2
     go_meet
     case rel => exact ⟨_, ((a0.size : Int)), (rs_), H', ⟨by have := HJ2.out; first | omega | exact Nat.le_refl _⟩, ⟨bk_ BK201.out⟩, ⟨bl_⟩⟩
    ·rw [if_neg c7] at H
     have c7b0 : decide ((a0.size : Int) < x1_2) = false := decide_eq_false c7; clear c7; (first | rw [c7b0] | (simp only [i64_w, i32_w]; rw [c7b0]) | skip); have H' := am_ H; clear H
     go_wp2
     go_meet
     case rel => exact ⟨_, (x1_2), (rs_), H', ⟨by have := HJ2.out; first | omega | exact Nat.le_refl _⟩, ⟨bk_ BK201.out⟩, ⟨bl_⟩⟩
   case rest =>
    clear HC6; (try clear p2); (try clear c4); (try clear c5); (try clear c5b0); (try clear c7); (try clear c7b0); (try clear p2); obtain ⟨kq, x1_5, rfl, HA, HJ5, BK201, HB⟩ := hcut
    cases kq with
    | zero => exact absurd HA.out (by simp [r07_One.j1])
    | succ kj5 =>
     have H := HA.out; clear HA; simp only [r07_One.j1] at H; have HC8 := am_ H; clear H
     go_upto_block 0 with (fail)
     go_cut [7] (fun v7 wc => ∃ (kq : Nat) (x7_7 : Int), v7 = .int .i64 x7_7 ∧ Aside0 (r07_One.j3 kq a0 x1_5 x7_7 = some (r1, r2, r3, r4, r5, r6)) ∧ Aside0 (kq ≤ kj5) ∧ Aside0 (wc.heap[gb201]? = some (.cells #[.int .i64 0, .string (⟨#[]⟩ : ByteArray), .int .i64 0, .int .i64 0] 91 (0, 0))) ∧ Aside0 (Below w.heap.size w wc))
     case first =>
      have H := HC8.out; clear HC8; have H' := am_ H; clear H
      go_wp2
      go_loopg [7] kj5 (fun kq v7 w' => ∃ (x7_3 : Int), v7 = .int .i64 x7_3 ∧ Aside0 (r07_One.l0 kq a0 x1_5 x7_3 = some (r1, r2, r3, r4, r5, r6)) ∧ Aside0 (kq ≤ kj5) ∧ Aside0 (w'.heap[gb201]? = some (.cells #[.int .i64 0, .string (⟨#[]⟩ : ByteArray), .int .i64 0, .int .i64 0] 91 (0, 0))) ∧ Aside0 (Below w.heap.size w w'))
      case atStart => exact ⟨(x1_5), (rs_), H', ⟨Nat.le_refl _⟩, ⟨bk_ BK201.out⟩, ⟨bl_⟩⟩
      case round =>
       clear H'; (try clear p2); (try clear c4); (try clear c5); (try clear c5b0); (try clear c7); (try clear c7b0); (try clear p2); obtain ⟨x7_3, rfl, HA, HK3, BK201, HB⟩ := hrel
       cases gk with
       | zero => exact absurd HA.out (by simp [r07_One.l0])
       | succ k3 =>
        have H := HA.out; clear HA; simp only [r07_One.l0] at H
        by_cases c9 : x7_3 < (a0.size : Int)
        ·rw [if_pos c9] at H
         have c9b0 : decide (x7_3 < (a0.size : Int)) = true := decide_eq_true c9; clear c9; (first | rw [c9b0] | (simp only [i64_w, i32_w]; rw [c9b0]) | skip)
         by_cases c10 : 0 ≤ x7_3
         ·rw [if_pos c10] at H
          have c10b0 : decide (0 ≤ x7_3) = true := decide_eq_true c10; clear c10; replace H := Option.bind_eq_some_iff.mp H; obtain ⟨t202, A120, H⟩ := H; replace H : (if t202 = true then (r07_One.l0 k3 a0 x1_5 (wrap64 (x7_3 + 1))) else (r07_One.j3 k3 a0 x1_5 x7_3)) = some (r1, r2, r3, r4, r5, r6) := H; have A12 := am_ A120; clear A120
          by_cases c13 : t202 = true
          ·subst c13
           have H1 : (r07_One.l0 k3 a0 x1_5 (wrap64 (x7_3 + 1))) = some (r1, r2, r3, r4, r5, r6) := by rw [if_pos rfl] at H; exact H
           clear H; have H := H1; clear H1; have H' := am_ H; clear H; have p11 : 0 ≤ (x7_3 : Int) := of_decide_eq_true (as_); have q11 : x7_3 < (a0.size : Int) := of_decide_eq_true (as_); have hx11 := bt_at a0 x7_3; replace p11 := eq_true p11; replace q11 := eq_true q11
           go_wp2_with (first | (go_at_call 83; (with_reducible refine (r07_Blank.calls (bt a0 x7_3) true _ A12.out).mono ?_); rintro e w' ⟨rfl, ⟨nd, rfl⟩⟩))
           go_roundg k3
           case measure => have := HJ2.out; have := HJ5.out; have := HK3.out; omega
           case rel => exact ⟨(wrap64 (x7_3 + 1)), (rs_), H', ⟨by have := HJ2.out; have := HJ5.out; have := HK3.out; omega⟩, ⟨bk_ BK201.out⟩, ⟨bl_⟩⟩
          ·replace c13 := Bool.eq_false_iff.mpr c13
           subst c13
           have H1 : (r07_One.j3 k3 a0 x1_5 x7_3) = some (r1, r2, r3, r4, r5, r6) := by rw [if_neg (show ¬ (false = true) by decide)] at H; exact H
           clear H; have H := H1; clear H1; have H' := am_ H; clear H; have p11 : 0 ≤ (x7_3 : Int) := of_decide_eq_true (as_); have q11 : x7_3 < (a0.size : Int) := of_decide_eq_true (as_); have hx11 := bt_at a0 x7_3; replace p11 := eq_true p11; replace q11 := eq_true q11
           go_wp2_with (first | (go_at_call 83; (with_reducible refine (r07_Blank.calls (bt a0 x7_3) false _ A12.out).mono ?_); rintro e w' ⟨rfl, ⟨nd, rfl⟩⟩))
           go_meet
           case rel => exact ⟨_, (x7_3), (rs_), H', ⟨by have := HJ2.out; have := HJ5.out; have := HK3.out; first | omega | exact Nat.le_refl _⟩, ⟨bk_ BK201.out⟩, ⟨bl_⟩⟩
         ·rw [if_neg c10] at H
          exact absurd H (by simp)
        ·rw [if_neg c9] at H
         have c9b0 : decide (x7_3 < (a0.size : Int)) = false := decide_eq_false c9; clear c9; (first | rw [c9b0] | (simp only [i64_w, i32_w]; rw [c9b0]) | skip); have H' := am_ H; clear H
         go_wp2
         go_meet
         case rel => exact ⟨_, (x7_3), (rs_), H', ⟨by have := HJ2.out; have := HJ5.out; have := HK3.out; first | omega | exact Nat.le_refl _⟩, ⟨bk_ BK201.out⟩, ⟨bl_⟩⟩
     case rest =>
      clear HC8; (try clear c1); (try clear p1); (try clear q1); (try clear hx1); (try clear p2); (try clear c4); (try clear c5); (try clear c5b0); (try clear p6); (try clear c7); (try clear c7b0); (try clear c9); (try clear c9b0); (try clear c10); (try clear c10b0); (try clear p11); (try clear q11); (try clear hx11); (try clear c13); (try clear p11); (try clear p2); (try clear q11); obtain ⟨kq, x7_7, rfl, HA, HJ7, BK201, HB⟩ := hcut
      cases kq with
      | zero => exact absurd HA.out (by simp [r07_One.j3])
      | succ kj7 =>
       have H := HA.out; clear HA; simp only [r07_One.j3] at H
       by_cases c14 : x7_7 = (a0.size : Int)
       ·rw [if_pos c14] at H
        have c14b0 : (x7_7 == (a0.size : Int)) = true := beq_iff_eq.mpr c14; have c14b1 : (x7_7 != (a0.size : Int)) = false := bne_eq_false_iff_eq.mpr c14; clear c14; simp only [Option.some.injEq, Prod.mk.injEq] at H; obtain ⟨rfl, rfl, rfl, rfl, rfl, rfl⟩ := H; obtain ⟨hcz15_0, hcz15_1, hcz15_2, hcz15_3, hfz15_0, hfz15_1, hfz15_2, hfz15_3⟩ := bw4_ BK201.out
        go_wp2
        refine bodyPost_ret (results_ctt rfl _ _ gb201 91 #[.int .i64 0, .string (⟨#[]⟩ : ByteArray), .int .i64 0, .int .i64 x7_7] (0, 0) _ rfl (by refine bp_ ?_; refine blk_put (cs := #[.int .i64 0, .string (⟨#[]⟩ : ByteArray), .int .i64 0, .int .i64 0]) ?_ 3 _ rfl; refine bp_ ?_; refine blk_put (cs := #[.int .i64 0, .string (⟨#[]⟩ : ByteArray), .int .i64 0, .int .i64 0]) ?_ 2 _ rfl; refine bp_ ?_; refine blk_put (cs := #[.int .i64 0, .string (⟨#[]⟩ : ByteArray), .int .i64 0, .int .i64 0]) ?_ 1 _ rfl; refine bp_ ?_; refine blk_put (cs := #[.int .i64 0, .string (⟨#[]⟩ : ByteArray), .int .i64 0, .int .i64 0]) ?_ 0 _ rfl; refine bp_ ?_; exact BK201.out) Try.underlying91 rfl (by kernel_rfl)) rfl ?_; exact ⟨ew_, bl_⟩
       ·rw [if_neg c14] at H
        have c14b0 : (x7_7 == (a0.size : Int)) = false := beq_eq_false_iff_ne.mpr c14; have c14b1 : (x7_7 != (a0.size : Int)) = true := bne_iff_ne.mpr c14
        by_cases c16 : 0 ≤ x7_7
        ·rw [if_pos c16] at H
         have c16b0 : decide (0 ≤ x7_7) = true := decide_eq_true c16; clear c16
         by_cases c17 : x7_7 < (a0.size : Int)
         ·rw [if_pos c17] at H
          have c17b0 : decide (x7_7 < (a0.size : Int)) = true := decide_eq_true c17; clear c17; replace H := Option.bind_eq_some_iff.mp H; obtain ⟨t203, A190, H⟩ := H; replace H : (if t203 = true then (r07_One.l1 kj7 a0 x1_5 x7_7 x7_7) else ((r07_digit.f (bt a0 x7_7)).bind fun t207 => (if t207 = true then (r07_One.l2 kj7 a0 x1_5 x7_7 x7_7) else (if (bt a0 x7_7) = 39 then ((r07_text.f kj7 a0 x1_5 x7_7).bind fun bt212 => (some (bt212.1, bt212.2.1, bt212.2.2.1, bt212.2.2.2.1, bt212.2.2.2.2.1, bt212.2.2.2.2.2))) else ((r07_Sign.f kj7 a0 x7_7).bind fun t218 => (if t218.toList = ([] : List UInt8) then (some (0, (⟨#[]⟩ : ByteArray), 0, 0, x1_5, 1)) else (some (5, t218, 0, x7_7, wrap64 (x7_7 + (t218.size : Int)), 0)))))))) = some (r1, r2, r3, r4, r5, r6) := H; have A19 := am_ A190; clear A190
          by_cases c20 : t203 = true
          ·subst c20
           have H1 : (r07_One.l1 kj7 a0 x1_5 x7_7 x7_7) = some (r1, r2, r3, r4, r5, r6) := by rw [if_pos rfl] at H; exact H
           clear H; have H := H1; clear H1; have HC21 := am_ H; clear H; have p18 : 0 ≤ (x7_7 : Int) := of_decide_eq_true (as_); have q18 : x7_7 < (a0.size : Int) := of_decide_eq_true (as_); have hx18 := bt_at a0 x7_7; replace p18 := eq_true p18; replace q18 := eq_true q18
           go_upto_block 2 with (first | ((with_reducible refine gate_callee (f := 84) rfl ?_); refine goesL_ (some 44) rfl rfl Try.func84 (by kernel_rfl) rfl #[.int .u8 (bt a0 x7_7)] rfl (by (try simp only [List.map_toArray, List.map_cons, List.map_nil]); first | done | rfl | (simp only [List.length_drop, List.length_take]; rfl)) ?_; (with_reducible refine (r07_letter.calls (bt a0 x7_7) true _ A19.out).mono ?_); rintro e w' ⟨rfl, ⟨nd, rfl⟩⟩; refine ⟨_, rfl, ?_⟩))
           (try simp only [Act.put, sa_, sz_, ss_])
           go_cut [8] (fun v8 wc => ∃ (kq : Nat) (x8_20 : Int), v8 = .int .i64 x8_20 ∧ Aside0 (r07_One.j5 kq a0 x1_5 x7_7 x8_20 = some (r1, r2, r3, r4, r5, r6)) ∧ Aside0 (kq ≤ kj7) ∧ Aside0 (wc.heap[gb201]? = some (.cells #[.int .i64 0, .string (⟨#[]⟩ : ByteArray), .int .i64 0, .int .i64 0] 91 (0, 0))) ∧ Aside0 (Below w.heap.size w wc))
           case first =>
            have H := HC21.out; clear HC21; have H' := am_ H; clear H
            go_wp2
            go_loopg [8] kj7 (fun kq v8 w' => ∃ (x8_4 : Int), v8 = .int .i64 x8_4 ∧ Aside0 (r07_One.l1 kq a0 x1_5 x7_7 x8_4 = some (r1, r2, r3, r4, r5, r6)) ∧ Aside0 (kq ≤ kj7) ∧ Aside0 (w'.heap[gb201]? = some (.cells #[.int .i64 0, .string (⟨#[]⟩ : ByteArray), .int .i64 0, .int .i64 0] 91 (0, 0))) ∧ Aside0 (Below w.heap.size w w'))
            case atStart => exact ⟨(x7_7), (rs_), H', ⟨Nat.le_refl _⟩, ⟨bk_ BK201.out⟩, ⟨bl_⟩⟩
            case round =>
             clear H'; (try clear c1); (try clear p1); (try clear q1); (try clear hx1); (try clear c2); (try clear p2); (try clear c4); (try clear c5); (try clear c5b0); (try clear p6); (try clear c7); (try clear c7b0); (try clear c8); (try clear c9); (try clear c9b0); (try clear c10); (try clear c10b0); (try clear p11); (try clear q11); (try clear hx11); (try clear c13); (try clear c14); (try clear c14b0); (try clear c14b1); (try clear c16); (try clear c16b0); (try clear c17); (try clear c17b0); (try clear p18); (try clear q18); (try clear hx18); (try clear c20); (try clear hcz15_0); (try clear hcz15_1); (try clear hcz15_2); (try clear hcz15_3); (try clear hfz15_0); (try clear hfz15_1); (try clear hfz15_2); (try clear hfz15_3); (try clear p1); (try clear p11); (try clear p18); (try clear p2); (try clear p6); (try clear q1); (try clear q11); (try clear q18); obtain ⟨x8_4, rfl, HA, HK4, BK201, HB⟩ := hrel
             cases gk with
             | zero => exact absurd HA.out (by simp [r07_One.l1])
             | succ k4 =>
              have H := HA.out; clear HA; simp only [r07_One.l1] at H
              by_cases c22 : x8_4 < (a0.size : Int)
              ·rw [if_pos c22] at H
               have c22b0 : decide (x8_4 < (a0.size : Int)) = true := decide_eq_true c22; clear c22; (first | rw [c22b0] | (simp only [i64_w, i32_w]; rw [c22b0]) | skip)
               by_cases c23 : 0 ≤ x8_4
               ·rw [if_pos c23] at H
                have c23b0 : decide (0 ≤ x8_4) = true := decide_eq_true c23; clear c23; replace H := Option.bind_eq_some_iff.mp H; obtain ⟨t204, A250, H⟩ := H; replace H : (if t204 = true then (r07_One.l1 k4 a0 x1_5 x7_7 (wrap64 (x8_4 + 1))) else ((r07_digit.f (bt a0 x8_4)).bind fun t205 => (if t205 = true then (r07_One.l1 k4 a0 x1_5 x7_7 (wrap64 (x8_4 + 1))) else (r07_One.j5 k4 a0 x1_5 x7_7 x8_4)))) = some (r1, r2, r3, r4, r5, r6) := H; have A25 := am_ A250; clear A250
                by_cases c26 : t204 = true
                ·subst c26
                 have H1 : (r07_One.l1 k4 a0 x1_5 x7_7 (wrap64 (x8_4 + 1))) = some (r1, r2, r3, r4, r5, r6) := by rw [if_pos rfl] at H; exact H
                 clear H; have H := H1; clear H1; have H' := am_ H; clear H; have p24 : 0 ≤ (x8_4 : Int) := of_decide_eq_true (as_); have q24 : x8_4 < (a0.size : Int) := of_decide_eq_true (as_); have hx24 := bt_at a0 x8_4; replace p24 := eq_true p24; replace q24 := eq_true q24
                 go_wp2_with (first | (go_at_call 84; (with_reducible refine (r07_letter.calls (bt a0 x8_4) true _ A25.out).mono ?_); rintro e w' ⟨rfl, ⟨nd, rfl⟩⟩))
                 go_roundg k4
                 case measure => have := HJ2.out; have := HJ5.out; have := HJ7.out; have := HK4.out; omega
                 case rel => exact ⟨(wrap64 (x8_4 + 1)), (rs_), H', ⟨by have := HJ2.out; have := HJ5.out; have := HJ7.out; have := HK4.out; omega⟩, ⟨bk_ BK201.out⟩, ⟨bl_⟩⟩
                ·replace c26 := Bool.eq_false_iff.mpr c26
                 subst c26
                 have H1 : ((r07_digit.f (bt a0 x8_4)).bind fun t205 => (if t205 = true then (r07_One.l1 k4 a0 x1_5 x7_7 (wrap64 (x8_4 + 1))) else (r07_One.j5 k4 a0 x1_5 x7_7 x8_4))) = some (r1, r2, r3, r4, r5, r6) := by rw [if_neg (show ¬ (false = true) by decide)] at H; exact H
                 clear H; have H := H1; clear H1; replace H := Option.bind_eq_some_iff.mp H; obtain ⟨t205, A280, H⟩ := H; replace H : (if t205 = true then (r07_One.l1 k4 a0 x1_5 x7_7 (wrap64 (x8_4 + 1))) else (r07_One.j5 k4 a0 x1_5 x7_7 x8_4)) = some (r1, r2, r3, r4, r5, r6) := H; have A28 := am_ A280; clear A280
                 by_cases c29 : t205 = true
                 ·subst c29
                  have H1 : (r07_One.l1 k4 a0 x1_5 x7_7 (wrap64 (x8_4 + 1))) = some (r1, r2, r3, r4, r5, r6) := by rw [if_pos rfl] at H; exact H
                  clear H; have H := H1; clear H1; have H' := am_ H; clear H; have p24 : 0 ≤ (x8_4 : Int) := of_decide_eq_true (as_); have q24 : x8_4 < (a0.size : Int) := of_decide_eq_true (as_); have hx24 := bt_at a0 x8_4; replace p24 := eq_true p24; replace q24 := eq_true q24
                  go_wp2_with (first | (go_at_call 84; (with_reducible refine (r07_letter.calls (bt a0 x8_4) false _ A25.out).mono ?_); rintro e w' ⟨rfl, ⟨nd, rfl⟩⟩; have p27 : 0 ≤ (x8_4 : Int) := of_decide_eq_true (as_); have q27 : x8_4 < (a0.size : Int) := of_decide_eq_true (as_); have hx27 := bt_at a0 x8_4; replace p27 := eq_true p27; replace q27 := eq_true q27) | (go_at_call 85; (with_reducible refine (r07_digit.calls (bt a0 x8_4) true _ A28.out).mono ?_); rintro e w' ⟨rfl, ⟨nd, rfl⟩⟩))
                  go_roundg k4
                  case measure => have := HJ2.out; have := HJ5.out; have := HJ7.out; have := HK4.out; omega
                  case rel => exact ⟨(wrap64 (x8_4 + 1)), (rs_), H', ⟨by have := HJ2.out; have := HJ5.out; have := HJ7.out; have := HK4.out; omega⟩, ⟨bk_ BK201.out⟩, ⟨bl_⟩⟩
                 ·replace c29 := Bool.eq_false_iff.mpr c29
                  subst c29
                  have H1 : (r07_One.j5 k4 a0 x1_5 x7_7 x8_4) = some (r1, r2, r3, r4, r5, r6) := by rw [if_neg (show ¬ (false = true) by decide)] at H; exact H
                  clear H; have H := H1; clear H1; have H' := am_ H; clear H; have p24 : 0 ≤ (x8_4 : Int) := of_decide_eq_true (as_); have q24 : x8_4 < (a0.size : Int) := of_decide_eq_true (as_); have hx24 := bt_at a0 x8_4; replace p24 := eq_true p24; replace q24 := eq_true q24
                  go_wp2_with (first | (go_at_call 84; (with_reducible refine (r07_letter.calls (bt a0 x8_4) false _ A25.out).mono ?_); rintro e w' ⟨rfl, ⟨nd, rfl⟩⟩; have p27 : 0 ≤ (x8_4 : Int) := of_decide_eq_true (as_); have q27 : x8_4 < (a0.size : Int) := of_decide_eq_true (as_); have hx27 := bt_at a0 x8_4; replace p27 := eq_true p27; replace q27 := eq_true q27) | (go_at_call 85; (with_reducible refine (r07_digit.calls (bt a0 x8_4) false _ A28.out).mono ?_); rintro e w' ⟨rfl, ⟨nd, rfl⟩⟩))
                  go_meet
                  case rel => exact ⟨_, (x8_4), (rs_), H', ⟨by have := HJ2.out; have := HJ5.out; have := HJ7.out; have := HK4.out; first | omega | exact Nat.le_refl _⟩, ⟨bk_ BK201.out⟩, ⟨bl_⟩⟩
               ·rw [if_neg c23] at H
                exact absurd H (by simp)
              ·rw [if_neg c22] at H
               have c22b0 : decide (x8_4 < (a0.size : Int)) = false := decide_eq_false c22; clear c22; (first | rw [c22b0] | (simp only [i64_w, i32_w]; rw [c22b0]) | skip); have H' := am_ H; clear H
               go_wp2
               go_meet
               case rel => exact ⟨_, (x8_4), (rs_), H', ⟨by have := HJ2.out; have := HJ5.out; have := HJ7.out; have := HK4.out; first | omega | exact Nat.le_refl _⟩, ⟨bk_ BK201.out⟩, ⟨bl_⟩⟩
           case rest =>
            clear HC21; (try clear c1); (try clear p1); (try clear q1); (try clear hx1); (try clear c2); (try clear p2); (try clear q2); (try clear hx2); (try clear c4); (try clear c5); (try clear c5b0); (try clear p6); (try clear c7); (try clear c7b0); (try clear c8); (try clear c9); (try clear c9b0); (try clear c10); (try clear c10b0); (try clear p11); (try clear q11); (try clear hx11); (try clear c13); (try clear c14); (try clear c14b0); (try clear c14b1); (try clear c16); (try clear c16b0); (try clear c17); (try clear c17b0); (try clear p18); (try clear q18); (try clear hx18); (try clear c20); (try clear c22); (try clear c22b0); (try clear c23); (try clear c23b0); (try clear p24); (try clear q24); (try clear hx24); (try clear c26); (try clear p27); (try clear q27); (try clear hx27); (try clear c29); (try clear hcz15_0); (try clear hcz15_1); (try clear hcz15_2); (try clear hcz15_3); (try clear hfz15_0); (try clear hfz15_1); (try clear hfz15_2); (try clear hfz15_3); (try clear p1); (try clear p11); (try clear p18); (try clear p2); (try clear p24); (try clear p27); (try clear p6); (try clear q1); (try clear q11); (try clear q18); (try clear q24); (try clear q27); obtain ⟨kq, x8_20, rfl, HA, HJ20, BK201, HB⟩ := hcut
            cases kq with
            | zero => exact absurd HA.out (by simp [r07_One.j5])
            | succ kj20 =>
             have H := HA.out; clear HA; simp only [r07_One.j5] at H
             by_cases c30 : (wrap64 (x8_20 - x7_7)) > 32
             ·rw [if_pos c30] at H
              have c30b0 : decide (32 < (wrap64 (x8_20 - x7_7))) = true := decide_eq_true c30; clear c30; simp only [Option.some.injEq, Prod.mk.injEq] at H; obtain ⟨rfl, rfl, rfl, rfl, rfl, rfl⟩ := H; obtain ⟨hcz31_0, hcz31_1, hcz31_2, hcz31_3, hfz31_0, hfz31_1, hfz31_2, hfz31_3⟩ := bw4_ BK201.out
              go_wp2
              refine bodyPost_ret (results_ctt rfl _ _ gb201 91 #[.int .i64 0, .string (⟨#[]⟩ : ByteArray), .int .i64 0, .int .i64 0] (0, 0) _ rfl (by refine bp_ ?_; refine blk_put (cs := #[.int .i64 0, .string (⟨#[]⟩ : ByteArray), .int .i64 0, .int .i64 0]) ?_ 3 _ rfl; refine bp_ ?_; refine blk_put (cs := #[.int .i64 0, .string (⟨#[]⟩ : ByteArray), .int .i64 0, .int .i64 0]) ?_ 2 _ rfl; refine bp_ ?_; refine blk_put (cs := #[.int .i64 0, .string (⟨#[]⟩ : ByteArray), .int .i64 0, .int .i64 0]) ?_ 1 _ rfl; refine bp_ ?_; refine blk_put (cs := #[.int .i64 0, .string (⟨#[]⟩ : ByteArray), .int .i64 0, .int .i64 0]) ?_ 0 _ rfl; refine bp_ ?_; exact BK201.out) Try.underlying91 rfl (by kernel_rfl)) rfl ?_; exact ⟨ew_, bl_⟩
             ·rw [if_neg c30] at H
              have c30b0 : decide (32 < (wrap64 (x8_20 - x7_7))) = false := decide_eq_false c30; clear c30
              by_cases c32 : 0 ≤ x7_7
              ·rw [if_pos c32] at H
               have c32b0 := eq_true c32; have c32b1 : decide (0 ≤ x7_7) = true := decide_eq_true c32; clear c32
               by_cases c33 : x7_7 ≤ x8_20
               ·rw [if_pos c33] at H
                have c33b0 := eq_true c33; have c33b1 : decide (x7_7 ≤ x8_20) = true := decide_eq_true c33; clear c33
                by_cases c34 : x8_20 ≤ (a0.size : Int)
                ·rw [if_pos c34] at H
                 have c34b0 := eq_true c34; have c34b1 : decide (x8_20 ≤ (a0.size : Int)) = true := decide_eq_true c34; clear c34; replace H := Option.bind_eq_some_iff.mp H; obtain ⟨t206, A350, H⟩ := H; replace H : (if t206 = true then (some (2, a0.extract (x7_7 : Int).toNat (x8_20 : Int).toNat, 0, x7_7, x8_20, 0)) else (some (1, a0.extract (x7_7 : Int).toNat (x8_20 : Int).toNat, 0, x7_7, x8_20, 0))) = some (r1, r2, r3, r4, r5, r6) := H; have A35 := am_ A350; clear A350
                 by_cases c36 : t206 = true
                 ·subst c36
                  have H1 : (some (2, a0.extract (x7_7 : Int).toNat (x8_20 : Int).toNat, 0, x7_7, x8_20, 0)) = some (r1, r2, r3, r4, r5, r6) := by rw [if_pos rfl] at H; exact H
                  clear H; have H := H1; clear H1; have c37b0 := eq_true (of_decide_eq_true (as_) : 0 ≤ x7_7); have c38b0 := eq_true (of_decide_eq_true (as_) : x7_7 ≤ x8_20); have c39b0 := eq_true (of_decide_eq_true (as_) : x8_20 ≤ (a0.size : Int)); simp only [Option.some.injEq, Prod.mk.injEq] at H; obtain ⟨rfl, rfl, rfl, rfl, rfl, rfl⟩ := H
                  go_wp2_with (first | ((with_reducible refine gate_callee (f := 86) rfl ?_); refine goesL_ (some 73) rfl rfl Try.func86 (by kernel_rfl) rfl #[.string (a0.extract (x7_7 : Int).toNat (x8_20 : Int).toNat)] rfl (by (try simp only [List.map_toArray, List.map_cons, List.map_nil]); first | done | rfl | (simp only [List.length_drop, List.length_take]; rfl)) ?_; (with_reducible refine (r05_Word.calls kj20 (a0.extract (x7_7 : Int).toNat (x8_20 : Int).toNat) true _ A35.out).mono ?_); rintro e w40 ⟨rfl, hb⟩; refine ⟨_, rfl, ?_⟩; replace BK201 := am_ (blk_below (bk_ BK201.out) hb); replace HB := am_ (below_step (bl_) hb); (try clear hb); (try clear hb2); (try clear hk); (try clear hi); obtain ⟨hcz41_0, hcz41_1, hcz41_2, hcz41_3, hfz41_0, hfz41_1, hfz41_2, hfz41_3⟩ := bw4_ BK201.out))
                  refine bodyPost_ret (results_ctt rfl _ _ gb201 91 #[.int .i64 2, .string (a0.extract (x7_7 : Int).toNat (x8_20 : Int).toNat), .int .i64 0, .int .i64 x7_7] (0, 0) _ rfl (by refine bp_ ?_; refine blk_put (cs := #[.int .i64 2, .string (a0.extract (x7_7 : Int).toNat (x8_20 : Int).toNat), .int .i64 0, .int .i64 0]) ?_ 3 _ rfl; refine bp_ ?_; refine blk_put (cs := #[.int .i64 2, .string (a0.extract (x7_7 : Int).toNat (x8_20 : Int).toNat), .int .i64 0, .int .i64 0]) ?_ 2 _ rfl; refine bp_ ?_; refine blk_put (cs := #[.int .i64 2, .string (⟨#[]⟩ : ByteArray), .int .i64 0, .int .i64 0]) ?_ 1 _ rfl; refine bp_ ?_; refine blk_put (cs := #[.int .i64 0, .string (⟨#[]⟩ : ByteArray), .int .i64 0, .int .i64 0]) ?_ 0 _ rfl; refine bp_ ?_; exact BK201.out) Try.underlying91 rfl (by kernel_rfl)) rfl ?_; exact ⟨ew_, bl_⟩
                 ·replace c36 := Bool.eq_false_iff.mpr c36
                  subst c36
                  have H1 : (some (1, a0.extract (x7_7 : Int).toNat (x8_20 : Int).toNat, 0, x7_7, x8_20, 0)) = some (r1, r2, r3, r4, r5, r6) := by rw [if_neg (show ¬ (false = true) by decide)] at H; exact H
                  clear H; have H := H1; clear H1; have c42b0 := eq_true (of_decide_eq_true (as_) : 0 ≤ x7_7); have c43b0 := eq_true (of_decide_eq_true (as_) : x7_7 ≤ x8_20); have c44b0 := eq_true (of_decide_eq_true (as_) : x8_20 ≤ (a0.size : Int)); simp only [Option.some.injEq, Prod.mk.injEq] at H; obtain ⟨rfl, rfl, rfl, rfl, rfl, rfl⟩ := H
                  go_wp2_with (first | ((with_reducible refine gate_callee (f := 86) rfl ?_); refine goesL_ (some 73) rfl rfl Try.func86 (by kernel_rfl) rfl #[.string (a0.extract (x7_7 : Int).toNat (x8_20 : Int).toNat)] rfl (by (try simp only [List.map_toArray, List.map_cons, List.map_nil]); first | done | rfl | (simp only [List.length_drop, List.length_take]; rfl)) ?_; (with_reducible refine (r05_Word.calls kj20 (a0.extract (x7_7 : Int).toNat (x8_20 : Int).toNat) false _ A35.out).mono ?_); rintro e w45 ⟨rfl, hb⟩; refine ⟨_, rfl, ?_⟩; replace BK201 := am_ (blk_below (bk_ BK201.out) hb); replace HB := am_ (below_step (bl_) hb); (try clear hb); (try clear hb2); (try clear hk); (try clear hi); obtain ⟨hcz46_0, hcz46_1, hcz46_2, hcz46_3, hfz46_0, hfz46_1, hfz46_2, hfz46_3⟩ := bw4_ BK201.out))
                  refine bodyPost_ret (results_ctt rfl _ _ gb201 91 #[.int .i64 1, .string (a0.extract (x7_7 : Int).toNat (x8_20 : Int).toNat), .int .i64 0, .int .i64 x7_7] (0, 0) _ rfl (by refine bp_ ?_; refine blk_put (cs := #[.int .i64 1, .string (a0.extract (x7_7 : Int).toNat (x8_20 : Int).toNat), .int .i64 0, .int .i64 0]) ?_ 3 _ rfl; refine bp_ ?_; refine blk_put (cs := #[.int .i64 1, .string (a0.extract (x7_7 : Int).toNat (x8_20 : Int).toNat), .int .i64 0, .int .i64 0]) ?_ 2 _ rfl; refine bp_ ?_; refine blk_put (cs := #[.int .i64 1, .string (⟨#[]⟩ : ByteArray), .int .i64 0, .int .i64 0]) ?_ 1 _ rfl; refine bp_ ?_; refine blk_put (cs := #[.int .i64 0, .string (⟨#[]⟩ : ByteArray), .int .i64 0, .int .i64 0]) ?_ 0 _ rfl; refine bp_ ?_; exact BK201.out) Try.underlying91 rfl (by kernel_rfl)) rfl ?_; exact ⟨ew_, bl_⟩
                ·rw [if_neg c34] at H
                 exact absurd H (by simp)
               ·rw [if_neg c33] at H
                exact absurd H (by simp)
              ·rw [if_neg c32] at H
               exact absurd H (by simp)
          ·replace c20 := Bool.eq_false_iff.mpr c20
           subst c20
           have H1 : ((r07_digit.f (bt a0 x7_7)).bind fun t207 => (if t207 = true then (r07_One.l2 kj7 a0 x1_5 x7_7 x7_7) else (if (bt a0 x7_7) = 39 then ((r07_text.f kj7 a0 x1_5 x7_7).bind fun bt212 => (some (bt212.1, bt212.2.1, bt212.2.2.1, bt212.2.2.2.1, bt212.2.2.2.2.1, bt212.2.2.2.2.2))) else ((r07_Sign.f kj7 a0 x7_7).bind fun t218 => (if t218.toList = ([] : List UInt8) then (some (0, (⟨#[]⟩ : ByteArray), 0, 0, x1_5, 1)) else (some (5, t218, 0, x7_7, wrap64 (x7_7 + (t218.size : Int)), 0))))))) = some (r1, r2, r3, r4, r5, r6) := by rw [if_neg (show ¬ (false = true) by decide)] at H; exact H
           clear H; have H := H1; clear H1; replace H := Option.bind_eq_some_iff.mp H; obtain ⟨t207, A480, H⟩ := H; replace H : (if t207 = true then (r07_One.l2 kj7 a0 x1_5 x7_7 x7_7) else (if (bt a0 x7_7) = 39 then ((r07_text.f kj7 a0 x1_5 x7_7).bind fun bt212 => (some (bt212.1, bt212.2.1, bt212.2.2.1, bt212.2.2.2.1, bt212.2.2.2.2.1, bt212.2.2.2.2.2))) else ((r07_Sign.f kj7 a0 x7_7).bind fun t218 => (if t218.toList = ([] : List UInt8) then (some (0, (⟨#[]⟩ : ByteArray), 0, 0, x1_5, 1)) else (some (5, t218, 0, x7_7, wrap64 (x7_7 + (t218.size : Int)), 0)))))) = some (r1, r2, r3, r4, r5, r6) := H; have A48 := am_ A480; clear A480
           by_cases c49 : t207 = true
           ·subst c49
            have H1 : (r07_One.l2 kj7 a0 x1_5 x7_7 x7_7) = some (r1, r2, r3, r4, r5, r6) := by rw [if_pos rfl] at H; exact H
            clear H; have H := H1; clear H1; have HC50 := am_ H; clear H; have p18 : 0 ≤ (x7_7 : Int) := of_decide_eq_true (as_); have q18 : x7_7 < (a0.size : Int) := of_decide_eq_true (as_); have hx18 := bt_at a0 x7_7; replace p18 := eq_true p18; replace q18 := eq_true q18
            go_upto_block 4 with (first | ((with_reducible refine gate_callee (f := 84) rfl ?_); refine goesL_ (some 44) rfl rfl Try.func84 (by kernel_rfl) rfl #[.int .u8 (bt a0 x7_7)] rfl (by (try simp only [List.map_toArray, List.map_cons, List.map_nil]); first | done | rfl | (simp only [List.length_drop, List.length_take]; rfl)) ?_; (with_reducible refine (r07_letter.calls (bt a0 x7_7) false _ A19.out).mono ?_); rintro e w' ⟨rfl, ⟨nd, rfl⟩⟩; refine ⟨_, rfl, ?_⟩; have p47 : 0 ≤ (x7_7 : Int) := of_decide_eq_true (as_); have q47 : x7_7 < (a0.size : Int) := of_decide_eq_true (as_); have hx47 := bt_at a0 x7_7; replace p47 := eq_true p47; replace q47 := eq_true q47) | ((with_reducible refine gate_callee (f := 85) rfl ?_); refine goesL_ (some 91) rfl rfl Try.func85 (by kernel_rfl) rfl #[.int .u8 (bt a0 x7_7)] rfl (by (try simp only [List.map_toArray, List.map_cons, List.map_nil]); first | done | rfl | (simp only [List.length_drop, List.length_take]; rfl)) ?_; (with_reducible refine (r07_digit.calls (bt a0 x7_7) true _ A48.out).mono ?_); rintro e w' ⟨rfl, ⟨nd, rfl⟩⟩; refine ⟨_, rfl, ?_⟩))
            (try simp only [Act.put, sa_, sz_, ss_])
            go_cut [8] (fun v8 wc => ∃ (kq : Nat) (x8_49 : Int), v8 = .int .i64 x8_49 ∧ Aside0 (r07_One.j7 kq a0 x1_5 x7_7 x8_49 = some (r1, r2, r3, r4, r5, r6)) ∧ Aside0 (kq ≤ kj7) ∧ Aside0 (wc.heap[gb201]? = some (.cells #[.int .i64 0, .string (⟨#[]⟩ : ByteArray), .int .i64 0, .int .i64 0] 91 (0, 0))) ∧ Aside0 (Below w.heap.size w wc))
            case first =>
             have H := HC50.out; clear HC50; have H' := am_ H; clear H
             go_wp2
             go_loopg [8] kj7 (fun kq v8 w' => ∃ (x8_4 : Int), v8 = .int .i64 x8_4 ∧ Aside0 (r07_One.l2 kq a0 x1_5 x7_7 x8_4 = some (r1, r2, r3, r4, r5, r6)) ∧ Aside0 (kq ≤ kj7) ∧ Aside0 (w'.heap[gb201]? = some (.cells #[.int .i64 0, .string (⟨#[]⟩ : ByteArray), .int .i64 0, .int .i64 0] 91 (0, 0))) ∧ Aside0 (Below w.heap.size w w'))
             case atStart => exact ⟨(x7_7), (rs_), H', ⟨Nat.le_refl _⟩, ⟨bk_ BK201.out⟩, ⟨bl_⟩⟩
             case round =>
              clear H'; (try clear c1); (try clear p1); (try clear q1); (try clear hx1); (try clear c2); (try clear p2); (try clear q2); (try clear hx2); (try clear c3); (try clear c4); (try clear p4); (try clear q4); (try clear hx4); (try clear c5); (try clear c5b0); (try clear p6); (try clear c7); (try clear c7b0); (try clear c8); (try clear c9); (try clear c9b0); (try clear c10); (try clear c10b0); (try clear p11); (try clear q11); (try clear hx11); (try clear c13); (try clear c14); (try clear c14b0); (try clear c14b1); (try clear c16); (try clear c16b0); (try clear c17); (try clear c17b0); (try clear p18); (try clear q18); (try clear hx18); (try clear c20); (try clear c22); (try clear c22b0); (try clear c23); (try clear c23b0); (try clear p24); (try clear q24); (try clear hx24); (try clear c26); (try clear p27); (try clear q27); (try clear hx27); (try clear c29); (try clear c30); (try clear c30b0); (try clear c32); (try clear c32b0); (try clear c32b1); (try clear c33); (try clear c33b0); (try clear c33b1); (try clear c34); (try clear c34b0); (try clear c34b1); (try clear c36); (try clear c37); (try clear c37b0); (try clear c38); (try clear c38b0); (try clear c39); (try clear c39b0); (try clear c42); (try clear c42b0); (try clear c43); (try clear c43b0); (try clear c44); (try clear c44b0); (try clear p47); (try clear q47); (try clear hx47); (try clear c49); (try clear hcz15_0); (try clear hcz15_1); (try clear hcz15_2); (try clear hcz15_3); (try clear hcz31_0); (try clear hcz31_1); (try clear hcz31_2); (try clear hcz31_3); (try clear hcz41_0); (try clear hcz41_1); (try clear hcz41_2); (try clear hcz41_3); (try clear hcz46_0); (try clear hcz46_1); (try clear hcz46_2); (try clear hcz46_3); (try clear hfz15_0); (try clear hfz15_1); (try clear hfz15_2); (try clear hfz15_3); (try clear hfz31_0); (try clear hfz31_1); (try clear hfz31_2); (try clear hfz31_3); (try clear hfz41_0); (try clear hfz41_1); (try clear hfz41_2); (try clear hfz41_3); (try clear hfz46_0); (try clear hfz46_1); (try clear hfz46_2); (try clear hfz46_3); (try clear p1); (try clear p11); (try clear p18); (try clear p2); (try clear p24); (try clear p27); (try clear p47); (try clear p6); (try clear q1); (try clear q11); (try clear q18); (try clear q2); (try clear q24); (try clear q27); (try clear q47); obtain ⟨x8_4, rfl, HA, HK4, BK201, HB⟩ := hrel
              cases gk with
              | zero => exact absurd HA.out (by simp [r07_One.l2])
              | succ k4 =>
               have H := HA.out; clear HA; simp only [r07_One.l2] at H
               by_cases c51 : x8_4 < (a0.size : Int)
               ·rw [if_pos c51] at H
                have c51b0 : decide (x8_4 < (a0.size : Int)) = true := decide_eq_true c51; clear c51; (first | rw [c51b0] | (simp only [i64_w, i32_w]; rw [c51b0]) | skip)
                by_cases c52 : 0 ≤ x8_4
                ·rw [if_pos c52] at H
                 have c52b0 : decide (0 ≤ x8_4) = true := decide_eq_true c52; clear c52; replace H := Option.bind_eq_some_iff.mp H; obtain ⟨t208, A540, H⟩ := H; replace H : (if t208 = true then (r07_One.l2 k4 a0 x1_5 x7_7 (wrap64 (x8_4 + 1))) else (r07_One.j7 k4 a0 x1_5 x7_7 x8_4)) = some (r1, r2, r3, r4, r5, r6) := H; have A54 := am_ A540; clear A540
                 by_cases c55 : t208 = true
                 ·subst c55
                  have H1 : (r07_One.l2 k4 a0 x1_5 x7_7 (wrap64 (x8_4 + 1))) = some (r1, r2, r3, r4, r5, r6) := by rw [if_pos rfl] at H; exact H
                  clear H; have H := H1; clear H1; have H' := am_ H; clear H; have p53 : 0 ≤ (x8_4 : Int) := of_decide_eq_true (as_); have q53 : x8_4 < (a0.size : Int) := of_decide_eq_true (as_); have hx53 := bt_at a0 x8_4; replace p53 := eq_true p53; replace q53 := eq_true q53
                  go_wp2_with (first | (go_at_call 85; (with_reducible refine (r07_digit.calls (bt a0 x8_4) true _ A54.out).mono ?_); rintro e w' ⟨rfl, ⟨nd, rfl⟩⟩))
                  go_roundg k4
                  case measure => have := HJ2.out; have := HJ5.out; have := HJ7.out; have := HK4.out; omega
                  case rel => exact ⟨(wrap64 (x8_4 + 1)), (rs_), H', ⟨by have := HJ2.out; have := HJ5.out; have := HJ7.out; have := HK4.out; omega⟩, ⟨bk_ BK201.out⟩, ⟨bl_⟩⟩
                 ·replace c55 := Bool.eq_false_iff.mpr c55
                  subst c55
                  have H1 : (r07_One.j7 k4 a0 x1_5 x7_7 x8_4) = some (r1, r2, r3, r4, r5, r6) := by rw [if_neg (show ¬ (false = true) by decide)] at H; exact H
                  clear H; have H := H1; clear H1; have H' := am_ H; clear H; have p53 : 0 ≤ (x8_4 : Int) := of_decide_eq_true (as_); have q53 : x8_4 < (a0.size : Int) := of_decide_eq_true (as_); have hx53 := bt_at a0 x8_4; replace p53 := eq_true p53; replace q53 := eq_true q53
                  go_wp2_with (first | (go_at_call 85; (with_reducible refine (r07_digit.calls (bt a0 x8_4) false _ A54.out).mono ?_); rintro e w' ⟨rfl, ⟨nd, rfl⟩⟩))
                  go_meet
                  case rel => exact ⟨_, (x8_4), (rs_), H', ⟨by have := HJ2.out; have := HJ5.out; have := HJ7.out; have := HK4.out; first | omega | exact Nat.le_refl _⟩, ⟨bk_ BK201.out⟩, ⟨bl_⟩⟩
                ·rw [if_neg c52] at H
                 exact absurd H (by simp)
               ·rw [if_neg c51] at H
                have c51b0 : decide (x8_4 < (a0.size : Int)) = false := decide_eq_false c51; clear c51; (first | rw [c51b0] | (simp only [i64_w, i32_w]; rw [c51b0]) | skip); have H' := am_ H; clear H
                go_wp2
                go_meet
                case rel => exact ⟨_, (x8_4), (rs_), H', ⟨by have := HJ2.out; have := HJ5.out; have := HJ7.out; have := HK4.out; first | omega | exact Nat.le_refl _⟩, ⟨bk_ BK201.out⟩, ⟨bl_⟩⟩
            case rest =>
             clear HC50; (try clear c1); (try clear p1); (try clear q1); (try clear hx1); (try clear c2); (try clear p2); (try clear q2); (try clear hx2); (try clear c3); (try clear c4); (try clear p4); (try clear q4); (try clear hx4); (try clear c5); (try clear c5b0); (try clear p5); (try clear q5); (try clear hx5); (try clear p6); (try clear c7); (try clear c7b0); (try clear c8); (try clear c9); (try clear c9b0); (try clear c10); (try clear c10b0); (try clear p11); (try clear q11); (try clear hx11); (try clear c13); (try clear c14); (try clear c14b0); (try clear c14b1); (try clear c16); (try clear c16b0); (try clear c17); (try clear c17b0); (try clear p18); (try clear q18); (try clear hx18); (try clear c20); (try clear c22); (try clear c22b0); (try clear c23); (try clear c23b0); (try clear p24); (try clear q24); (try clear hx24); (try clear c26); (try clear p27); (try clear q27); (try clear hx27); (try clear c29); (try clear c30); (try clear c30b0); (try clear c32); (try clear c32b0); (try clear c32b1); (try clear c33); (try clear c33b0); (try clear c33b1); (try clear c34); (try clear c34b0); (try clear c34b1); (try clear c36); (try clear c37); (try clear c37b0); (try clear c38); (try clear c38b0); (try clear c39); (try clear c39b0); (try clear c42); (try clear c42b0); (try clear c43); (try clear c43b0); (try clear c44); (try clear c44b0); (try clear p47); (try clear q47); (try clear hx47); (try clear c49); (try clear c51); (try clear c51b0); (try clear c52); (try clear c52b0); (try clear p53); (try clear q53); (try clear hx53); (try clear c55); (try clear hcz15_0); (try clear hcz15_1); (try clear hcz15_2); (try clear hcz15_3); (try clear hcz31_0); (try clear hcz31_1); (try clear hcz31_2); (try clear hcz31_3); (try clear hcz41_0); (try clear hcz41_1); (try clear hcz41_2); (try clear hcz41_3); (try clear hcz46_0); (try clear hcz46_1); (try clear hcz46_2); (try clear hcz46_3); (try clear hfz15_0); (try clear hfz15_1); (try clear hfz15_2); (try clear hfz15_3); (try clear hfz31_0); (try clear hfz31_1); (try clear hfz31_2); (try clear hfz31_3); (try clear hfz41_0); (try clear hfz41_1); (try clear hfz41_2); (try clear hfz41_3); (try clear hfz46_0); (try clear hfz46_1); (try clear hfz46_2); (try clear hfz46_3); (try clear p1); (try clear p11); (try clear p18); (try clear p2); (try clear p24); (try clear p27); (try clear p4); (try clear p47); (try clear p53); (try clear p6); (try clear q1); (try clear q11); (try clear q18); (try clear q2); (try clear q24); (try clear q27); (try clear q4); (try clear q47); (try clear q53); obtain ⟨kq, x8_49, rfl, HA, HJ49, BK201, HB⟩ := hcut
             cases kq with
             | zero => exact absurd HA.out (by simp [r07_One.j7])
             | succ kj49 =>
              have H := HA.out; clear HA; simp only [r07_One.j7] at H
              by_cases c56 : 0 ≤ x7_7
              ·rw [if_pos c56] at H
               have c56b0 := eq_true c56; have c56b1 : decide (0 ≤ x7_7) = true := decide_eq_true c56; clear c56
               by_cases c57 : x7_7 ≤ x8_49
               ·rw [if_pos c57] at H
                have c57b0 := eq_true c57; have c57b1 : decide (x7_7 ≤ x8_49) = true := decide_eq_true c57; clear c57
                by_cases c58 : x8_49 ≤ (a0.size : Int)
                ·rw [if_pos c58] at H
                 have c58b0 := eq_true c58; have c58b1 : decide (x8_49 ≤ (a0.size : Int)) = true := decide_eq_true c58; clear c58; replace H := Option.bind_eq_some_iff.mp H; obtain ⟨⟨t209, t210⟩, A590, H⟩ := H; replace H : (if t210 = true then (if x8_49 < (a0.size : Int) then (if 0 ≤ x8_49 then ((r07_letter.f (bt a0 x8_49)).bind fun t211 => (if t211 = true then (some (0, (⟨#[]⟩ : ByteArray), 0, 0, x1_5, 1)) else (some (3, a0.extract (x7_7 : Int).toNat (x8_49 : Int).toNat, t209, x7_7, x8_49, 0)))) else (none)) else (some (3, a0.extract (x7_7 : Int).toNat (x8_49 : Int).toNat, t209, x7_7, x8_49, 0))) else (some (0, (⟨#[]⟩ : ByteArray), 0, 0, x1_5, 1))) = some (r1, r2, r3, r4, r5, r6) := H; have A59 := am_ A590; clear A590
                 by_cases c60 : t210 = true
                 ·subst c60
                  have H1 : (if x8_49 < (a0.size : Int) then (if 0 ≤ x8_49 then ((r07_letter.f (bt a0 x8_49)).bind fun t211 => (if t211 = true then (some (0, (⟨#[]⟩ : ByteArray), 0, 0, x1_5, 1)) else (some (3, a0.extract (x7_7 : Int).toNat (x8_49 : Int).toNat, t209, x7_7, x8_49, 0)))) else (none)) else (some (3, a0.extract (x7_7 : Int).toNat (x8_49 : Int).toNat, t209, x7_7, x8_49, 0))) = some (r1, r2, r3, r4, r5, r6) := by rw [if_pos rfl] at H; exact H
                  clear H; have H := H1; clear H1
                  by_cases c61 : x8_49 < (a0.size : Int)
                  ·rw [if_pos c61] at H
                   have c61b0 : decide (x8_49 < (a0.size : Int)) = true := decide_eq_true c61; clear c61
                   by_cases c62 : 0 ≤ x8_49
                   ·rw [if_pos c62] at H
                    have c62b0 : decide (0 ≤ x8_49) = true := decide_eq_true c62; clear c62; replace H := Option.bind_eq_some_iff.mp H; obtain ⟨t211, A640, H⟩ := H; replace H : (if t211 = true then (some (0, (⟨#[]⟩ : ByteArray), 0, 0, x1_5, 1)) else (some (3, a0.extract (x7_7 : Int).toNat (x8_49 : Int).toNat, t209, x7_7, x8_49, 0))) = some (r1, r2, r3, r4, r5, r6) := H; have A64 := am_ A640; clear A640
                    by_cases c65 : t211 = true
                    ·subst c65
                     have H1 : (some (0, (⟨#[]⟩ : ByteArray), 0, 0, x1_5, 1)) = some (r1, r2, r3, r4, r5, r6) := by rw [if_pos rfl] at H; exact H
                     clear H; have H := H1; clear H1; simp only [Option.some.injEq, Prod.mk.injEq] at H; obtain ⟨rfl, rfl, rfl, rfl, rfl, rfl⟩ := H
                     go_wp2_with (first | ((with_reducible refine gate_callee (f := 87) rfl ?_); refine goesL_ (some 109) rfl rfl Try.func87 (by kernel_rfl) rfl #[.string (a0.extract (x7_7 : Int).toNat (x8_49 : Int).toNat)] rfl (by (try simp only [List.map_toArray, List.map_cons, List.map_nil]); first | done | rfl | (simp only [List.length_drop, List.length_take]; rfl)) ?_; (with_reducible refine (r07_number.calls kj49 (a0.extract (x7_7 : Int).toNat (x8_49 : Int).toNat) t209 true _ A59.out).mono ?_); rintro e w' ⟨rfl, ⟨nd, rfl⟩⟩; refine ⟨_, rfl, ?_⟩; (try (rw [drewN_self wc]; generalize hq_ : World.drewN wc _ = wc; have n0_ : Aside0 (wc.heap[gb201]? = some (.cells #[.int .i64 0, .string (⟨#[]⟩ : ByteArray), .int .i64 0, .int .i64 0] 91 (0, 0))) := ⟨by rw [← hq_]; exact (bk_ BK201.out)⟩; have n1_ : Aside0 (Below w.heap.size w wc) := ⟨by rw [← hq_]; exact (bl_)⟩; clear BK201 HB hq_; have BK201 := n0_; have HB := n1_; clear n0_ n1_)); have p63 : 0 ≤ (x8_49 : Int) := of_decide_eq_true (as_); have q63 : x8_49 < (a0.size : Int) := of_decide_eq_true (as_); have hx63 := bt_at a0 x8_49; replace p63 := eq_true p63; replace q63 := eq_true q63) | (go_at_call 84; (with_reducible refine (r07_letter.calls (bt a0 x8_49) true _ A64.out).mono ?_); rintro e w' ⟨rfl, ⟨nd, rfl⟩⟩; (try (rw [drewN_self wc]; generalize hq_ : World.drewN wc _ = wc; have n0_ : Aside0 (wc.heap[gb201]? = some (.cells #[.int .i64 0, .string (⟨#[]⟩ : ByteArray), .int .i64 0, .int .i64 0] 91 (0, 0))) := ⟨by rw [← hq_]; exact (bk_ BK201.out)⟩; have n1_ : Aside0 (Below w.heap.size w wc) := ⟨by rw [← hq_]; exact (bl_)⟩; clear BK201 HB hq_; have BK201 := n0_; have HB := n1_; clear n0_ n1_)); obtain ⟨hcz66_0, hcz66_1, hcz66_2, hcz66_3, hfz66_0, hfz66_1, hfz66_2, hfz66_3⟩ := bw4_ BK201.out))
                     refine bodyPost_ret (results_ctt rfl _ _ gb201 91 #[.int .i64 0, .string (⟨#[]⟩ : ByteArray), .int .i64 0, .int .i64 0] (0, 0) _ rfl (by refine bp_ ?_; refine blk_put (cs := #[.int .i64 0, .string (⟨#[]⟩ : ByteArray), .int .i64 0, .int .i64 0]) ?_ 3 _ rfl; refine bp_ ?_; refine blk_put (cs := #[.int .i64 0, .string (⟨#[]⟩ : ByteArray), .int .i64 0, .int .i64 0]) ?_ 2 _ rfl; refine bp_ ?_; refine blk_put (cs := #[.int .i64 0, .string (⟨#[]⟩ : ByteArray), .int .i64 0, .int .i64 0]) ?_ 1 _ rfl; refine bp_ ?_; refine blk_put (cs := #[.int .i64 0, .string (⟨#[]⟩ : ByteArray), .int .i64 0, .int .i64 0]) ?_ 0 _ rfl; refine bp_ ?_; exact BK201.out) Try.underlying91 rfl (by kernel_rfl)) rfl ?_; exact ⟨ew_, bl_⟩
                    ·replace c65 := Bool.eq_false_iff.mpr c65
                     subst c65
                     have H1 : (some (3, a0.extract (x7_7 : Int).toNat (x8_49 : Int).toNat, t209, x7_7, x8_49, 0)) = some (r1, r2, r3, r4, r5, r6) := by rw [if_neg (show ¬ (false = true) by decide)] at H; exact H
                     clear H; have H := H1; clear H1; have c67b0 := eq_true (of_decide_eq_true (as_) : 0 ≤ x7_7); have c68b0 := eq_true (of_decide_eq_true (as_) : x7_7 ≤ x8_49); have c69b0 := eq_true (of_decide_eq_true (as_) : x8_49 ≤ (a0.size : Int)); simp only [Option.some.injEq, Prod.mk.injEq] at H; obtain ⟨rfl, rfl, rfl, rfl, rfl, rfl⟩ := H
                     go_wp2_with (first | ((with_reducible refine gate_callee (f := 87) rfl ?_); refine goesL_ (some 109) rfl rfl Try.func87 (by kernel_rfl) rfl #[.string (a0.extract (x7_7 : Int).toNat (x8_49 : Int).toNat)] rfl (by (try simp only [List.map_toArray, List.map_cons, List.map_nil]); first | done | rfl | (simp only [List.length_drop, List.length_take]; rfl)) ?_; (with_reducible refine (r07_number.calls kj49 (a0.extract (x7_7 : Int).toNat (x8_49 : Int).toNat) t209 true _ A59.out).mono ?_); rintro e w' ⟨rfl, ⟨nd, rfl⟩⟩; refine ⟨_, rfl, ?_⟩; (try (rw [drewN_self wc]; generalize hq_ : World.drewN wc _ = wc; have n0_ : Aside0 (wc.heap[gb201]? = some (.cells #[.int .i64 0, .string (⟨#[]⟩ : ByteArray), .int .i64 0, .int .i64 0] 91 (0, 0))) := ⟨by rw [← hq_]; exact (bk_ BK201.out)⟩; have n1_ : Aside0 (Below w.heap.size w wc) := ⟨by rw [← hq_]; exact (bl_)⟩; clear BK201 HB hq_; have BK201 := n0_; have HB := n1_; clear n0_ n1_)); have p63 : 0 ≤ (x8_49 : Int) := of_decide_eq_true (as_); have q63 : x8_49 < (a0.size : Int) := of_decide_eq_true (as_); have hx63 := bt_at a0 x8_49; replace p63 := eq_true p63; replace q63 := eq_true q63) | (go_at_call 84; (with_reducible refine (r07_letter.calls (bt a0 x8_49) false _ A64.out).mono ?_); rintro e w' ⟨rfl, ⟨nd, rfl⟩⟩; (try (rw [drewN_self wc]; generalize hq_ : World.drewN wc _ = wc; have n0_ : Aside0 (wc.heap[gb201]? = some (.cells #[.int .i64 0, .string (⟨#[]⟩ : ByteArray), .int .i64 0, .int .i64 0] 91 (0, 0))) := ⟨by rw [← hq_]; exact (bk_ BK201.out)⟩; have n1_ : Aside0 (Below w.heap.size w wc) := ⟨by rw [← hq_]; exact (bl_)⟩; clear BK201 HB hq_; have BK201 := n0_; have HB := n1_; clear n0_ n1_)); obtain ⟨hcz70_0, hcz70_1, hcz70_2, hcz70_3, hfz70_0, hfz70_1, hfz70_2, hfz70_3⟩ := bw4_ BK201.out))
                     refine bodyPost_ret (results_ctt rfl _ _ gb201 91 #[.int .i64 3, .string (a0.extract (x7_7 : Int).toNat (x8_49 : Int).toNat), .int .i64 t209, .int .i64 x7_7] (0, 0) _ rfl (by refine bp_ ?_; refine blk_put (cs := #[.int .i64 3, .string (a0.extract (x7_7 : Int).toNat (x8_49 : Int).toNat), .int .i64 t209, .int .i64 0]) ?_ 3 _ rfl; refine bp_ ?_; refine blk_put (cs := #[.int .i64 3, .string (a0.extract (x7_7 : Int).toNat (x8_49 : Int).toNat), .int .i64 0, .int .i64 0]) ?_ 2 _ rfl; refine bp_ ?_; refine blk_put (cs := #[.int .i64 3, .string (⟨#[]⟩ : ByteArray), .int .i64 0, .int .i64 0]) ?_ 1 _ rfl; refine bp_ ?_; refine blk_put (cs := #[.int .i64 0, .string (⟨#[]⟩ : ByteArray), .int .i64 0, .int .i64 0]) ?_ 0 _ rfl; refine bp_ ?_; exact BK201.out) Try.underlying91 rfl (by kernel_rfl)) rfl ?_; exact ⟨ew_, bl_⟩
                   ·rw [if_neg c62] at H
                    exact absurd H (by simp)
                  ·rw [if_neg c61] at H
                   have c61b0 : decide (x8_49 < (a0.size : Int)) = false := decide_eq_false c61; clear c61; have c71b0 := eq_true (of_decide_eq_true (as_) : 0 ≤ x7_7); have c72b0 := eq_true (of_decide_eq_true (as_) : x7_7 ≤ x8_49); have c73b0 := eq_true (of_decide_eq_true (as_) : x8_49 ≤ (a0.size : Int)); simp only [Option.some.injEq, Prod.mk.injEq] at H; obtain ⟨rfl, rfl, rfl, rfl, rfl, rfl⟩ := H
                   go_wp2_with (first | ((with_reducible refine gate_callee (f := 87) rfl ?_); refine goesL_ (some 109) rfl rfl Try.func87 (by kernel_rfl) rfl #[.string (a0.extract (x7_7 : Int).toNat (x8_49 : Int).toNat)] rfl (by (try simp only [List.map_toArray, List.map_cons, List.map_nil]); first | done | rfl | (simp only [List.length_drop, List.length_take]; rfl)) ?_; (with_reducible refine (r07_number.calls kj49 (a0.extract (x7_7 : Int).toNat (x8_49 : Int).toNat) t209 true _ A59.out).mono ?_); rintro e w' ⟨rfl, ⟨nd, rfl⟩⟩; refine ⟨_, rfl, ?_⟩; (try (rw [drewN_self wc]; generalize hq_ : World.drewN wc _ = wc; have n0_ : Aside0 (wc.heap[gb201]? = some (.cells #[.int .i64 0, .string (⟨#[]⟩ : ByteArray), .int .i64 0, .int .i64 0] 91 (0, 0))) := ⟨by rw [← hq_]; exact (bk_ BK201.out)⟩; have n1_ : Aside0 (Below w.heap.size w wc) := ⟨by rw [← hq_]; exact (bl_)⟩; clear BK201 HB hq_; have BK201 := n0_; have HB := n1_; clear n0_ n1_)); obtain ⟨hcz74_0, hcz74_1, hcz74_2, hcz74_3, hfz74_0, hfz74_1, hfz74_2, hfz74_3⟩ := bw4_ BK201.out))
                   refine bodyPost_ret (results_ctt rfl _ _ gb201 91 #[.int .i64 3, .string (a0.extract (x7_7 : Int).toNat (x8_49 : Int).toNat), .int .i64 t209, .int .i64 x7_7] (0, 0) _ rfl (by refine bp_ ?_; refine blk_put (cs := #[.int .i64 3, .string (a0.extract (x7_7 : Int).toNat (x8_49 : Int).toNat), .int .i64 t209, .int .i64 0]) ?_ 3 _ rfl; refine bp_ ?_; refine blk_put (cs := #[.int .i64 3, .string (a0.extract (x7_7 : Int).toNat (x8_49 : Int).toNat), .int .i64 0, .int .i64 0]) ?_ 2 _ rfl; refine bp_ ?_; refine blk_put (cs := #[.int .i64 3, .string (⟨#[]⟩ : ByteArray), .int .i64 0, .int .i64 0]) ?_ 1 _ rfl; refine bp_ ?_; refine blk_put (cs := #[.int .i64 0, .string (⟨#[]⟩ : ByteArray), .int .i64 0, .int .i64 0]) ?_ 0 _ rfl; refine bp_ ?_; exact BK201.out) Try.underlying91 rfl (by kernel_rfl)) rfl ?_; exact ⟨ew_, bl_⟩
                 ·replace c60 := Bool.eq_false_iff.mpr c60
                  subst c60
                  have H1 : (some (0, (⟨#[]⟩ : ByteArray), 0, 0, x1_5, 1)) = some (r1, r2, r3, r4, r5, r6) := by rw [if_neg (show ¬ (false = true) by decide)] at H; exact H
                  clear H; have H := H1; clear H1; simp only [Option.some.injEq, Prod.mk.injEq] at H; obtain ⟨rfl, rfl, rfl, rfl, rfl, rfl⟩ := H
                  go_wp2_with (first | ((with_reducible refine gate_callee (f := 87) rfl ?_); refine goesL_ (some 109) rfl rfl Try.func87 (by kernel_rfl) rfl #[.string (a0.extract (x7_7 : Int).toNat (x8_49 : Int).toNat)] rfl (by (try simp only [List.map_toArray, List.map_cons, List.map_nil]); first | done | rfl | (simp only [List.length_drop, List.length_take]; rfl)) ?_; (with_reducible refine (r07_number.calls kj49 (a0.extract (x7_7 : Int).toNat (x8_49 : Int).toNat) t209 false _ A59.out).mono ?_); rintro e w' ⟨rfl, ⟨nd, rfl⟩⟩; refine ⟨_, rfl, ?_⟩; (try (rw [drewN_self wc]; generalize hq_ : World.drewN wc _ = wc; have n0_ : Aside0 (wc.heap[gb201]? = some (.cells #[.int .i64 0, .string (⟨#[]⟩ : ByteArray), .int .i64 0, .int .i64 0] 91 (0, 0))) := ⟨by rw [← hq_]; exact (bk_ BK201.out)⟩; have n1_ : Aside0 (Below w.heap.size w wc) := ⟨by rw [← hq_]; exact (bl_)⟩; clear BK201 HB hq_; have BK201 := n0_; have HB := n1_; clear n0_ n1_)); obtain ⟨hcz75_0, hcz75_1, hcz75_2, hcz75_3, hfz75_0, hfz75_1, hfz75_2, hfz75_3⟩ := bw4_ BK201.out))
                  refine bodyPost_ret (results_ctt rfl _ _ gb201 91 #[.int .i64 0, .string (⟨#[]⟩ : ByteArray), .int .i64 0, .int .i64 0] (0, 0) _ rfl (by refine bp_ ?_; refine blk_put (cs := #[.int .i64 0, .string (⟨#[]⟩ : ByteArray), .int .i64 0, .int .i64 0]) ?_ 3 _ rfl; refine bp_ ?_; refine blk_put (cs := #[.int .i64 0, .string (⟨#[]⟩ : ByteArray), .int .i64 0, .int .i64 0]) ?_ 2 _ rfl; refine bp_ ?_; refine blk_put (cs := #[.int .i64 0, .string (⟨#[]⟩ : ByteArray), .int .i64 0, .int .i64 0]) ?_ 1 _ rfl; refine bp_ ?_; refine blk_put (cs := #[.int .i64 0, .string (⟨#[]⟩ : ByteArray), .int .i64 0, .int .i64 0]) ?_ 0 _ rfl; refine bp_ ?_; exact BK201.out) Try.underlying91 rfl (by kernel_rfl)) rfl ?_; exact ⟨ew_, bl_⟩
                ·rw [if_neg c58] at H
                 exact absurd H (by simp)
               ·rw [if_neg c57] at H
                exact absurd H (by simp)
              ·rw [if_neg c56] at H
               exact absurd H (by simp)
           ·replace c49 := Bool.eq_false_iff.mpr c49
            subst c49
            have H1 : (if (bt a0 x7_7) = 39 then ((r07_text.f kj7 a0 x1_5 x7_7).bind fun bt212 => (some (bt212.1, bt212.2.1, bt212.2.2.1, bt212.2.2.2.1, bt212.2.2.2.2.1, bt212.2.2.2.2.2))) else ((r07_Sign.f kj7 a0 x7_7).bind fun t218 => (if t218.toList = ([] : List UInt8) then (some (0, (⟨#[]⟩ : ByteArray), 0, 0, x1_5, 1)) else (some (5, t218, 0, x7_7, wrap64 (x7_7 + (t218.size : Int)), 0))))) = some (r1, r2, r3, r4, r5, r6) := by rw [if_neg (show ¬ (false = true) by decide)] at H; exact H
            clear H; have H := H1; clear H1
            by_cases c77 : (bt a0 x7_7) = 39
            ·rw [if_pos c77] at H
             have c77b0 : ((bt a0 x7_7) == 39) = true := beq_iff_eq.mpr c77; have c77b1 : ((bt a0 x7_7) != 39) = false := bne_eq_false_iff_eq.mpr c77; clear c77; replace H := Option.bind_eq_some_iff.mp H; obtain ⟨⟨t212, t213, t214, t215, t216, t217⟩, A780, H⟩ := H; replace H : (some (t212, t213, t214, t215, t216, t217)) = some (r1, r2, r3, r4, r5, r6) := H; have A78 := am_ A780; clear A780; simp only [Option.some.injEq, Prod.mk.injEq] at H; obtain ⟨rfl, rfl, rfl, rfl, rfl, rfl⟩ := H; have p18 : 0 ≤ (x7_7 : Int) := of_decide_eq_true (as_); have q18 : x7_7 < (a0.size : Int) := of_decide_eq_true (as_); have hx18 := bt_at a0 x7_7; replace p18 := eq_true p18; replace q18 := eq_true q18
             go_wp2_with (first | ((with_reducible refine gate_callee (f := 84) rfl ?_); refine goesL_ (some 44) rfl rfl Try.func84 (by kernel_rfl) rfl #[.int .u8 (bt a0 x7_7)] rfl (by (try simp only [List.map_toArray, List.map_cons, List.map_nil]); first | done | rfl | (simp only [List.length_drop, List.length_take]; rfl)) ?_; (with_reducible refine (r07_letter.calls (bt a0 x7_7) false _ A19.out).mono ?_); rintro e w' ⟨rfl, ⟨nd, rfl⟩⟩; refine ⟨_, rfl, ?_⟩; (try (rw [drewN_self wc]; generalize hq_ : World.drewN wc _ = wc; have n0_ : Aside0 (wc.heap[gb201]? = some (.cells #[.int .i64 0, .string (⟨#[]⟩ : ByteArray), .int .i64 0, .int .i64 0] 91 (0, 0))) := ⟨by rw [← hq_]; exact (bk_ BK201.out)⟩; have n1_ : Aside0 (Below w.heap.size w wc) := ⟨by rw [← hq_]; exact (bl_)⟩; clear BK201 HB hq_; have BK201 := n0_; have HB := n1_; clear n0_ n1_)); have p47 : 0 ≤ (x7_7 : Int) := of_decide_eq_true (as_); have q47 : x7_7 < (a0.size : Int) := of_decide_eq_true (as_); have hx47 := bt_at a0 x7_7; replace p47 := eq_true p47; replace q47 := eq_true q47) | ((with_reducible refine gate_callee (f := 85) rfl ?_); refine goesL_ (some 91) rfl rfl Try.func85 (by kernel_rfl) rfl #[.int .u8 (bt a0 x7_7)] rfl (by (try simp only [List.map_toArray, List.map_cons, List.map_nil]); first | done | rfl | (simp only [List.length_drop, List.length_take]; rfl)) ?_; (with_reducible refine (r07_digit.calls (bt a0 x7_7) false _ A48.out).mono ?_); rintro e w' ⟨rfl, ⟨nd, rfl⟩⟩; refine ⟨_, rfl, ?_⟩; (try (rw [drewN_self wc]; generalize hq_ : World.drewN wc _ = wc; have n0_ : Aside0 (wc.heap[gb201]? = some (.cells #[.int .i64 0, .string (⟨#[]⟩ : ByteArray), .int .i64 0, .int .i64 0] 91 (0, 0))) := ⟨by rw [← hq_]; exact (bk_ BK201.out)⟩; have n1_ : Aside0 (Below w.heap.size w wc) := ⟨by rw [← hq_]; exact (bl_)⟩; clear BK201 HB hq_; have BK201 := n0_; have HB := n1_; clear n0_ n1_)); have p76 : 0 ≤ (x7_7 : Int) := of_decide_eq_true (as_); have q76 : x7_7 < (a0.size : Int) := of_decide_eq_true (as_); have hx76 := bt_at a0 x7_7; replace p76 := eq_true p76; replace q76 := eq_true q76) | ((with_reducible refine gate_callee (f := 88) rfl ?_); refine goesL_ (some 143) rfl rfl Try.func88 (by kernel_rfl) rfl #[.string a0, .int .i64 x1_5, .int .i64 x7_7] rfl (by (try simp only [List.map_toArray, List.map_cons, List.map_nil]); first | done | rfl | (simp only [List.length_drop, List.length_take]; rfl)) ?_; (with_reducible refine (r07_text.calls kj7 a0 x1_5 x7_7 t212 t213 t214 t215 t216 t217 _ A78.out).mono ?_); rintro e w79 ⟨rfl, hb⟩; refine ⟨_, rfl, ?_⟩; replace BK201 := am_ (blk_below (bk_ BK201.out) hb); replace HB := am_ (below_step (bl_) hb); (try clear hb); (try clear hb2); (try clear hk); (try clear hi); obtain ⟨hcz80_0, hcz80_1, hcz80_2, hcz80_3, hfz80_0, hfz80_1, hfz80_2, hfz80_3⟩ := bw4_ BK201.out))
             refine bodyPost_ret (results_ctt rfl _ _ gb201 91 #[.int .i64 t212, .string t213, .int .i64 t214, .int .i64 t215] (0, 0) _ rfl (by refine bp_ ?_; refine blk_put (cs := #[.int .i64 t212, .string t213, .int .i64 t214, .int .i64 0]) ?_ 3 _ rfl; refine bp_ ?_; refine blk_put (cs := #[.int .i64 t212, .string t213, .int .i64 0, .int .i64 0]) ?_ 2 _ rfl; refine bp_ ?_; refine blk_put (cs := #[.int .i64 t212, .string (⟨#[]⟩ : ByteArray), .int .i64 0, .int .i64 0]) ?_ 1 _ rfl; refine bp_ ?_; refine blk_put (cs := #[.int .i64 0, .string (⟨#[]⟩ : ByteArray), .int .i64 0, .int .i64 0]) ?_ 0 _ rfl; refine bp_ ?_; exact BK201.out) Try.underlying91 rfl (by kernel_rfl)) rfl ?_; exact ⟨ew_, bl_⟩
            ·rw [if_neg c77] at H
             have c77b0 : ((bt a0 x7_7) == 39) = false := beq_eq_false_iff_ne.mpr c77; have c77b1 : ((bt a0 x7_7) != 39) = true := bne_iff_ne.mpr c77; replace H := Option.bind_eq_some_iff.mp H; obtain ⟨t218, A810, H⟩ := H; replace H : (if t218.toList = ([] : List UInt8) then (some (0, (⟨#[]⟩ : ByteArray), 0, 0, x1_5, 1)) else (some (5, t218, 0, x7_7, wrap64 (x7_7 + (t218.size : Int)), 0))) = some (r1, r2, r3, r4, r5, r6) := H; have A81 := am_ A810; clear A810
             by_cases c82 : t218.toList = ([] : List UInt8)
             ·rw [if_pos c82] at H
              have c82b0 : (t218.toList == ([] : List UInt8)) = true := beq_iff_eq.mpr c82; have c82b1 : (t218.toList != ([] : List UInt8)) = false := bne_eq_false_iff_eq.mpr c82; clear c82; simp only [Option.some.injEq, Prod.mk.injEq] at H; obtain ⟨rfl, rfl, rfl, rfl, rfl, rfl⟩ := H; have p18 : 0 ≤ (x7_7 : Int) := of_decide_eq_true (as_); have q18 : x7_7 < (a0.size : Int) := of_decide_eq_true (as_); have hx18 := bt_at a0 x7_7; replace p18 := eq_true p18; replace q18 := eq_true q18
              go_wp2_with (first | ((with_reducible refine gate_callee (f := 84) rfl ?_); refine goesL_ (some 44) rfl rfl Try.func84 (by kernel_rfl) rfl #[.int .u8 (bt a0 x7_7)] rfl (by (try simp only [List.map_toArray, List.map_cons, List.map_nil]); first | done | rfl | (simp only [List.length_drop, List.length_take]; rfl)) ?_; (with_reducible refine (r07_letter.calls (bt a0 x7_7) false _ A19.out).mono ?_); rintro e w' ⟨rfl, ⟨nd, rfl⟩⟩; refine ⟨_, rfl, ?_⟩; (try (rw [drewN_self wc]; generalize hq_ : World.drewN wc _ = wc; have n0_ : Aside0 (wc.heap[gb201]? = some (.cells #[.int .i64 0, .string (⟨#[]⟩ : ByteArray), .int .i64 0, .int .i64 0] 91 (0, 0))) := ⟨by rw [← hq_]; exact (bk_ BK201.out)⟩; have n1_ : Aside0 (Below w.heap.size w wc) := ⟨by rw [← hq_]; exact (bl_)⟩; clear BK201 HB hq_; have BK201 := n0_; have HB := n1_; clear n0_ n1_)); have p47 : 0 ≤ (x7_7 : Int) := of_decide_eq_true (as_); have q47 : x7_7 < (a0.size : Int) := of_decide_eq_true (as_); have hx47 := bt_at a0 x7_7; replace p47 := eq_true p47; replace q47 := eq_true q47) | ((with_reducible refine gate_callee (f := 85) rfl ?_); refine goesL_ (some 91) rfl rfl Try.func85 (by kernel_rfl) rfl #[.int .u8 (bt a0 x7_7)] rfl (by (try simp only [List.map_toArray, List.map_cons, List.map_nil]); first | done | rfl | (simp only [List.length_drop, List.length_take]; rfl)) ?_; (with_reducible refine (r07_digit.calls (bt a0 x7_7) false _ A48.out).mono ?_); rintro e w' ⟨rfl, ⟨nd, rfl⟩⟩; refine ⟨_, rfl, ?_⟩; (try (rw [drewN_self wc]; generalize hq_ : World.drewN wc _ = wc; have n0_ : Aside0 (wc.heap[gb201]? = some (.cells #[.int .i64 0, .string (⟨#[]⟩ : ByteArray), .int .i64 0, .int .i64 0] 91 (0, 0))) := ⟨by rw [← hq_]; exact (bk_ BK201.out)⟩; have n1_ : Aside0 (Below w.heap.size w wc) := ⟨by rw [← hq_]; exact (bl_)⟩; clear BK201 HB hq_; have BK201 := n0_; have HB := n1_; clear n0_ n1_)); have p76 : 0 ≤ (x7_7 : Int) := of_decide_eq_true (as_); have q76 : x7_7 < (a0.size : Int) := of_decide_eq_true (as_); have hx76 := bt_at a0 x7_7; replace p76 := eq_true p76; replace q76 := eq_true q76) | ((with_reducible refine gate_callee (f := 89) rfl ?_); refine goesL_ (some 149) rfl rfl Try.func89 (by kernel_rfl) rfl #[.string a0, .int .i64 x7_7] rfl (by (try simp only [List.map_toArray, List.map_cons, List.map_nil]); first | done | rfl | (simp only [List.length_drop, List.length_take]; rfl)) ?_; (with_reducible refine (r07_Sign.calls kj7 a0 x7_7 t218 _ A81.out).mono ?_); rintro e w83 ⟨rfl, hb⟩; refine ⟨_, rfl, ?_⟩; replace BK201 := am_ (blk_below (bk_ BK201.out) hb); replace HB := am_ (below_step (bl_) hb); (try clear hb); (try clear hb2); (try clear hk); (try clear hi); obtain ⟨hcz84_0, hcz84_1, hcz84_2, hcz84_3, hfz84_0, hfz84_1, hfz84_2, hfz84_3⟩ := bw4_ BK201.out))
              refine bodyPost_ret (results_ctt rfl _ _ gb201 91 #[.int .i64 0, .string (⟨#[]⟩ : ByteArray), .int .i64 0, .int .i64 0] (0, 0) _ rfl (by refine bp_ ?_; refine blk_put (cs := #[.int .i64 0, .string (⟨#[]⟩ : ByteArray), .int .i64 0, .int .i64 0]) ?_ 3 _ rfl; refine bp_ ?_; refine blk_put (cs := #[.int .i64 0, .string (⟨#[]⟩ : ByteArray), .int .i64 0, .int .i64 0]) ?_ 2 _ rfl; refine bp_ ?_; refine blk_put (cs := #[.int .i64 0, .string (⟨#[]⟩ : ByteArray), .int .i64 0, .int .i64 0]) ?_ 1 _ rfl; refine bp_ ?_; refine blk_put (cs := #[.int .i64 0, .string (⟨#[]⟩ : ByteArray), .int .i64 0, .int .i64 0]) ?_ 0 _ rfl; refine bp_ ?_; exact BK201.out) Try.underlying91 rfl (by kernel_rfl)) rfl ?_; exact ⟨ew_, bl_⟩
             ·rw [if_neg c82] at H
              have c82b0 : (t218.toList == ([] : List UInt8)) = false := beq_eq_false_iff_ne.mpr c82; have c82b1 : (t218.toList != ([] : List UInt8)) = true := bne_iff_ne.mpr c82; simp only [Option.some.injEq, Prod.mk.injEq] at H; obtain ⟨rfl, rfl, rfl, rfl, rfl, rfl⟩ := H; have p18 : 0 ≤ (x7_7 : Int) := of_decide_eq_true (as_); have q18 : x7_7 < (a0.size : Int) := of_decide_eq_true (as_); have hx18 := bt_at a0 x7_7; replace p18 := eq_true p18; replace q18 := eq_true q18
              go_wp2_with (first | ((with_reducible refine gate_callee (f := 84) rfl ?_); refine goesL_ (some 44) rfl rfl Try.func84 (by kernel_rfl) rfl #[.int .u8 (bt a0 x7_7)] rfl (by (try simp only [List.map_toArray, List.map_cons, List.map_nil]); first | done | rfl | (simp only [List.length_drop, List.length_take]; rfl)) ?_; (with_reducible refine (r07_letter.calls (bt a0 x7_7) false _ A19.out).mono ?_); rintro e w' ⟨rfl, ⟨nd, rfl⟩⟩; refine ⟨_, rfl, ?_⟩; (try (rw [drewN_self wc]; generalize hq_ : World.drewN wc _ = wc; have n0_ : Aside0 (wc.heap[gb201]? = some (.cells #[.int .i64 0, .string (⟨#[]⟩ : ByteArray), .int .i64 0, .int .i64 0] 91 (0, 0))) := ⟨by rw [← hq_]; exact (bk_ BK201.out)⟩; have n1_ : Aside0 (Below w.heap.size w wc) := ⟨by rw [← hq_]; exact (bl_)⟩; clear BK201 HB hq_; have BK201 := n0_; have HB := n1_; clear n0_ n1_)); have p47 : 0 ≤ (x7_7 : Int) := of_decide_eq_true (as_); have q47 : x7_7 < (a0.size : Int) := of_decide_eq_true (as_); have hx47 := bt_at a0 x7_7; replace p47 := eq_true p47; replace q47 := eq_true q47) | ((with_reducible refine gate_callee (f := 85) rfl ?_); refine goesL_ (some 91) rfl rfl Try.func85 (by kernel_rfl) rfl #[.int .u8 (bt a0 x7_7)] rfl (by (try simp only [List.map_toArray, List.map_cons, List.map_nil]); first | done | rfl | (simp only [List.length_drop, List.length_take]; rfl)) ?_; (with_reducible refine (r07_digit.calls (bt a0 x7_7) false _ A48.out).mono ?_); rintro e w' ⟨rfl, ⟨nd, rfl⟩⟩; refine ⟨_, rfl, ?_⟩; (try (rw [drewN_self wc]; generalize hq_ : World.drewN wc _ = wc; have n0_ : Aside0 (wc.heap[gb201]? = some (.cells #[.int .i64 0, .string (⟨#[]⟩ : ByteArray), .int .i64 0, .int .i64 0] 91 (0, 0))) := ⟨by rw [← hq_]; exact (bk_ BK201.out)⟩; have n1_ : Aside0 (Below w.heap.size w wc) := ⟨by rw [← hq_]; exact (bl_)⟩; clear BK201 HB hq_; have BK201 := n0_; have HB := n1_; clear n0_ n1_)); have p76 : 0 ≤ (x7_7 : Int) := of_decide_eq_true (as_); have q76 : x7_7 < (a0.size : Int) := of_decide_eq_true (as_); have hx76 := bt_at a0 x7_7; replace p76 := eq_true p76; replace q76 := eq_true q76) | ((with_reducible refine gate_callee (f := 89) rfl ?_); refine goesL_ (some 149) rfl rfl Try.func89 (by kernel_rfl) rfl #[.string a0, .int .i64 x7_7] rfl (by (try simp only [List.map_toArray, List.map_cons, List.map_nil]); first | done | rfl | (simp only [List.length_drop, List.length_take]; rfl)) ?_; (with_reducible refine (r07_Sign.calls kj7 a0 x7_7 t218 _ A81.out).mono ?_); rintro e w85 ⟨rfl, hb⟩; refine ⟨_, rfl, ?_⟩; replace BK201 := am_ (blk_below (bk_ BK201.out) hb); replace HB := am_ (below_step (bl_) hb); (try clear hb); (try clear hb2); (try clear hk); (try clear hi); obtain ⟨hcz86_0, hcz86_1, hcz86_2, hcz86_3, hfz86_0, hfz86_1, hfz86_2, hfz86_3⟩ := bw4_ BK201.out))
              refine bodyPost_ret (results_ctt rfl _ _ gb201 91 #[.int .i64 5, .string t218, .int .i64 0, .int .i64 x7_7] (0, 0) _ rfl (by refine bp_ ?_; refine blk_put (cs := #[.int .i64 5, .string t218, .int .i64 0, .int .i64 0]) ?_ 3 _ rfl; refine bp_ ?_; refine blk_put (cs := #[.int .i64 5, .string t218, .int .i64 0, .int .i64 0]) ?_ 2 _ rfl; refine bp_ ?_; refine blk_put (cs := #[.int .i64 5, .string (⟨#[]⟩ : ByteArray), .int .i64 0, .int .i64 0]) ?_ 1 _ rfl; refine bp_ ?_; refine blk_put (cs := #[.int .i64 0, .string (⟨#[]⟩ : ByteArray), .int .i64 0, .int .i64 0]) ?_ 0 _ rfl; refine bp_ ?_; exact BK201.out) Try.underlying91 rfl (by kernel_rfl)) rfl ?_; exact ⟨ew_, bl_⟩
         ·rw [if_neg c17] at H
          exact absurd H (by simp)
        ·rw [if_neg c16] at H
         exact absurd H (by simp)

end Go.Proofs.Ytcfgjaggccnoaaa.PParseSmall
