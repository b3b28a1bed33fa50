-- Written by wip/pack.py, a program of mine: the texts that this law stands on, as far as it uses them; Lean checks it.
import Derived.Test.YthlepdjjdbpmoaaDoorProg
import Derived.Shelf.LaysM
import Derived.Shelf.Strconv.Itoa3
import Derived.Below
import Derived.Deep.Draws
import Derived.Deep.AppendLies
import Derived.Maps.AppendAt
import Derived.OwnWalk
import Derived.Laws.BytesArg
import Derived.Laws.MakeOwn
import Derived.Laws.OwnMore
import Derived.Deep.OwnRows
import Derived.Tactics
import Derived.Lib.ConvBytes
import Derived.Laws.Slices
import Derived.WalkKit
import Derived.KernelRfl
import Derived.RowKit3
import Derived.Deep.LoopGhost
import Derived.Deep.QuietTactic
import Derived.BigQuiet
import Derived.WideLaws
import Derived.Deep.DeepCutAuto
import Derived.Deep.CutBlock
import Derived.Deep.RegionHeld3
import Derived.Laws.Rows
import Derived.Lib.AppendStr
import Derived.ArgAppend
import Derived.Laws.IdiomCopy
import Derived.RowKit
import Derived.OrdersHeld
import Derived.Laws.BitsLemmas
import Derived.Laws.StructEq
import Derived.Laws.CopyOwn
import Derived.Laws.DeepStrings4
import Derived.Laws.RangeAny
import Derived.Laws.RangeString
import Derived.Laws.Tables
import Derived.Lib.BitFns
import Derived.Lib.Hide
import Derived.Lib.ItoaMem
import Derived.Lib.LaidTab
import Derived.Lib.Slices
import Derived.Lib.Small
import Derived.Lib.SmallJoins
import Derived.Lib.Strings
import Derived.Lib.Walk
import Derived.LoopTactic
import Derived.Lib.SliceRun
import Derived.Test.YthlepdjjdbpmoaaDoorZPrintExprs0
namespace Go.Proofs.YthlepdjjdbpmoaaDoor.PPrintExprs
open Go.RowKit Go.Proofs.YthlepdjjdbpmoaaDoorW.PrintWords Go.Proofs.YthlepdjjdbpmoaaDoorW.PrintLast Go.Proofs.YthlepdjjdbpmoaaDoorW.PrintMore
attribute [local go_sem] max2_int min2_int max_two min_two max_three min_three max_four min_four
set_option linter.unusedVariables false
set_option maxHeartbeats 8000000
set_option linter.unusedSimpArgs false
set_option maxRecDepth 100000
set_option maxHeartbeats 4000000 in
theorem token_name.core_long (k : Nat) (s : ByteArray) (a : Nat) (w : World) (ha : a ≤ s.size) (hs : s.size ≤ 9223372036854775807) (E : Nat) (hE : token_name.stop s (s.size - a) a = E) (h32 : a + 32 < E) :
  Calls Tryd.prog 148 #[.string s, .int .i64 a] w (token_name.Post w 0 (⟨#[]⟩ : ByteArray) 0 0 a 1) := by
 have hu_tok := Tryd.underlying142; have HE := Lib.hid hE; clear hE
 have hx : (s.extract a s.size).size = s.size - a := by simp [ByteArray.size_extract]
 have HX := Lib.hid hx; clear hx
 skip
 go_enter Tryd.func148, Tryd.ntmps148
 go_wp2
 go_loopw [7] (fun v w' => ∃ pos : Nat, w' = (w.alloc (Obj.cells #[Value.int IntKind.i64 0, Value.string { data := #[] }, Value.int IntKind.i64 0, Value.int IntKind.i64 0] 142)).alloc (.stringIter (s.extract a s.size) pos) ∧ v = .int .i64 s.size ∧ a + pos ≤ s.size ∧ token_name.stop s (s.size - a - pos) (a + pos) = E) (fun _ w' => s.size - w'.iterPos (w.heap.size + 1))
 case atStart => exact ⟨0, rfl, rfl, by omega, HE.out⟩
 case round =>
  obtain ⟨pos, rfl, rfl, hp, he⟩ := hrel; have HS := Lib.hid he; clear he
  by_cases hlt : a + pos < s.size
  ·have hlt2 : pos < (s.extract a s.size).size := by rw [HX.out]; omega
   have HB := Lib.hid (token_name.at_pos s a pos hlt hlt2)
   by_cases h128 : ((s.extract a s.size)[pos]'hlt2).toNat < 128
   ·have hnx := fun ty => token_name.nx_ascii Tryd.prog (w.alloc (Obj.cells #[Value.int IntKind.i64 0, Value.string { data := #[] }, Value.int IntKind.i64 0, Value.int IntKind.i64 0] 142)) (w.heap.size + 1) (s.extract a s.size) pos ty (token_name.aw_size w) hlt2 _ rfl h128
    generalize (((s.extract a s.size)[pos]'hlt2).toNat) = c at *
    have hc : decide ((c : Int) ≥ 128) = false := by simp; omega
    obtain ⟨bl, hl⟩ : ∃ b, (decide (97 ≤ (c : Int) ∧ (c : Int) ≤ 122) || decide ((c : Int) = 95)) = b := ⟨_, rfl⟩
    obtain ⟨bd, hd⟩ : ∃ b, decide (48 ≤ (c : Int) ∧ (c : Int) ≤ 57) = b := ⟨_, rfl⟩
    have HLt := Lib.hid hl; have HDg := Lib.hid hd; clear hl hd; have HN : Hid (token_name.nb (bt s ((a + pos : Nat) : Int)) = (bl || bd)) := Lib.hid (by rw [← HB.out]; unfold token_name.nb; rw [HLt.out, HDg.out]); have HST := Lib.hid (token_name.stop_step s a pos E hlt _ HN.out HS.out)
    cases bl with
    | true =>
     go_wp2_with (first | (go_at_call 147; refine (token_name.letter_same _ _ _ HLt.out).mono ?_; rintro e w' ⟨rfl, rfl⟩) | (go_at_call 149; refine (token_name.digit_same _ _ _ HDg.out).mono ?_; rintro e w' ⟨rfl, rfl⟩))
     refine ⟨⟨pos + 1, rfl, rfl, by omega, HST.out⟩, ?_⟩; rw [token_name.iter_at, token_name.iter_at]; omega
    | false =>
     cases bd with
     | true =>
      go_wp2_with (first | (go_at_call 147; refine (token_name.letter_same _ _ _ HLt.out).mono ?_; rintro e w' ⟨rfl, rfl⟩) | (go_at_call 149; refine (token_name.digit_same _ _ _ HDg.out).mono ?_; rintro e w' ⟨rfl, rfl⟩))
      refine ⟨⟨pos + 1, rfl, rfl, by omega, HST.out⟩, ?_⟩; rw [token_name.iter_at, token_name.iter_at]; omega
     | false =>
      have hEq : a + pos = E := HST.out; obtain rfl := hEq
      have h33 : 32 < pos := by omega
      go_wp2_with (first | (go_at_call 147; refine (token_name.letter_same _ _ _ HLt.out).mono ?_; rintro e w' ⟨rfl, rfl⟩) | (go_at_call 149; refine (token_name.digit_same _ _ _ HDg.out).mono ?_; rintro e w' ⟨rfl, rfl⟩))
      exact bodyPost_ret (v := .tuple #[.agg #[.int .i64 0, .string (⟨#[]⟩ : ByteArray), .int .i64 0, .int .i64 0], .int .i64 a, .int .i64 1]) (by simp [results, Tryd.results148, go_sem]) rfl ⟨rfl, by repeat (first | (with_reducible exact Below.refl _ _) | (with_reducible refine below_alloc ?_ _) | (with_reducible refine pw_below_drewN ?_ _) | (with_reducible refine below_set ?_ ?_) | omega)⟩
   ·obtain ⟨r, p, hr, hnx⟩ := token_name.nx_high Tryd.prog (w.alloc (Obj.cells #[Value.int IntKind.i64 0, Value.string { data := #[] }, Value.int IntKind.i64 0, Value.int IntKind.i64 0] 142)) (w.heap.size + 1) (s.extract a s.size) pos (token_name.aw_size w) hlt2 (by omega)
    have hc : decide ((r : Int) ≥ 128) = true := by simp; omega
    have HN : Hid (token_name.nb (bt s ((a + pos : Nat) : Int)) = false) := Lib.hid (by
     rw [← HB.out]
     generalize (((s.extract a s.size)[pos]'hlt2).toNat) = c at *
     unfold token_name.nb; simp; omega)
    have HST := Lib.hid (token_name.stop_step s a pos E hlt _ HN.out HS.out); have hEq : a + pos = E := HST.out; obtain rfl := hEq
    have h33 : 32 < pos := by omega
    go_wp2
    exact bodyPost_ret (v := .tuple #[.agg #[.int .i64 0, .string (⟨#[]⟩ : ByteArray), .int .i64 0, .int .i64 0], .int .i64 a, .int .i64 1]) (by simp [results, Tryd.results148, go_sem]) rfl ⟨rfl, by repeat (first | (with_reducible exact Below.refl _ _) | (with_reducible refine below_alloc ?_ _) | (with_reducible refine pw_below_drewN ?_ _) | (with_reducible refine below_set ?_ ?_) | omega)⟩
  ·have hlt2 : ¬ pos < (s.extract a s.size).size := by rw [HX.out]; omega
   have hnx := fun ty => token_name.nx_end Tryd.prog (w.alloc (Obj.cells #[Value.int IntKind.i64 0, Value.string { data := #[] }, Value.int IntKind.i64 0, Value.int IntKind.i64 0] 142)) (w.heap.size + 1) (s.extract a s.size) pos ty (token_name.aw_size w) hlt2
   have hEq : s.size = E := by have := HS.out; rw [show s.size - a - pos = 0 by omega] at this; unfold token_name.stop at this; omega
   obtain rfl := hEq
   have h33 : a + 32 < s.size := by omega
   go_wp2
   exact bodyPost_ret (v := .tuple #[.agg #[.int .i64 0, .string (⟨#[]⟩ : ByteArray), .int .i64 0, .int .i64 0], .int .i64 a, .int .i64 1]) (by simp [results, Tryd.results148, go_sem]) rfl ⟨rfl, by repeat (first | (with_reducible exact Below.refl _ _) | (with_reducible refine below_alloc ?_ _) | (with_reducible refine pw_below_drewN ?_ _) | (with_reducible refine below_set ?_ ?_) | omega)⟩
set_option maxHeartbeats 4000000 in
theorem token_name.core_true (k : Nat) (s : ByteArray) (a : Nat) (w : World) (ha : a ≤ s.size) (hs : s.size ≤ 9223372036854775807) (E : Nat) (hE : token_name.stop s (s.size - a) a = E) (h32 : E ≤ a + 32) (hw : schema_Word.f k (s.extract a E) = some true) :
  Calls Tryd.prog 148 #[.string s, .int .i64 a] w (token_name.Post w 2 (s.extract a E) 0 a E 0) := by
 have hu_tok := Tryd.underlying142; have HE := Lib.hid hE; clear hE
 have hx : (s.extract a s.size).size = s.size - a := by simp [ByteArray.size_extract]
 have HX := Lib.hid hx; clear hx; have HWd := Lib.hid hw; clear hw
 go_enter Tryd.func148, Tryd.ntmps148
 go_wp2
 go_loopw [7] (fun v w' => ∃ pos : Nat, w' = (w.alloc (Obj.cells #[Value.int IntKind.i64 0, Value.string { data := #[] }, Value.int IntKind.i64 0, Value.int IntKind.i64 0] 142)).alloc (.stringIter (s.extract a s.size) pos) ∧ v = .int .i64 s.size ∧ a + pos ≤ s.size ∧ token_name.stop s (s.size - a - pos) (a + pos) = E) (fun _ w' => s.size - w'.iterPos (w.heap.size + 1))
 case atStart => exact ⟨0, rfl, rfl, by omega, HE.out⟩
 case round =>
  obtain ⟨pos, rfl, rfl, hp, he⟩ := hrel; have HS := Lib.hid he; clear he
  by_cases hlt : a + pos < s.size
  ·have hlt2 : pos < (s.extract a s.size).size := by rw [HX.out]; omega
   have HB := Lib.hid (token_name.at_pos s a pos hlt hlt2)
   by_cases h128 : ((s.extract a s.size)[pos]'hlt2).toNat < 128
   ·have hnx := fun ty => token_name.nx_ascii Tryd.prog (w.alloc (Obj.cells #[Value.int IntKind.i64 0, Value.string { data := #[] }, Value.int IntKind.i64 0, Value.int IntKind.i64 0] 142)) (w.heap.size + 1) (s.extract a s.size) pos ty (token_name.aw_size w) hlt2 _ rfl h128
    generalize (((s.extract a s.size)[pos]'hlt2).toNat) = c at *
    have hc : decide ((c : Int) ≥ 128) = false := by simp; omega
    obtain ⟨bl, hl⟩ : ∃ b, (decide (97 ≤ (c : Int) ∧ (c : Int) ≤ 122) || decide ((c : Int) = 95)) = b := ⟨_, rfl⟩
    obtain ⟨bd, hd⟩ : ∃ b, decide (48 ≤ (c : Int) ∧ (c : Int) ≤ 57) = b := ⟨_, rfl⟩
    have HLt := Lib.hid hl; have HDg := Lib.hid hd; clear hl hd; have HN : Hid (token_name.nb (bt s ((a + pos : Nat) : Int)) = (bl || bd)) := Lib.hid (by rw [← HB.out]; unfold token_name.nb; rw [HLt.out, HDg.out]); have HST := Lib.hid (token_name.stop_step s a pos E hlt _ HN.out HS.out)
    cases bl with
    | true =>
     go_wp2_with (first | (go_at_call 147; refine (token_name.letter_same _ _ _ HLt.out).mono ?_; rintro e w' ⟨rfl, rfl⟩) | (go_at_call 149; refine (token_name.digit_same _ _ _ HDg.out).mono ?_; rintro e w' ⟨rfl, rfl⟩))
     refine ⟨⟨pos + 1, rfl, rfl, by omega, HST.out⟩, ?_⟩; rw [token_name.iter_at, token_name.iter_at]; omega
    | false =>
     cases bd with
     | true =>
      go_wp2_with (first | (go_at_call 147; refine (token_name.letter_same _ _ _ HLt.out).mono ?_; rintro e w' ⟨rfl, rfl⟩) | (go_at_call 149; refine (token_name.digit_same _ _ _ HDg.out).mono ?_; rintro e w' ⟨rfl, rfl⟩))
      refine ⟨⟨pos + 1, rfl, rfl, by omega, HST.out⟩, ?_⟩; rw [token_name.iter_at, token_name.iter_at]; omega
     | false =>
      have hEq : a + pos = E := HST.out; obtain rfl := hEq
      have h33 : pos ≤ 32 := by omega
      have hsl := token_name.slice_at s a pos hp
      go_wp2_with (first | (go_at_call 147; refine (token_name.letter_same _ _ _ HLt.out).mono ?_; rintro e w' ⟨rfl, rfl⟩) | (go_at_call 149; refine (token_name.digit_same _ _ _ HDg.out).mono ?_; rintro e w' ⟨rfl, rfl⟩))
      refine (schema_Word.calls k _ _ _ HWd.out).mono ?_; rintro e w1 ⟨rfl, hd⟩; have hb := hd.below; clear hd; obtain ⟨hcc, hff⟩ := token_name.bcell hb
      have hz : w.heap.size + 1 + 1 < w1.heap.size := by have := hb.size; simp at this; omega
      have HBel := Lib.hid (Below.trans (below_alloc (below_alloc (below_alloc (Below.refl w.heap.size w) _) _) _) (hb.mono (by simp; omega))); clear hb
      go_wp2_with fail
      have g0 : w1.cell? ⟨w.heap.size, 0, none⟩ = some (.int .i64 0) := by rw [hcc _ _ (by simp; omega)]; simp [go_sem]
      have g1 : w1.cell? ⟨w.heap.size, 1, none⟩ = some (.string (⟨#[]⟩ : ByteArray)) := by rw [hcc _ _ (by simp; omega)]; simp [go_sem]
      have g2 : w1.cell? ⟨w.heap.size, 2, none⟩ = some (.int .i64 0) := by rw [hcc _ _ (by simp; omega)]; simp [go_sem]
      have g3 : w1.cell? ⟨w.heap.size, 3, none⟩ = some (.int .i64 0) := by rw [hcc _ _ (by simp; omega)]; simp [go_sem]
      have gg : ∀ x j, (w1.setCell ⟨w.heap.size + 1 + 1, 0, none⟩ x).cell? ⟨w.heap.size, j, none⟩ = w1.cell? ⟨w.heap.size, j, none⟩ := fun x j => by first | exact World.cell?_setCell_other _ _ _ _ (by simp) | exact World.cell?_setCell_other _ _ _ _ (by simp; omega) | exact World.cell?_setCell_other (by simp) | exact World.cell?_setCell_other (by simp; omega)
      refine bodyPost_ret (v := .tuple #[.agg #[.int .i64 2, .string (s.extract a (a + pos)), .int .i64 0, .int .i64 a], .int .i64 ((a : Int) + pos), .int .i64 0]) (by simp [results, Tryd.results148, go_sem, gg, g0, g1, g2, g3]) rfl ⟨by simp, ?_⟩
      repeat (first | (with_reducible exact HBel.out) | (with_reducible exact Below.refl _ _) | (with_reducible refine below_alloc ?_ _) | (with_reducible refine pw_below_drewN ?_ _) | (with_reducible refine below_set ?_ ?_) | omega)
   ·obtain ⟨r, p, hr, hnx⟩ := token_name.nx_high Tryd.prog (w.alloc (Obj.cells #[Value.int IntKind.i64 0, Value.string { data := #[] }, Value.int IntKind.i64 0, Value.int IntKind.i64 0] 142)) (w.heap.size + 1) (s.extract a s.size) pos (token_name.aw_size w) hlt2 (by omega)
    have hc : decide ((r : Int) ≥ 128) = true := by simp; omega
    have HN : Hid (token_name.nb (bt s ((a + pos : Nat) : Int)) = false) := Lib.hid (by
     rw [← HB.out]
     generalize (((s.extract a s.size)[pos]'hlt2).toNat) = c at *
     unfold token_name.nb; simp; omega)
    have HST := Lib.hid (token_name.stop_step s a pos E hlt _ HN.out HS.out); have hEq : a + pos = E := HST.out; obtain rfl := hEq
    have h33 : pos ≤ 32 := by omega
    have hsl := token_name.slice_at s a pos hp
    go_wp2_with fail
    refine (schema_Word.calls k _ _ _ HWd.out).mono ?_; rintro e w1 ⟨rfl, hd⟩; have hb := hd.below; clear hd; obtain ⟨hcc, hff⟩ := token_name.bcell hb
    have hz : w.heap.size + 1 + 1 < w1.heap.size := by have := hb.size; simp at this; omega
    have HBel := Lib.hid (Below.trans (below_alloc (below_alloc (below_alloc (Below.refl w.heap.size w) _) _) _) (hb.mono (by simp; omega))); clear hb
    go_wp2_with fail
    have g0 : w1.cell? ⟨w.heap.size, 0, none⟩ = some (.int .i64 0) := by rw [hcc _ _ (by simp; omega)]; simp [go_sem]
    have g1 : w1.cell? ⟨w.heap.size, 1, none⟩ = some (.string (⟨#[]⟩ : ByteArray)) := by rw [hcc _ _ (by simp; omega)]; simp [go_sem]
    have g2 : w1.cell? ⟨w.heap.size, 2, none⟩ = some (.int .i64 0) := by rw [hcc _ _ (by simp; omega)]; simp [go_sem]
    have g3 : w1.cell? ⟨w.heap.size, 3, none⟩ = some (.int .i64 0) := by rw [hcc _ _ (by simp; omega)]; simp [go_sem]
    have gg : ∀ x j, (w1.setCell ⟨w.heap.size + 1 + 1, 0, none⟩ x).cell? ⟨w.heap.size, j, none⟩ = w1.cell? ⟨w.heap.size, j, none⟩ := fun x j => by first | exact World.cell?_setCell_other _ _ _ _ (by simp) | exact World.cell?_setCell_other _ _ _ _ (by simp; omega) | exact World.cell?_setCell_other (by simp) | exact World.cell?_setCell_other (by simp; omega)
    refine bodyPost_ret (v := .tuple #[.agg #[.int .i64 2, .string (s.extract a (a + pos)), .int .i64 0, .int .i64 a], .int .i64 ((a : Int) + pos), .int .i64 0]) (by simp [results, Tryd.results148, go_sem, gg, g0, g1, g2, g3]) rfl ⟨by simp, ?_⟩
    repeat (first | (with_reducible exact HBel.out) | (with_reducible exact Below.refl _ _) | (with_reducible refine below_alloc ?_ _) | (with_reducible refine pw_below_drewN ?_ _) | (with_reducible refine below_set ?_ ?_) | omega)
  ·have hlt2 : ¬ pos < (s.extract a s.size).size := by rw [HX.out]; omega
   have hnx := fun ty => token_name.nx_end Tryd.prog (w.alloc (Obj.cells #[Value.int IntKind.i64 0, Value.string { data := #[] }, Value.int IntKind.i64 0, Value.int IntKind.i64 0] 142)) (w.heap.size + 1) (s.extract a s.size) pos ty (token_name.aw_size w) hlt2
   have hEq : s.size = E := by have := HS.out; rw [show s.size - a - pos = 0 by omega] at this; unfold token_name.stop at this; omega
   obtain rfl := hEq
   have h33 : s.size ≤ a + 32 := by omega
   go_wp2_with fail
   refine (schema_Word.calls k _ _ _ HWd.out).mono ?_; rintro e w1 ⟨rfl, hd⟩; have hb := hd.below; clear hd; obtain ⟨hcc, hff⟩ := token_name.bcell hb
   have hz : w.heap.size + 1 + 1 < w1.heap.size := by have := hb.size; simp at this; omega
   have HBel := Lib.hid (Below.trans (below_alloc (below_alloc (below_alloc (Below.refl w.heap.size w) _) _) _) (hb.mono (by simp; omega))); clear hb
   go_wp2_with fail
   have g0 : w1.cell? ⟨w.heap.size, 0, none⟩ = some (.int .i64 0) := by rw [hcc _ _ (by simp; omega)]; simp [go_sem]
   have g1 : w1.cell? ⟨w.heap.size, 1, none⟩ = some (.string (⟨#[]⟩ : ByteArray)) := by rw [hcc _ _ (by simp; omega)]; simp [go_sem]
   have g2 : w1.cell? ⟨w.heap.size, 2, none⟩ = some (.int .i64 0) := by rw [hcc _ _ (by simp; omega)]; simp [go_sem]
   have g3 : w1.cell? ⟨w.heap.size, 3, none⟩ = some (.int .i64 0) := by rw [hcc _ _ (by simp; omega)]; simp [go_sem]
   have gg : ∀ x j, (w1.setCell ⟨w.heap.size + 1 + 1, 0, none⟩ x).cell? ⟨w.heap.size, j, none⟩ = w1.cell? ⟨w.heap.size, j, none⟩ := fun x j => by first | exact World.cell?_setCell_other _ _ _ _ (by simp) | exact World.cell?_setCell_other _ _ _ _ (by simp; omega) | exact World.cell?_setCell_other (by simp) | exact World.cell?_setCell_other (by simp; omega)
   refine bodyPost_ret (v := .tuple #[.agg #[.int .i64 2, .string (s.extract a s.size), .int .i64 0, .int .i64 a], .int .i64 (s.size : Int), .int .i64 0]) (by simp [results, Tryd.results148, go_sem, gg, g0, g1, g2, g3]) rfl ⟨by simp, ?_⟩
   repeat (first | (with_reducible exact HBel.out) | (with_reducible exact Below.refl _ _) | (with_reducible refine below_alloc ?_ _) | (with_reducible refine pw_below_drewN ?_ _) | (with_reducible refine below_set ?_ ?_) | omega)
set_option maxHeartbeats 4000000 in
theorem token_name.core_false (k : Nat) (s : ByteArray) (a : Nat) (w : World) (ha : a ≤ s.size) (hs : s.size ≤ 9223372036854775807) (E : Nat) (hE : token_name.stop s (s.size - a) a = E) (h32 : E ≤ a + 32) (hw : schema_Word.f k (s.extract a E) = some false) :
  Calls Tryd.prog 148 #[.string s, .int .i64 a] w (token_name.Post w 1 (s.extract a E) 0 a E 0) := by
 have hu_tok := Tryd.underlying142; have HE := Lib.hid hE; clear hE
 have hx : (s.extract a s.size).size = s.size - a := by simp [ByteArray.size_extract]
 have HX := Lib.hid hx; clear hx; have HWd := Lib.hid hw; clear hw
 go_enter Tryd.func148, Tryd.ntmps148
 go_wp2
 go_loopw [7] (fun v w' => ∃ pos : Nat, w' = (w.alloc (Obj.cells #[Value.int IntKind.i64 0, Value.string { data := #[] }, Value.int IntKind.i64 0, Value.int IntKind.i64 0] 142)).alloc (.stringIter (s.extract a s.size) pos) ∧ v = .int .i64 s.size ∧ a + pos ≤ s.size ∧ token_name.stop s (s.size - a - pos) (a + pos) = E) (fun _ w' => s.size - w'.iterPos (w.heap.size + 1))
 case atStart => exact ⟨0, rfl, rfl, by omega, HE.out⟩
 case round =>
  obtain ⟨pos, rfl, rfl, hp, he⟩ := hrel; have HS := Lib.hid he; clear he
  by_cases hlt : a + pos < s.size
  ·have hlt2 : pos < (s.extract a s.size).size := by rw [HX.out]; omega
   have HB := Lib.hid (token_name.at_pos s a pos hlt hlt2)
   by_cases h128 : ((s.extract a s.size)[pos]'hlt2).toNat < 128
   ·have hnx := fun ty => token_name.nx_ascii Tryd.prog (w.alloc (Obj.cells #[Value.int IntKind.i64 0, Value.string { data := #[] }, Value.int IntKind.i64 0, Value.int IntKind.i64 0] 142)) (w.heap.size + 1) (s.extract a s.size) pos ty (token_name.aw_size w) hlt2 _ rfl h128
    generalize (((s.extract a s.size)[pos]'hlt2).toNat) = c at *
    have hc : decide ((c : Int) ≥ 128) = false := by simp; omega
    obtain ⟨bl, hl⟩ : ∃ b, (decide (97 ≤ (c : Int) ∧ (c : Int) ≤ 122) || decide ((c : Int) = 95)) = b := ⟨_, rfl⟩
    obtain ⟨bd, hd⟩ : ∃ b, decide (48 ≤ (c : Int) ∧ (c : Int) ≤ 57) = b := ⟨_, rfl⟩
    have HLt := Lib.hid hl; have HDg := Lib.hid hd; clear hl hd; have HN : Hid (token_name.nb (bt s ((a + pos : Nat) : Int)) = (bl || bd)) := Lib.hid (by rw [← HB.out]; unfold token_name.nb; rw [HLt.out, HDg.out]); have HST := Lib.hid (token_name.stop_step s a pos E hlt _ HN.out HS.out)
    cases bl with
    | true =>
     go_wp2_with (first | (go_at_call 147; refine (token_name.letter_same _ _ _ HLt.out).mono ?_; rintro e w' ⟨rfl, rfl⟩) | (go_at_call 149; refine (token_name.digit_same _ _ _ HDg.out).mono ?_; rintro e w' ⟨rfl, rfl⟩))
     refine ⟨⟨pos + 1, rfl, rfl, by omega, HST.out⟩, ?_⟩; rw [token_name.iter_at, token_name.iter_at]; omega
    | false =>
     cases bd with
     | true =>
      go_wp2_with (first | (go_at_call 147; refine (token_name.letter_same _ _ _ HLt.out).mono ?_; rintro e w' ⟨rfl, rfl⟩) | (go_at_call 149; refine (token_name.digit_same _ _ _ HDg.out).mono ?_; rintro e w' ⟨rfl, rfl⟩))
      refine ⟨⟨pos + 1, rfl, rfl, by omega, HST.out⟩, ?_⟩; rw [token_name.iter_at, token_name.iter_at]; omega
     | false =>
      have hEq : a + pos = E := HST.out; obtain rfl := hEq
      have h33 : pos ≤ 32 := by omega
      have hsl := token_name.slice_at s a pos hp
      go_wp2_with (first | (go_at_call 147; refine (token_name.letter_same _ _ _ HLt.out).mono ?_; rintro e w' ⟨rfl, rfl⟩) | (go_at_call 149; refine (token_name.digit_same _ _ _ HDg.out).mono ?_; rintro e w' ⟨rfl, rfl⟩))
      refine (schema_Word.calls k _ _ _ HWd.out).mono ?_; rintro e w1 ⟨rfl, hd⟩; have hb := hd.below; clear hd; obtain ⟨hcc, hff⟩ := token_name.bcell hb
      have hz : w.heap.size + 1 + 1 < w1.heap.size := by have := hb.size; simp at this; omega
      have HBel := Lib.hid (Below.trans (below_alloc (below_alloc (below_alloc (Below.refl w.heap.size w) _) _) _) (hb.mono (by simp; omega))); clear hb
      go_wp2_with fail
      have g0 : w1.cell? ⟨w.heap.size, 0, none⟩ = some (.int .i64 0) := by rw [hcc _ _ (by simp; omega)]; simp [go_sem]
      have g1 : w1.cell? ⟨w.heap.size, 1, none⟩ = some (.string (⟨#[]⟩ : ByteArray)) := by rw [hcc _ _ (by simp; omega)]; simp [go_sem]
      have g2 : w1.cell? ⟨w.heap.size, 2, none⟩ = some (.int .i64 0) := by rw [hcc _ _ (by simp; omega)]; simp [go_sem]
      have g3 : w1.cell? ⟨w.heap.size, 3, none⟩ = some (.int .i64 0) := by rw [hcc _ _ (by simp; omega)]; simp [go_sem]
      have gg : ∀ x j, (w1.setCell ⟨w.heap.size + 1 + 1, 0, none⟩ x).cell? ⟨w.heap.size, j, none⟩ = w1.cell? ⟨w.heap.size, j, none⟩ := fun x j => by first | exact World.cell?_setCell_other _ _ _ _ (by simp) | exact World.cell?_setCell_other _ _ _ _ (by simp; omega) | exact World.cell?_setCell_other (by simp) | exact World.cell?_setCell_other (by simp; omega)
      refine bodyPost_ret (v := .tuple #[.agg #[.int .i64 1, .string (s.extract a (a + pos)), .int .i64 0, .int .i64 a], .int .i64 ((a : Int) + pos), .int .i64 0]) (by simp [results, Tryd.results148, go_sem, gg, g0, g1, g2, g3]) rfl ⟨by simp, ?_⟩
      repeat (first | (with_reducible exact HBel.out) | (with_reducible exact Below.refl _ _) | (with_reducible refine below_alloc ?_ _) | (with_reducible refine pw_below_drewN ?_ _) | (with_reducible refine below_set ?_ ?_) | omega)
   ·obtain ⟨r, p, hr, hnx⟩ := token_name.nx_high Tryd.prog (w.alloc (Obj.cells #[Value.int IntKind.i64 0, Value.string { data := #[] }, Value.int IntKind.i64 0, Value.int IntKind.i64 0] 142)) (w.heap.size + 1) (s.extract a s.size) pos (token_name.aw_size w) hlt2 (by omega)
    have hc : decide ((r : Int) ≥ 128) = true := by simp; omega
    have HN : Hid (token_name.nb (bt s ((a + pos : Nat) : Int)) = false) := Lib.hid (by
     rw [← HB.out]
     generalize (((s.extract a s.size)[pos]'hlt2).toNat) = c at *
     unfold token_name.nb; simp; omega)
    have HST := Lib.hid (token_name.stop_step s a pos E hlt _ HN.out HS.out); have hEq : a + pos = E := HST.out; obtain rfl := hEq
    have h33 : pos ≤ 32 := by omega
    have hsl := token_name.slice_at s a pos hp
    go_wp2_with fail
    refine (schema_Word.calls k _ _ _ HWd.out).mono ?_; rintro e w1 ⟨rfl, hd⟩; have hb := hd.below; clear hd; obtain ⟨hcc, hff⟩ := token_name.bcell hb
    have hz : w.heap.size + 1 + 1 < w1.heap.size := by have := hb.size; simp at this; omega
    have HBel := Lib.hid (Below.trans (below_alloc (below_alloc (below_alloc (Below.refl w.heap.size w) _) _) _) (hb.mono (by simp; omega))); clear hb
    go_wp2_with fail
    have g0 : w1.cell? ⟨w.heap.size, 0, none⟩ = some (.int .i64 0) := by rw [hcc _ _ (by simp; omega)]; simp [go_sem]
    have g1 : w1.cell? ⟨w.heap.size, 1, none⟩ = some (.string (⟨#[]⟩ : ByteArray)) := by rw [hcc _ _ (by simp; omega)]; simp [go_sem]
    have g2 : w1.cell? ⟨w.heap.size, 2, none⟩ = some (.int .i64 0) := by rw [hcc _ _ (by simp; omega)]; simp [go_sem]
    have g3 : w1.cell? ⟨w.heap.size, 3, none⟩ = some (.int .i64 0) := by rw [hcc _ _ (by simp; omega)]; simp [go_sem]
    have gg : ∀ x j, (w1.setCell ⟨w.heap.size + 1 + 1, 0, none⟩ x).cell? ⟨w.heap.size, j, none⟩ = w1.cell? ⟨w.heap.size, j, none⟩ := fun x j => by first | exact World.cell?_setCell_other _ _ _ _ (by simp) | exact World.cell?_setCell_other _ _ _ _ (by simp; omega) | exact World.cell?_setCell_other (by simp) | exact World.cell?_setCell_other (by simp; omega)
    refine bodyPost_ret (v := .tuple #[.agg #[.int .i64 1, .string (s.extract a (a + pos)), .int .i64 0, .int .i64 a], .int .i64 ((a : Int) + pos), .int .i64 0]) (by simp [results, Tryd.results148, go_sem, gg, g0, g1, g2, g3]) rfl ⟨by simp, ?_⟩
    repeat (first | (with_reducible exact HBel.out) | (with_reducible exact Below.refl _ _) | (with_reducible refine below_alloc ?_ _) | (with_reducible refine pw_below_drewN ?_ _) | (with_reducible refine below_set ?_ ?_) | omega)
  ·have hlt2 : ¬ pos < (s.extract a s.size).size := by rw [HX.out]; omega
   have hnx := fun ty => token_name.nx_end Tryd.prog (w.alloc (Obj.cells #[Value.int IntKind.i64 0, Value.string { data := #[] }, Value.int IntKind.i64 0, Value.int IntKind.i64 0] 142)) (w.heap.size + 1) (s.extract a s.size) pos ty (token_name.aw_size w) hlt2
   have hEq : s.size = E := by have := HS.out; rw [show s.size - a - pos = 0 by omega] at this; unfold token_name.stop at this; omega
   obtain rfl := hEq
   have h33 : s.size ≤ a + 32 := by omega
   go_wp2_with fail
   refine (schema_Word.calls k _ _ _ HWd.out).mono ?_; rintro e w1 ⟨rfl, hd⟩; have hb := hd.below; clear hd; obtain ⟨hcc, hff⟩ := token_name.bcell hb
   have hz : w.heap.size + 1 + 1 < w1.heap.size := by have := hb.size; simp at this; omega
   have HBel := Lib.hid (Below.trans (below_alloc (below_alloc (below_alloc (Below.refl w.heap.size w) _) _) _) (hb.mono (by simp; omega))); clear hb
   go_wp2_with fail
   have g0 : w1.cell? ⟨w.heap.size, 0, none⟩ = some (.int .i64 0) := by rw [hcc _ _ (by simp; omega)]; simp [go_sem]
   have g1 : w1.cell? ⟨w.heap.size, 1, none⟩ = some (.string (⟨#[]⟩ : ByteArray)) := by rw [hcc _ _ (by simp; omega)]; simp [go_sem]
   have g2 : w1.cell? ⟨w.heap.size, 2, none⟩ = some (.int .i64 0) := by rw [hcc _ _ (by simp; omega)]; simp [go_sem]
   have g3 : w1.cell? ⟨w.heap.size, 3, none⟩ = some (.int .i64 0) := by rw [hcc _ _ (by simp; omega)]; simp [go_sem]
   have gg : ∀ x j, (w1.setCell ⟨w.heap.size + 1 + 1, 0, none⟩ x).cell? ⟨w.heap.size, j, none⟩ = w1.cell? ⟨w.heap.size, j, none⟩ := fun x j => by first | exact World.cell?_setCell_other _ _ _ _ (by simp) | exact World.cell?_setCell_other _ _ _ _ (by simp; omega) | exact World.cell?_setCell_other (by simp) | exact World.cell?_setCell_other (by simp; omega)
   refine bodyPost_ret (v := .tuple #[.agg #[.int .i64 1, .string (s.extract a s.size), .int .i64 0, .int .i64 a], .int .i64 (s.size : Int), .int .i64 0]) (by simp [results, Tryd.results148, go_sem, gg, g0, g1, g2, g3]) rfl ⟨by simp, ?_⟩
   repeat (first | (with_reducible exact HBel.out) | (with_reducible exact Below.refl _ _) | (with_reducible refine below_alloc ?_ _) | (with_reducible refine pw_below_drewN ?_ _) | (with_reducible refine below_set ?_ ?_) | omega)
theorem token_name.calls (k : Nat) (a0 : ByteArray) (a1 : Int) (r1 : Int) (r2 : ByteArray) (r3 : Int) (r4 : Int) (r5 : Int) (r6 : Int) (w : World) (h : token_name.f k a0 a1 = some (r1, r2, r3, r4, r5, r6)) :
  Calls Tryd.prog 148 #[.string a0, .int .i64 a1] w fun e w' => e = .returned (.tuple #[.agg #[.int .i64 r1, .string r2, .int .i64 r3, .int .i64 r4], .int .i64 r5, .int .i64 r6]) ∧ Below w.heap.size w w' := by
 unfold token_name.f at h
 split at h
 ·rename_i c
  obtain ⟨c0, c1, c2⟩ := c; obtain ⟨a, rfl⟩ := Int.eq_ofNat_of_zero_le c0; rw [Int.toNat_natCast] at h
  obtain ⟨E, hE⟩ : ∃ E, token_name.stop a0 (a0.size - a) a = E := ⟨_, rfl⟩
  rw [hE] at h
  split at h
  ·rename_i c3
   obtain ⟨rfl, rfl, rfl, rfl, rfl, rfl⟩ : 0 = r1 ∧ (⟨#[]⟩ : ByteArray) = r2 ∧ 0 = r3 ∧ 0 = r4 ∧ (a : Int) = r5 ∧ 1 = r6 := by simpa using h
   exact token_name.core_long k a0 a w (by omega) c2 E hE (by omega)
  ·rename_i c3
   rw [Option.bind_eq_some_iff] at h; obtain ⟨t, ht, h⟩ := h
   cases t with
   | true =>
    obtain ⟨rfl, rfl, rfl, rfl, rfl, rfl⟩ : 2 = r1 ∧ a0.extract a E = r2 ∧ 0 = r3 ∧ (a : Int) = r4 ∧ (E : Int) = r5 ∧ 0 = r6 := by simpa using h
    exact token_name.core_true k a0 a w (by omega) c2 E hE (by omega) ht
   | false =>
    obtain ⟨rfl, rfl, rfl, rfl, rfl, rfl⟩ : 1 = r1 ∧ a0.extract a E = r2 ∧ 0 = r3 ∧ (a : Int) = r4 ∧ (E : Int) = r5 ∧ 0 = r6 := by simpa using h
    exact token_name.core_false k a0 a w (by omega) c2 E hE (by omega) ht
 ·exact absurd h (by simp)
end Go.Proofs.YthlepdjjdbpmoaaDoor.PPrintExprs
namespace Go.Proofs.YthlepdjjdbpmoaaDoor.PPrintExprs
open Go.RowKit Go.Proofs.YthlepdjjdbpmoaaDoorW.PrintWords Go.Proofs.YthlepdjjdbpmoaaDoorW.PrintLast Go.Proofs.YthlepdjjdbpmoaaDoorW.PrintMore
attribute [local go_sem] max2_int min2_int max_two min_two max_three min_three max_four min_four
set_option linter.unusedVariables false
set_option maxHeartbeats 8000000
set_option linter.unusedSimpArgs false
set_option maxRecDepth 100000
def token_Blank.f (a0 : Int) : Option (Bool) := if a0 = 32 then (some true) else (if a0 = 9 then (some true) else (if a0 = 10 then (some true) else (some (a0 == 13))))
theorem token_Blank.calls (a0 : Int) (r : Bool) (w : World) (h : token_Blank.f a0 = some r) :
  Calls Tryd.prog 120 #[.int .u8 a0] w fun e w' => e = .returned (.bool r) ∧ Drawn0 w w' := by
 have H : (if a0 = 32 then (some true) else (if a0 = 9 then (some true) else (if a0 = 10 then (some true) else (some (a0 == 13))))) = some r := h; clear h
 by_cases c2 : a0 = 32
 ·rw [if_pos c2] at H
  have c2b0 : (a0 == 32) = true := beq_iff_eq.mpr c2; have c2b1 : (a0 != 32) = false := bne_eq_false_iff_eq.mpr c2; clear c2; obtain rfl := Option.some.inj H
  go_enter Tryd.func120, Tryd.ntmps120
  go_wp2
  go_ret
  exact ⟨rs_, by repeat (first | exact Drawn0.refl _ | apply Drawn0.step)⟩
 ·rw [if_neg c2] at H
  have c2b0 : (a0 == 32) = false := beq_eq_false_iff_ne.mpr c2; have c2b1 : (a0 != 32) = true := bne_iff_ne.mpr c2
  by_cases c3 : a0 = 9
  ·rw [if_pos c3] at H
   have c3b0 : (a0 == 9) = true := beq_iff_eq.mpr c3; have c3b1 : (a0 != 9) = false := bne_eq_false_iff_eq.mpr c3; clear c3; obtain rfl := Option.some.inj H
   go_enter Tryd.func120, Tryd.ntmps120
   go_wp2
   go_ret
   exact ⟨rs_, by repeat (first | exact Drawn0.refl _ | apply Drawn0.step)⟩
  ·rw [if_neg c3] at H
   have c3b0 : (a0 == 9) = false := beq_eq_false_iff_ne.mpr c3; have c3b1 : (a0 != 9) = true := bne_iff_ne.mpr c3
   by_cases c4 : a0 = 10
   ·rw [if_pos c4] at H
    have c4b0 : (a0 == 10) = true := beq_iff_eq.mpr c4; have c4b1 : (a0 != 10) = false := bne_eq_false_iff_eq.mpr c4; clear c4; obtain rfl := Option.some.inj H
    go_enter Tryd.func120, Tryd.ntmps120
    go_wp2
    go_ret
    exact ⟨rs_, by repeat (first | exact Drawn0.refl _ | apply Drawn0.step)⟩
   ·rw [if_neg c4] at H
    have c4b0 : (a0 == 10) = false := beq_eq_false_iff_ne.mpr c4; have c4b1 : (a0 != 10) = true := bne_iff_ne.mpr c4; obtain rfl := Option.some.inj H
    go_enter Tryd.func120, Tryd.ntmps120
    go_wp2
    go_ret
    exact ⟨rs_, by repeat (first | exact Drawn0.refl _ | apply Drawn0.step)⟩
def stringslite_HasPrefix.f (a0 : ByteArray) (a1 : ByteArray) : Option (Bool) := if (a0.size : Int) ≥ (a1.size : Int) then (if 0 ≤ (a1.size : Int) then (if (a1.size : Int) ≤ (a0.size : Int) then (some ((a0.extract 0 ((a1.size : Int) : Int).toNat).toList == a1.toList)) else (none)) else (none)) else (some false)
theorem stringslite_HasPrefix.calls (a0 : ByteArray) (a1 : ByteArray) (r : Bool) (w : World) (h : stringslite_HasPrefix.f a0 a1 = some r) :
  Calls Tryd.prog 139 #[.string a0, .string a1] w fun e w' => e = .returned (.bool r) ∧ Drawn0 w w' := by
 have H : (if (a0.size : Int) ≥ (a1.size : Int) then (if 0 ≤ (a1.size : Int) then (if (a1.size : Int) ≤ (a0.size : Int) then (some ((a0.extract 0 ((a1.size : Int) : Int).toNat).toList == a1.toList)) else (none)) else (none)) else (some false)) = some r := h; clear h
 by_cases c3 : (a0.size : Int) ≥ (a1.size : Int)
 ·rw [if_pos c3] at H
  have c3b0 : decide ((a1.size : Int) ≤ (a0.size : Int)) = true := decide_eq_true c3; have c3b1 : decide (a1.size ≤ a0.size) = true := decide_eq_true (Int.ofNat_le.mp c3); clear c3
  by_cases c4 : 0 ≤ (a1.size : Int)
  ·rw [if_pos c4] at H
   have c4b0 := eq_true c4; have c4b1 : decide (0 ≤ (a1.size : Int)) = true := decide_eq_true c4; clear c4
   by_cases c5 : (a1.size : Int) ≤ (a0.size : Int)
   ·rw [if_pos c5] at H
    have c5b0 := eq_true c5; have c5b1 : decide ((a1.size : Int) ≤ (a0.size : Int)) = true := decide_eq_true c5; clear c5; obtain rfl := Option.some.inj H
    go_enter Tryd.func139, Tryd.ntmps139
    go_wp2
    go_ret
    exact ⟨rs_, by repeat (first | exact Drawn0.refl _ | apply Drawn0.step)⟩
   ·rw [if_neg c5] at H
    exact absurd H (by simp)
  ·rw [if_neg c4] at H
   exact absurd H (by simp)
 ·rw [if_neg c3] at H
  have c3b0 : decide ((a1.size : Int) ≤ (a0.size : Int)) = false := decide_eq_false c3; have c3b1 : decide (a1.size ≤ a0.size) = false := decide_eq_false (fun h => c3 (Int.ofNat_le.mpr h)); clear c3; obtain rfl := Option.some.inj H
  go_enter Tryd.func139, Tryd.ntmps139
  go_wp2
  go_ret
  exact ⟨rs_, by repeat (first | exact Drawn0.refl _ | apply Drawn0.step)⟩
def strings_HasPrefix.f (a0 : ByteArray) (a1 : ByteArray) : Option (Bool) := (stringslite_HasPrefix.f a0 a1).bind fun t135 => (some t135)
theorem strings_HasPrefix.calls (a0 : ByteArray) (a1 : ByteArray) (r : Bool) (w : World) (h : strings_HasPrefix.f a0 a1 = some r) :
  Calls Tryd.prog 165 #[.string a0, .string a1] w fun e w' => e = .returned (.bool r) ∧ Drawn0 w w' := by
 have H : ((stringslite_HasPrefix.f a0 a1).bind fun t135 => (some t135)) = some r := h; clear h; replace H := Option.bind_eq_some_iff.mp H; obtain ⟨t135, A30, H⟩ := H; replace H : (some t135) = some r := H; have A3 := am_ A30; clear A30; obtain rfl := Option.some.inj H
 go_enter Tryd.func165, Tryd.ntmps165
 go_wp2_with (first | ((with_reducible refine gate_callee (f := 139) rfl ?_); refine goesL_ (some 7) rfl rfl Tryd.func139 (by kernel_rfl) rfl #[.string a0, .string a1] rfl (by (try simp only [List.map_toArray, List.map_cons, List.map_nil]); first | done | rfl | (simp only [List.length_drop, List.length_take]; rfl)) ?_; (with_reducible refine (stringslite_HasPrefix.calls a0 a1 t135 _ A3.out).mono ?_); rintro e w' ⟨rfl, ⟨nd, rfl⟩⟩; refine ⟨_, rfl, ?_⟩))
 go_ret
 exact ⟨rs_, by repeat (first | exact Drawn0.refl _ | apply Drawn0.step)⟩
mutual
def token_Sign.j0 : Nat → ByteArray → Int → Bool → Option (ByteArray)
 | 0, _, _, _ => none
 | k + 1, x0, x1, x14 => if x14 = true then (some (⟨#[]⟩ : ByteArray)) else ((some (([(⟨#[60, 62]⟩ : ByteArray), (⟨#[60, 61]⟩ : ByteArray), (⟨#[62, 61]⟩ : ByteArray)] : List ByteArray) : List ByteArray)).bind fun y136 => (token_Sign.l0 k x0 x1 y136 (y136.length : Int) 0))
def token_Sign.l0 : Nat → ByteArray → Int → List ByteArray → Int → Int → Option (ByteArray)
 | 0, _, _, _, _, _ => none
 | k + 1, x0, x1, x15, x16, x17 => if x17 < x16 then (if 0 ≤ x17 then (if x17 < (x15.length : Int) then (if 0 ≤ x1 then (if x1 ≤ (x0.size : Int) then ((strings_HasPrefix.f (x0.extract (x1 : Int).toNat x0.size) (rdOf ByteArray.empty x15 x17)).bind fun t140 => (if t140 = true then (some (rdOf ByteArray.empty x15 x17)) else (token_Sign.l0 k x0 x1 x15 x16 (wrap64 (x17 + 1))))) else (none)) else (none)) else (none)) else (none)) else (if 0 ≤ x1 then (if x1 < (x0.size : Int) then (if (bt x0 x1) = 40 then (if x1 ≤ (wrap64 (x1 + 1)) then (if (wrap64 (x1 + 1)) ≤ (x0.size : Int) then (some (x0.extract (x1 : Int).toNat ((wrap64 (x1 + 1)) : Int).toNat)) else (none)) else (none)) else (if (bt x0 x1) = 41 then (if x1 ≤ (wrap64 (x1 + 1)) then (if (wrap64 (x1 + 1)) ≤ (x0.size : Int) then (some (x0.extract (x1 : Int).toNat ((wrap64 (x1 + 1)) : Int).toNat)) else (none)) else (none)) else (if (bt x0 x1) = 44 then (if x1 ≤ (wrap64 (x1 + 1)) then (if (wrap64 (x1 + 1)) ≤ (x0.size : Int) then (some (x0.extract (x1 : Int).toNat ((wrap64 (x1 + 1)) : Int).toNat)) else (none)) else (none)) else (if (bt x0 x1) = 46 then (if x1 ≤ (wrap64 (x1 + 1)) then (if (wrap64 (x1 + 1)) ≤ (x0.size : Int) then (some (x0.extract (x1 : Int).toNat ((wrap64 (x1 + 1)) : Int).toNat)) else (none)) else (none)) else (if (bt x0 x1) = 42 then (if x1 ≤ (wrap64 (x1 + 1)) then (if (wrap64 (x1 + 1)) ≤ (x0.size : Int) then (some (x0.extract (x1 : Int).toNat ((wrap64 (x1 + 1)) : Int).toNat)) else (none)) else (none)) else (if (bt x0 x1) = 43 then (if x1 ≤ (wrap64 (x1 + 1)) then (if (wrap64 (x1 + 1)) ≤ (x0.size : Int) then (some (x0.extract (x1 : Int).toNat ((wrap64 (x1 + 1)) : Int).toNat)) else (none)) else (none)) else (if (bt x0 x1) = 45 then (if x1 ≤ (wrap64 (x1 + 1)) then (if (wrap64 (x1 + 1)) ≤ (x0.size : Int) then (some (x0.extract (x1 : Int).toNat ((wrap64 (x1 + 1)) : Int).toNat)) else (none)) else (none)) else (if (bt x0 x1) = 61 then (if x1 ≤ (wrap64 (x1 + 1)) then (if (wrap64 (x1 + 1)) ≤ (x0.size : Int) then (some (x0.extract (x1 : Int).toNat ((wrap64 (x1 + 1)) : Int).toNat)) else (none)) else (none)) else (if (bt x0 x1) = 60 then (if x1 ≤ (wrap64 (x1 + 1)) then (if (wrap64 (x1 + 1)) ≤ (x0.size : Int) then (some (x0.extract (x1 : Int).toNat ((wrap64 (x1 + 1)) : Int).toNat)) else (none)) else (none)) else (if (bt x0 x1) = 62 then (if x1 ≤ (wrap64 (x1 + 1)) then (if (wrap64 (x1 + 1)) ≤ (x0.size : Int) then (some (x0.extract (x1 : Int).toNat ((wrap64 (x1 + 1)) : Int).toNat)) else (none)) else (none)) else (some (⟨#[]⟩ : ByteArray)))))))))))) else (none)) else (none))
end
def token_Sign.f (k : Nat) (a0 : ByteArray) (a1 : Int) : Option (ByteArray) := if a1 < 0 then (token_Sign.j0 k a0 a1 true) else (token_Sign.j0 k a0 a1 (decide (a1 ≥ (a0.size : Int))))
theorem token_Sign.mono_l : ∀ k, (∀ y0 y1 y2, LeO (token_Sign.j0 k y0 y1 y2) (token_Sign.j0 (k + 1) y0 y1 y2)) ∧ (∀ y0 y1 y2 y3 y4, LeO (token_Sign.l0 k y0 y1 y2 y3 y4) (token_Sign.l0 (k + 1) y0 y1 y2 y3 y4))
 | 0 => ⟨fun _ _ _ r h => by simp [token_Sign.j0] at h, fun _ _ _ _ _ r h => by simp [token_Sign.l0] at h⟩
 | k + 1 => by
  obtain ⟨ih0, ih1⟩ := token_Sign.mono_l k; refine ⟨?_, ?_⟩
  ·intro y0 y1 y2
   unfold token_Sign.j0
   repeat' first
   | (with_reducible exact ih0 _ _ _)
   | (with_reducible exact ih1 _ _ _ _ _)
   | (with_reducible exact LeO.refl _)
   | (with_reducible exact LeO.none _)
   | (with_reducible refine LeO.ite ?_ ?_)
   | (with_reducible refine LeO.bind ?_ (fun _ => ?_))
   | exact ih0 _ _ _
   | exact ih1 _ _ _ _ _
   | exact LeO.none _
   | refine LeO.ite ?_ ?_
   | refine LeO.bind ?_ (fun _ => ?_)
  ·intro y0 y1 y2 y3 y4
   unfold token_Sign.l0
   repeat' first
   | (with_reducible exact ih0 _ _ _)
   | (with_reducible exact ih1 _ _ _ _ _)
   | (with_reducible exact LeO.refl _)
   | (with_reducible exact LeO.none _)
   | (with_reducible refine LeO.ite ?_ ?_)
   | (with_reducible refine LeO.bind ?_ (fun _ => ?_))
   | exact ih0 _ _ _
   | exact ih1 _ _ _ _ _
   | exact LeO.none _
   | refine LeO.ite ?_ ?_
   | refine LeO.bind ?_ (fun _ => ?_)
theorem token_Sign.mono : ∀ a0 a1 k, LeO (token_Sign.f k a0 a1) (token_Sign.f (k + 1) a0 a1) := by
 intro a0 a1 k; obtain ⟨ih0, ih1⟩ := token_Sign.mono_l k; unfold token_Sign.f
 repeat' first
   | (with_reducible exact ih0 _ _ _)
   | (with_reducible exact ih1 _ _ _ _ _)
   | (with_reducible exact LeO.refl _)
   | (with_reducible exact LeO.none _)
   | (with_reducible refine LeO.ite ?_ ?_)
   | (with_reducible refine LeO.bind ?_ (fun _ => ?_))
   | exact ih0 _ _ _
   | exact ih1 _ _ _ _ _
   | exact LeO.none _
   | refine LeO.ite ?_ ?_
   | refine LeO.bind ?_ (fun _ => ?_)
theorem token_Sign.calls (k : Nat) (a0 : ByteArray) (a1 : Int) (r : ByteArray) (w : World) (h : token_Sign.f k a0 a1 = some r) :
  Calls Tryd.prog 146 #[.string a0, .int .i64 a1] w fun e w' => e = .returned (.string r) ∧ Below w.heap.size w w' := by
 have HB := am_ (Below.refl w.heap.size w); have H : (if a1 < 0 then (token_Sign.j0 k a0 a1 true) else (token_Sign.j0 k a0 a1 (decide (a1 ≥ (a0.size : Int))))) = some r := h; clear h; have HC3 := am_ H; clear H
 go_enter Tryd.func146, Tryd.ntmps146
 go_upto_region 1 with (fail)
 go_cut [14] (fun v14 wc => ∃ (kq : Nat) (x14_2 : Bool), v14 = .bool x14_2 ∧ Aside0 (token_Sign.j0 kq a0 a1 x14_2 = some r) ∧ Aside0 (kq ≤ k) ∧ Aside0 (Below w.heap.size w wc))
 case first =>
  have H := HC3.out; clear HC3
  by_cases c4 : a1 < 0
  ·rw [if_pos c4] at H
   have c4b0 : decide (a1 < 0) = true := decide_eq_true c4; clear c4; (first | rw [c4b0] | (simp only [i64_w, i32_w]; rw [c4b0]) | skip); have H' := am_ H; clear H
   go_wp2
   go_meet
   case rel => exact ⟨_, (true), (rs_), H', ⟨by first | omega | exact Nat.le_refl _⟩, ⟨bl_⟩⟩
  ·rw [if_neg c4] at H
   have c4b0 : decide (a1 < 0) = false := decide_eq_false c4; clear c4; (first | rw [c4b0] | (simp only [i64_w, i32_w]; rw [c4b0]) | skip); have H' := am_ H; clear H
   go_wp2
   go_meet
   case rel => exact ⟨_, (decide (a1 ≥ (a0.size : Int))), (rs_), H', ⟨by first | omega | exact Nat.le_refl _⟩, ⟨bl_⟩⟩
 case rest =>
  clear HC3; (try clear c1); (try clear p2); (try clear c4); (try clear c4b0); obtain ⟨kq, x14_2, rfl, HA, HJ2, HB⟩ := hcut
  cases kq with
  | zero => exact absurd HA.out (by simp [token_Sign.j0])
  | succ kj2 =>
   have H := HA.out; clear HA; simp only [token_Sign.j0] at H
   by_cases c5 : x14_2 = true
   ·subst c5
    have H1 : (some (⟨#[]⟩ : ByteArray)) = some r := by rw [if_pos rfl] at H; exact H
    clear H; have H := H1; clear H1; obtain rfl := Option.some.inj H
    go_wp2
    go_ret
    exact ⟨ew_, bl_⟩
   ·replace c5 := Bool.eq_false_iff.mpr c5
    subst c5
    have H1 : ((some (([(⟨#[60, 62]⟩ : ByteArray), (⟨#[60, 61]⟩ : ByteArray), (⟨#[62, 61]⟩ : ByteArray)] : List ByteArray) : List ByteArray)).bind fun y136 => (token_Sign.l0 kj2 a0 a1 y136 (y136.length : Int) 0)) = some r := by rw [if_neg (show ¬ (false = true) by decide)] at H; exact H
    clear H; have H := H1; clear H1
    obtain ⟨y136, hy136⟩ : ∃ y_ : List ByteArray, y_ = (([(⟨#[60, 62]⟩ : ByteArray), (⟨#[60, 61]⟩ : ByteArray), (⟨#[62, 61]⟩ : ByteArray)] : List ByteArray)) := ⟨_, rfl⟩
    replace H : (token_Sign.l0 kj2 a0 a1 y136 (y136.length : Int) 0) = some r := by first | (rw [hy136]; with_reducible exact H) | (have H2_ := (Option.bind_some _ _).symm.trans H; rw [hy136]; with_reducible exact H2_) | (have H2_ := (Option.bind_some _ _).symm.trans H; with_reducible exact H2_) | with_reducible exact H | (rw [hy136]; exact H) | exact H
    have Ny136 := am_ hy136; clear hy136; have H' := am_ H; clear H
    go_wp2_with (first | ((with_reducible refine gate_dst (N := 15) rfl ?_); (try (refine gate_guard (by rfl) ?_; dsimp only)); refine Kd.R_lit Kd.string _ 9 ?hg (N := 15) ?hd (xs := ([(⟨#[60, 62]⟩ : ByteArray), (⟨#[60, 61]⟩ : ByteArray), (⟨#[62, 61]⟩ : ByteArray)] : List ByteArray)) (inner := [.string (⟨#[60, 62]⟩ : ByteArray), .string (⟨#[60, 61]⟩ : ByteArray), .string (⟨#[62, 61]⟩ : ByteArray)]) (ok := fun _ => True) (okp := fun _ => True) ?hr ?hp (fun _ hk => hk) trivial (Below.refl _ _) (Nat.le_refl _) (by simp) ?_; (case hd => rfl); (case hg => rfl); (case hr => first | (go_simp; done) | (go_simp; rfl)); (case hp => exact (Reps.one (show Kd.M Kd.string _ _ _ (⟨#[60, 62]⟩ : ByteArray) [.string (⟨#[60, 62]⟩ : ByteArray)] from rfl) (Reps.one (show Kd.M Kd.string _ _ _ (⟨#[60, 61]⟩ : ByteArray) [.string (⟨#[60, 61]⟩ : ByteArray)] from rfl) (Reps.one (show Kd.M Kd.string _ _ _ (⟨#[62, 61]⟩ : ByteArray) [.string (⟨#[62, 61]⟩ : ByteArray)] from rfl) (Reps.none _ _))))); intro v137 w6 ho7 hb hg_ hnew_; clear hg_ hnew_; (first | rw [← Ny136.out] at ho7 | (simp only [Int.reduceToNat] at ho7; rw [← Ny136.out] at ho7)); have HO138 := am_ (Kd.R_lower ho7 (below_size (bl_))); replace HB := am_ (below_step (bl_) hb); clear hb ho7; obtain ⟨Ao8, co8, eo8⟩ := Kd.R_slice HO138.out; subst eo8))
    go_loopg [17] kj2 (fun kq v17 w' => ∃ (x17_2 : Int), v17 = .int .i64 x17_2 ∧ Aside0 (token_Sign.l0 kq a0 a1 y136 (y136.length : Int) x17_2 = some r) ∧ Aside0 (kq ≤ kj2) ∧ Aside0 (Kd.R Kd.string 9 w' w.heap.size (fun _ => True) (.slice Ao8 y136.length co8) y136) ∧ Aside0 (Below w.heap.size w w'))
    case atStart => exact ⟨(0), (rs_), H', ⟨Nat.le_refl _⟩, ⟨kr_ HO138.out⟩, ⟨bl_⟩⟩
    case round =>
     clear H'; (try clear c1); (try clear p2); (try clear c4); (try clear c4b0); (try clear c5); (try clear p2); obtain ⟨x17_2, rfl, HA, HK2, HO_15, HB⟩ := hrel
     cases gk with
     | zero => exact absurd HA.out (by simp [token_Sign.l0])
     | succ k2 =>
      have H := HA.out; clear HA; simp only [token_Sign.l0] at H
      by_cases c9 : x17_2 < (y136.length : Int)
      ·rw [if_pos c9] at H
       have c9b0 : decide (x17_2 < (y136.length : Int)) = true := decide_eq_true c9; clear c9
       by_cases c10 : 0 ≤ x17_2
       ·rw [if_pos c10] at H
        have c10b0 : decide (0 ≤ x17_2) = true := decide_eq_true c10; clear c10
        by_cases c11 : x17_2 < (y136.length : Int)
        ·rw [if_pos c11] at H
         have c11b0 : decide (x17_2 < (y136.length : Int)) = true := decide_eq_true c11; clear c11
         by_cases c12 : 0 ≤ a1
         ·rw [if_pos c12] at H
          have c12b0 := eq_true c12; have c12b1 : decide (0 ≤ a1) = true := decide_eq_true c12; clear c12
          by_cases c13 : a1 ≤ (a0.size : Int)
          ·rw [if_pos c13] at H
           have c13b0 := eq_true c13; have c13b1 : decide (a1 ≤ (a0.size : Int)) = true := decide_eq_true c13; clear c13; replace H := Option.bind_eq_some_iff.mp H; obtain ⟨t140, A140, H⟩ := H; replace H : (if t140 = true then (some (rdOf ByteArray.empty y136 x17_2)) else (token_Sign.l0 k2 a0 a1 y136 (y136.length : Int) (wrap64 (x17_2 + 1)))) = some r := H; have A14 := am_ A140; clear A140
           by_cases c15 : t140 = true
           ·subst c15
            have H1 : (some (rdOf ByteArray.empty y136 x17_2)) = some r := by rw [if_pos rfl] at H; exact H
            clear H; have H := H1; clear H1; obtain rfl := Option.some.inj H; have p139 : 0 ≤ (x17_2 : Int) := of_decide_eq_true (as_); have q139 : x17_2 < (y136.length : Int) := of_decide_eq_true (as_); obtain ⟨ad139, e139, hx139_0⟩ := Kd.at_string (Kd.R_reads' HO_15.out).2.2 x17_2 p139 q139; cases e139; replace p139 := eq_true p139; replace q139 := eq_true q139
            go_wp2_with (first | ((with_reducible refine gate_callee (f := 165) rfl ?_); refine goesL_ (some 25) rfl rfl Tryd.func165 (by kernel_rfl) rfl #[.string (a0.extract (a1 : Int).toNat a0.size), .string (rdOf ByteArray.empty y136 x17_2)] rfl (by (try simp only [List.map_toArray, List.map_cons, List.map_nil]); first | done | rfl | (simp only [List.length_drop, List.length_take]; rfl)) ?_; (with_reducible refine (strings_HasPrefix.calls (a0.extract (a1 : Int).toNat a0.size) (rdOf ByteArray.empty y136 x17_2) true _ A14.out).mono ?_); rintro e w' ⟨rfl, ⟨nd, rfl⟩⟩; refine ⟨_, rfl, ?_⟩))
            go_ret
            exact ⟨ew_, bl_⟩
           ·replace c15 := Bool.eq_false_iff.mpr c15
            subst c15
            have H1 : (token_Sign.l0 k2 a0 a1 y136 (y136.length : Int) (wrap64 (x17_2 + 1))) = some r := by rw [if_neg (show ¬ (false = true) by decide)] at H; exact H
            clear H; have H := H1; clear H1; have H' := am_ H; clear H; have p139 : 0 ≤ (x17_2 : Int) := of_decide_eq_true (as_); have q139 : x17_2 < (y136.length : Int) := of_decide_eq_true (as_); obtain ⟨ad139, e139, hx139_0⟩ := Kd.at_string (Kd.R_reads' HO_15.out).2.2 x17_2 p139 q139; cases e139; replace p139 := eq_true p139; replace q139 := eq_true q139
            go_wp2_with (first | ((with_reducible refine gate_callee (f := 165) rfl ?_); refine goesL_ (some 25) rfl rfl Tryd.func165 (by kernel_rfl) rfl #[.string (a0.extract (a1 : Int).toNat a0.size), .string (rdOf ByteArray.empty y136 x17_2)] rfl (by (try simp only [List.map_toArray, List.map_cons, List.map_nil]); first | done | rfl | (simp only [List.length_drop, List.length_take]; rfl)) ?_; (with_reducible refine (strings_HasPrefix.calls (a0.extract (a1 : Int).toNat a0.size) (rdOf ByteArray.empty y136 x17_2) false _ A14.out).mono ?_); rintro e w' ⟨rfl, ⟨nd, rfl⟩⟩; refine ⟨_, rfl, ?_⟩))
            go_roundg k2
            case measure => have := HJ2.out; have := HK2.out; omega
            case rel => exact ⟨(wrap64 (x17_2 + 1)), (rs_), H', ⟨by have := HJ2.out; have := HK2.out; omega⟩, ⟨kr_ HO_15.out⟩, ⟨bl_⟩⟩
          ·rw [if_neg c13] at H
           exact absurd H (by simp)
         ·rw [if_neg c12] at H
          exact absurd H (by simp)
        ·rw [if_neg c11] at H
         exact absurd H (by simp)
       ·rw [if_neg c10] at H
        exact absurd H (by simp)
      ·rw [if_neg c9] at H
       have c9b0 : decide (x17_2 < (y136.length : Int)) = false := decide_eq_false c9; clear c9
       by_cases c16 : 0 ≤ a1
       ·rw [if_pos c16] at H
        have c16b0 : decide (0 ≤ a1) = true := decide_eq_true c16; clear c16
        by_cases c17 : a1 < (a0.size : Int)
        ·rw [if_pos c17] at H
         have c17b0 : decide (a1 < (a0.size : Int)) = true := decide_eq_true c17; clear c17
         by_cases c19 : (bt a0 a1) = 40
         ·rw [if_pos c19] at H
          have c19b0 : ((bt a0 a1) == 40) = true := beq_iff_eq.mpr c19; have c19b1 : ((bt a0 a1) != 40) = false := bne_eq_false_iff_eq.mpr c19; clear c19; have c20b0 := eq_true (of_decide_eq_true (as_) : 0 ≤ a1)
          by_cases c21 : a1 ≤ (wrap64 (a1 + 1))
          ·rw [if_pos c21] at H
           have c21b0 := eq_true c21; have c21b1 : decide (a1 ≤ (wrap64 (a1 + 1))) = true := decide_eq_true c21
           by_cases c22 : (wrap64 (a1 + 1)) ≤ (a0.size : Int)
           ·rw [if_pos c22] at H
            have c22b0 := eq_true c22; have c22b1 : decide ((wrap64 (a1 + 1)) ≤ (a0.size : Int)) = true := decide_eq_true c22; obtain rfl := Option.some.inj H; have p18 : 0 ≤ (a1 : Int) := of_decide_eq_true (as_); have q18 : a1 < (a0.size : Int) := of_decide_eq_true (as_); have hx18 := bt_at a0 a1; replace p18 := eq_true p18; replace q18 := eq_true q18
            go_wp2
            go_ret
            exact ⟨ew_, bl_⟩
           ·rw [if_neg c22] at H
            exact absurd H (by simp)
          ·rw [if_neg c21] at H
           exact absurd H (by simp)
         ·rw [if_neg c19] at H
          have c19b0 : ((bt a0 a1) == 40) = false := beq_eq_false_iff_ne.mpr c19; have c19b1 : ((bt a0 a1) != 40) = true := bne_iff_ne.mpr c19
          by_cases c23 : (bt a0 a1) = 41
          ·rw [if_pos c23] at H
           have c23b0 : ((bt a0 a1) == 41) = true := beq_iff_eq.mpr c23; have c23b1 : ((bt a0 a1) != 41) = false := bne_eq_false_iff_eq.mpr c23; clear c23; have c24b0 := eq_true (of_decide_eq_true (as_) : 0 ≤ a1)
           by_cases c25 : a1 ≤ (wrap64 (a1 + 1))
           ·rw [if_pos c25] at H
            have c25b0 := eq_true c25; have c25b1 : decide (a1 ≤ (wrap64 (a1 + 1))) = true := decide_eq_true c25
            by_cases c26 : (wrap64 (a1 + 1)) ≤ (a0.size : Int)
            ·rw [if_pos c26] at H
             have c26b0 := eq_true c26; have c26b1 : decide ((wrap64 (a1 + 1)) ≤ (a0.size : Int)) = true := decide_eq_true c26; obtain rfl := Option.some.inj H; have p18 : 0 ≤ (a1 : Int) := of_decide_eq_true (as_); have q18 : a1 < (a0.size : Int) := of_decide_eq_true (as_); have hx18 := bt_at a0 a1; replace p18 := eq_true p18; replace q18 := eq_true q18
             go_wp2
             go_ret
             exact ⟨ew_, bl_⟩
            ·rw [if_neg c26] at H
             exact absurd H (by simp)
           ·rw [if_neg c25] at H
            exact absurd H (by simp)
          ·rw [if_neg c23] at H
           have c23b0 : ((bt a0 a1) == 41) = false := beq_eq_false_iff_ne.mpr c23; have c23b1 : ((bt a0 a1) != 41) = true := bne_iff_ne.mpr c23
           by_cases c27 : (bt a0 a1) = 44
           ·rw [if_pos c27] at H
            have c27b0 : ((bt a0 a1) == 44) = true := beq_iff_eq.mpr c27; have c27b1 : ((bt a0 a1) != 44) = false := bne_eq_false_iff_eq.mpr c27; clear c27; have c28b0 := eq_true (of_decide_eq_true (as_) : 0 ≤ a1)
            by_cases c29 : a1 ≤ (wrap64 (a1 + 1))
            ·rw [if_pos c29] at H
             have c29b0 := eq_true c29; have c29b1 : decide (a1 ≤ (wrap64 (a1 + 1))) = true := decide_eq_true c29
             by_cases c30 : (wrap64 (a1 + 1)) ≤ (a0.size : Int)
             ·rw [if_pos c30] at H
              have c30b0 := eq_true c30; have c30b1 : decide ((wrap64 (a1 + 1)) ≤ (a0.size : Int)) = true := decide_eq_true c30; obtain rfl := Option.some.inj H; have p18 : 0 ≤ (a1 : Int) := of_decide_eq_true (as_); have q18 : a1 < (a0.size : Int) := of_decide_eq_true (as_); have hx18 := bt_at a0 a1; replace p18 := eq_true p18; replace q18 := eq_true q18
              go_wp2
              go_ret
              exact ⟨ew_, bl_⟩
             ·rw [if_neg c30] at H
              exact absurd H (by simp)
            ·rw [if_neg c29] at H
             exact absurd H (by simp)
           ·rw [if_neg c27] at H
            have c27b0 : ((bt a0 a1) == 44) = false := beq_eq_false_iff_ne.mpr c27; have c27b1 : ((bt a0 a1) != 44) = true := bne_iff_ne.mpr c27
            by_cases c31 : (bt a0 a1) = 46
            ·rw [if_pos c31] at H
             have c31b0 : ((bt a0 a1) == 46) = true := beq_iff_eq.mpr c31; have c31b1 : ((bt a0 a1) != 46) = false := bne_eq_false_iff_eq.mpr c31; clear c31; have c32b0 := eq_true (of_decide_eq_true (as_) : 0 ≤ a1)
             by_cases c33 : a1 ≤ (wrap64 (a1 + 1))
             ·rw [if_pos c33] at H
              have c33b0 := eq_true c33; have c33b1 : decide (a1 ≤ (wrap64 (a1 + 1))) = true := decide_eq_true c33
              by_cases c34 : (wrap64 (a1 + 1)) ≤ (a0.size : Int)
              ·rw [if_pos c34] at H
               have c34b0 := eq_true c34; have c34b1 : decide ((wrap64 (a1 + 1)) ≤ (a0.size : Int)) = true := decide_eq_true c34; obtain rfl := Option.some.inj H; have p18 : 0 ≤ (a1 : Int) := of_decide_eq_true (as_); have q18 : a1 < (a0.size : Int) := of_decide_eq_true (as_); have hx18 := bt_at a0 a1; replace p18 := eq_true p18; replace q18 := eq_true q18
               go_wp2
               go_ret
               exact ⟨ew_, bl_⟩
              ·rw [if_neg c34] at H
               exact absurd H (by simp)
             ·rw [if_neg c33] at H
              exact absurd H (by simp)
            ·rw [if_neg c31] at H
             have c31b0 : ((bt a0 a1) == 46) = false := beq_eq_false_iff_ne.mpr c31; have c31b1 : ((bt a0 a1) != 46) = true := bne_iff_ne.mpr c31
             by_cases c35 : (bt a0 a1) = 42
             ·rw [if_pos c35] at H
              have c35b0 : ((bt a0 a1) == 42) = true := beq_iff_eq.mpr c35; have c35b1 : ((bt a0 a1) != 42) = false := bne_eq_false_iff_eq.mpr c35; clear c35; have c36b0 := eq_true (of_decide_eq_true (as_) : 0 ≤ a1)
              by_cases c37 : a1 ≤ (wrap64 (a1 + 1))
              ·rw [if_pos c37] at H
               have c37b0 := eq_true c37; have c37b1 : decide (a1 ≤ (wrap64 (a1 + 1))) = true := decide_eq_true c37
               by_cases c38 : (wrap64 (a1 + 1)) ≤ (a0.size : Int)
               ·rw [if_pos c38] at H
                have c38b0 := eq_true c38; have c38b1 : decide ((wrap64 (a1 + 1)) ≤ (a0.size : Int)) = true := decide_eq_true c38; obtain rfl := Option.some.inj H; have p18 : 0 ≤ (a1 : Int) := of_decide_eq_true (as_); have q18 : a1 < (a0.size : Int) := of_decide_eq_true (as_); have hx18 := bt_at a0 a1; replace p18 := eq_true p18; replace q18 := eq_true q18
                go_wp2
                go_ret
                exact ⟨ew_, bl_⟩
               ·rw [if_neg c38] at H
                exact absurd H (by simp)
              ·rw [if_neg c37] at H
               exact absurd H (by simp)
             ·rw [if_neg c35] at H
              have c35b0 : ((bt a0 a1) == 42) = false := beq_eq_false_iff_ne.mpr c35; have c35b1 : ((bt a0 a1) != 42) = true := bne_iff_ne.mpr c35
              by_cases c39 : (bt a0 a1) = 43
              ·rw [if_pos c39] at H
               have c39b0 : ((bt a0 a1) == 43) = true := beq_iff_eq.mpr c39; have c39b1 : ((bt a0 a1) != 43) = false := bne_eq_false_iff_eq.mpr c39; clear c39; have c40b0 := eq_true (of_decide_eq_true (as_) : 0 ≤ a1)
               by_cases c41 : a1 ≤ (wrap64 (a1 + 1))
               ·rw [if_pos c41] at H
                have c41b0 := eq_true c41; have c41b1 : decide (a1 ≤ (wrap64 (a1 + 1))) = true := decide_eq_true c41
                by_cases c42 : (wrap64 (a1 + 1)) ≤ (a0.size : Int)
                ·rw [if_pos c42] at H
                 have c42b0 := eq_true c42; have c42b1 : decide ((wrap64 (a1 + 1)) ≤ (a0.size : Int)) = true := decide_eq_true c42; obtain rfl := Option.some.inj H; have p18 : 0 ≤ (a1 : Int) := of_decide_eq_true (as_); have q18 : a1 < (a0.size : Int) := of_decide_eq_true (as_); have hx18 := bt_at a0 a1; replace p18 := eq_true p18; replace q18 := eq_true q18
                 go_wp2
                 go_ret
                 exact ⟨ew_, bl_⟩
                ·rw [if_neg c42] at H
                 exact absurd H (by simp)
               ·rw [if_neg c41] at H
                exact absurd H (by simp)
              ·rw [if_neg c39] at H
               have c39b0 : ((bt a0 a1) == 43) = false := beq_eq_false_iff_ne.mpr c39; have c39b1 : ((bt a0 a1) != 43) = true := bne_iff_ne.mpr c39
               by_cases c43 : (bt a0 a1) = 45
               ·rw [if_pos c43] at H
                have c43b0 : ((bt a0 a1) == 45) = true := beq_iff_eq.mpr c43; have c43b1 : ((bt a0 a1) != 45) = false := bne_eq_false_iff_eq.mpr c43; clear c43; have c44b0 := eq_true (of_decide_eq_true (as_) : 0 ≤ a1)
                by_cases c45 : a1 ≤ (wrap64 (a1 + 1))
                ·rw [if_pos c45] at H
                 have c45b0 := eq_true c45; have c45b1 : decide (a1 ≤ (wrap64 (a1 + 1))) = true := decide_eq_true c45
                 by_cases c46 : (wrap64 (a1 + 1)) ≤ (a0.size : Int)
                 ·rw [if_pos c46] at H
                  have c46b0 := eq_true c46; have c46b1 : decide ((wrap64 (a1 + 1)) ≤ (a0.size : Int)) = true := decide_eq_true c46; obtain rfl := Option.some.inj H; have p18 : 0 ≤ (a1 : Int) := of_decide_eq_true (as_); have q18 : a1 < (a0.size : Int) := of_decide_eq_true (as_); have hx18 := bt_at a0 a1; replace p18 := eq_true p18; replace q18 := eq_true q18
                  go_wp2
                  go_ret
                  exact ⟨ew_, bl_⟩
                 ·rw [if_neg c46] at H
                  exact absurd H (by simp)
                ·rw [if_neg c45] at H
                 exact absurd H (by simp)
               ·rw [if_neg c43] at H
                have c43b0 : ((bt a0 a1) == 45) = false := beq_eq_false_iff_ne.mpr c43; have c43b1 : ((bt a0 a1) != 45) = true := bne_iff_ne.mpr c43
                by_cases c47 : (bt a0 a1) = 61
                ·rw [if_pos c47] at H
                 have c47b0 : ((bt a0 a1) == 61) = true := beq_iff_eq.mpr c47; have c47b1 : ((bt a0 a1) != 61) = false := bne_eq_false_iff_eq.mpr c47; clear c47; have c48b0 := eq_true (of_decide_eq_true (as_) : 0 ≤ a1)
                 by_cases c49 : a1 ≤ (wrap64 (a1 + 1))
                 ·rw [if_pos c49] at H
                  have c49b0 := eq_true c49; have c49b1 : decide (a1 ≤ (wrap64 (a1 + 1))) = true := decide_eq_true c49
                  by_cases c50 : (wrap64 (a1 + 1)) ≤ (a0.size : Int)
                  ·rw [if_pos c50] at H
                   have c50b0 := eq_true c50; have c50b1 : decide ((wrap64 (a1 + 1)) ≤ (a0.size : Int)) = true := decide_eq_true c50; obtain rfl := Option.some.inj H; have p18 : 0 ≤ (a1 : Int) := of_decide_eq_true (as_); have q18 : a1 < (a0.size : Int) := of_decide_eq_true (as_); have hx18 := bt_at a0 a1; replace p18 := eq_true p18; replace q18 := eq_true q18
                   go_wp2
                   go_ret
                   exact ⟨ew_, bl_⟩
                  ·rw [if_neg c50] at H
                   exact absurd H (by simp)
                 ·rw [if_neg c49] at H
                  exact absurd H (by simp)
                ·rw [if_neg c47] at H
                 have c47b0 : ((bt a0 a1) == 61) = false := beq_eq_false_iff_ne.mpr c47; have c47b1 : ((bt a0 a1) != 61) = true := bne_iff_ne.mpr c47
                 by_cases c51 : (bt a0 a1) = 60
                 ·rw [if_pos c51] at H
                  have c51b0 : ((bt a0 a1) == 60) = true := beq_iff_eq.mpr c51; have c51b1 : ((bt a0 a1) != 60) = false := bne_eq_false_iff_eq.mpr c51; clear c51; have c52b0 := eq_true (of_decide_eq_true (as_) : 0 ≤ a1)
                  by_cases c53 : a1 ≤ (wrap64 (a1 + 1))
                  ·rw [if_pos c53] at H
                   have c53b0 := eq_true c53; have c53b1 : decide (a1 ≤ (wrap64 (a1 + 1))) = true := decide_eq_true c53
                   by_cases c54 : (wrap64 (a1 + 1)) ≤ (a0.size : Int)
                   ·rw [if_pos c54] at H
                    have c54b0 := eq_true c54; have c54b1 : decide ((wrap64 (a1 + 1)) ≤ (a0.size : Int)) = true := decide_eq_true c54; obtain rfl := Option.some.inj H; have p18 : 0 ≤ (a1 : Int) := of_decide_eq_true (as_); have q18 : a1 < (a0.size : Int) := of_decide_eq_true (as_); have hx18 := bt_at a0 a1; replace p18 := eq_true p18; replace q18 := eq_true q18
                    go_wp2
                    go_ret
                    exact ⟨ew_, bl_⟩
                   ·rw [if_neg c54] at H
                    exact absurd H (by simp)
                  ·rw [if_neg c53] at H
                   exact absurd H (by simp)
                 ·rw [if_neg c51] at H
                  have c51b0 : ((bt a0 a1) == 60) = false := beq_eq_false_iff_ne.mpr c51; have c51b1 : ((bt a0 a1) != 60) = true := bne_iff_ne.mpr c51
                  by_cases c55 : (bt a0 a1) = 62
                  ·rw [if_pos c55] at H
                   have c55b0 : ((bt a0 a1) == 62) = true := beq_iff_eq.mpr c55; have c55b1 : ((bt a0 a1) != 62) = false := bne_eq_false_iff_eq.mpr c55; clear c55; have c56b0 := eq_true (of_decide_eq_true (as_) : 0 ≤ a1)
                   by_cases c57 : a1 ≤ (wrap64 (a1 + 1))
                   ·rw [if_pos c57] at H
                    have c57b0 := eq_true c57; have c57b1 : decide (a1 ≤ (wrap64 (a1 + 1))) = true := decide_eq_true c57
                    by_cases c58 : (wrap64 (a1 + 1)) ≤ (a0.size : Int)
                    ·rw [if_pos c58] at H
                     have c58b0 := eq_true c58; have c58b1 : decide ((wrap64 (a1 + 1)) ≤ (a0.size : Int)) = true := decide_eq_true c58; obtain rfl := Option.some.inj H; have p18 : 0 ≤ (a1 : Int) := of_decide_eq_true (as_); have q18 : a1 < (a0.size : Int) := of_decide_eq_true (as_); have hx18 := bt_at a0 a1; replace p18 := eq_true p18; replace q18 := eq_true q18
                     go_wp2
                     go_ret
                     exact ⟨ew_, bl_⟩
                    ·rw [if_neg c58] at H
                     exact absurd H (by simp)
                   ·rw [if_neg c57] at H
                    exact absurd H (by simp)
                  ·rw [if_neg c55] at H
                   have c55b0 : ((bt a0 a1) == 62) = false := beq_eq_false_iff_ne.mpr c55; have c55b1 : ((bt a0 a1) != 62) = true := bne_iff_ne.mpr c55; obtain rfl := Option.some.inj H; have p18 : 0 ≤ (a1 : Int) := of_decide_eq_true (as_); have q18 : a1 < (a0.size : Int) := of_decide_eq_true (as_); have hx18 := bt_at a0 a1; replace p18 := eq_true p18; replace q18 := eq_true q18
                   go_wp2
                   go_ret
                   exact ⟨ew_, bl_⟩
        ·rw [if_neg c17] at H
         exact absurd H (by simp)
       ·rw [if_neg c16] at H
        exact absurd H (by simp)
def token_letter.f (a0 : Int) : Option (Bool) := if a0 ≥ 97 then (if a0 ≤ 122 then (some true) else (some (a0 == 95))) else (some (a0 == 95))
theorem token_letter.calls (a0 : Int) (r : Bool) (w : World) (h : token_letter.f a0 = some r) :
  Calls Tryd.prog 147 #[.int .u8 a0] w fun e w' => e = .returned (.bool r) ∧ Drawn0 w w' := by
 have H : (if a0 ≥ 97 then (if a0 ≤ 122 then (some true) else (some (a0 == 95))) else (some (a0 == 95))) = some r := h; clear h
 by_cases c2 : a0 ≥ 97
 ·rw [if_pos c2] at H
  have c2b0 : decide (97 ≤ a0) = true := decide_eq_true c2; clear c2
  by_cases c3 : a0 ≤ 122
  ·rw [if_pos c3] at H
   have c3b0 : decide (a0 ≤ 122) = true := decide_eq_true c3; clear c3; obtain rfl := Option.some.inj H
   go_enter Tryd.func147, Tryd.ntmps147
   go_wp2
   go_ret
   exact ⟨rs_, by repeat (first | exact Drawn0.refl _ | apply Drawn0.step)⟩
  ·rw [if_neg c3] at H
   have c3b0 : decide (a0 ≤ 122) = false := decide_eq_false c3; clear c3; obtain rfl := Option.some.inj H
   go_enter Tryd.func147, Tryd.ntmps147
   go_wp2
   go_ret
   exact ⟨rs_, by repeat (first | exact Drawn0.refl _ | apply Drawn0.step)⟩
 ·rw [if_neg c2] at H
  have c2b0 : decide (97 ≤ a0) = false := decide_eq_false c2; clear c2; obtain rfl := Option.some.inj H
  go_enter Tryd.func147, Tryd.ntmps147
  go_wp2
  go_ret
  exact ⟨rs_, by repeat (first | exact Drawn0.refl _ | apply Drawn0.step)⟩
end Go.Proofs.YthlepdjjdbpmoaaDoor.PPrintExprs
namespace Go.Proofs.YthlepdjjdbpmoaaDoor.PPrintExprs
open Go.RowKit Go.Proofs.YthlepdjjdbpmoaaDoorW.PrintWords Go.Proofs.YthlepdjjdbpmoaaDoorW.PrintLast Go.Proofs.YthlepdjjdbpmoaaDoorW.PrintMore
attribute [local go_sem] max2_int min2_int max_two min_two max_three min_three max_four min_four
set_option linter.unusedVariables false
set_option maxHeartbeats 8000000
set_option linter.unusedSimpArgs false
set_option maxRecDepth 100000
mutual
def token_number.l0 : Nat → ByteArray → Int → Int → Int → Option (Int × ByteArray × Int × Int × Int × Int)
 | 0, _, _, _, _ => none
 | k + 1, x0, x1, x7, x8 => if x8 < (x0.size : Int) then (if 0 ≤ x8 then ((token_digit.f (bt x0 x8)).bind fun t142 => (token_number.j1 k x0 x1 x7 x8 t142)) else (none)) else (token_number.j1 k x0 x1 x7 x8 false)
def token_number.j1 : Nat → ByteArray → Int → Int → Int → Bool → Option (Int × ByteArray × Int × Int × Int × Int)
 | 0, _, _, _, _, _ => none
 | k + 1, x0, x1, x7, x8, x20 => if x20 = true then (if 0 ≤ x8 then (if x8 < (x0.size : Int) then (if x7 > ((9223372036854775807 - (((bt x0 x8) - 48) % 256)) / 10) then (some (0, (⟨#[]⟩ : ByteArray), 0, 0, x1, 1)) else (token_number.l0 k x0 x1 (wrap64 ((wrap64 (10 * x7)) + (((bt x0 x8) - 48) % 256))) (wrap64 (x8 + 1)))) else (none)) else (none)) else (if x8 < (x0.size : Int) then (if 0 ≤ x8 then ((token_letter.f (bt x0 x8)).bind fun t143 => (if t143 = true then (some (0, (⟨#[]⟩ : ByteArray), 0, 0, x1, 1)) else (if 0 ≤ x1 then (if x1 ≤ x8 then (if x8 ≤ (x0.size : Int) then (some (3, x0.extract (x1 : Int).toNat (x8 : Int).toNat, x7, x1, x8, 0)) else (none)) else (none)) else (none)))) else (none)) else (if 0 ≤ x1 then (if x1 ≤ x8 then (if x8 ≤ (x0.size : Int) then (some (3, x0.extract (x1 : Int).toNat (x8 : Int).toNat, x7, x1, x8, 0)) else (none)) else (none)) else (none)))
end
def token_number.f (k : Nat) (a0 : ByteArray) (a1 : Int) : Option (Int × ByteArray × Int × Int × Int × Int) := token_number.l0 k a0 a1 0 a1
theorem token_number.mono_l : ∀ k, (∀ y0 y1 y2 y3, LeO (token_number.l0 k y0 y1 y2 y3) (token_number.l0 (k + 1) y0 y1 y2 y3)) ∧ (∀ y0 y1 y2 y3 y4, LeO (token_number.j1 k y0 y1 y2 y3 y4) (token_number.j1 (k + 1) y0 y1 y2 y3 y4))
 | 0 => ⟨fun _ _ _ _ r h => by simp [token_number.l0] at h, fun _ _ _ _ _ r h => by simp [token_number.j1] at h⟩
 | k + 1 => by
  obtain ⟨ih0, ih1⟩ := token_number.mono_l k; refine ⟨?_, ?_⟩
  ·intro y0 y1 y2 y3
   unfold token_number.l0
   repeat' first
   | (with_reducible exact ih0 _ _ _ _)
   | (with_reducible exact ih1 _ _ _ _ _)
   | (with_reducible exact LeO.refl _)
   | (with_reducible exact LeO.none _)
   | (with_reducible refine LeO.ite ?_ ?_)
   | (with_reducible refine LeO.bind ?_ (fun _ => ?_))
   | exact ih0 _ _ _ _
   | exact ih1 _ _ _ _ _
   | exact LeO.none _
   | refine LeO.ite ?_ ?_
   | refine LeO.bind ?_ (fun _ => ?_)
  ·intro y0 y1 y2 y3 y4
   unfold token_number.j1
   repeat' first
   | (with_reducible exact ih0 _ _ _ _)
   | (with_reducible exact ih1 _ _ _ _ _)
   | (with_reducible exact LeO.refl _)
   | (with_reducible exact LeO.none _)
   | (with_reducible refine LeO.ite ?_ ?_)
   | (with_reducible refine LeO.bind ?_ (fun _ => ?_))
   | exact ih0 _ _ _ _
   | exact ih1 _ _ _ _ _
   | exact LeO.none _
   | refine LeO.ite ?_ ?_
   | refine LeO.bind ?_ (fun _ => ?_)
theorem token_number.mono : ∀ a0 a1 k, LeO (token_number.f k a0 a1) (token_number.f (k + 1) a0 a1) := by
 intro a0 a1 k; obtain ⟨ih0, ih1⟩ := token_number.mono_l k; unfold token_number.f
 repeat' first
   | (with_reducible exact ih0 _ _ _ _)
   | (with_reducible exact ih1 _ _ _ _ _)
   | (with_reducible exact LeO.refl _)
   | (with_reducible exact LeO.none _)
   | (with_reducible refine LeO.ite ?_ ?_)
   | (with_reducible refine LeO.bind ?_ (fun _ => ?_))
   | exact ih0 _ _ _ _
   | exact ih1 _ _ _ _ _
   | exact LeO.none _
   | refine LeO.ite ?_ ?_
   | refine LeO.bind ?_ (fun _ => ?_)
theorem token_number.calls (k : Nat) (a0 : ByteArray) (a1 : Int) (r1 : Int) (r2 : ByteArray) (r3 : Int) (r4 : Int) (r5 : Int) (r6 : Int) (w : World) (h : token_number.f k a0 a1 = some (r1, r2, r3, r4, r5, r6)) :
  Calls Tryd.prog 150 #[.string a0, .int .i64 a1] w fun e w' => e = .returned (.tuple #[.agg #[.int .i64 r1, .string r2, .int .i64 r3, .int .i64 r4], .int .i64 r5, .int .i64 r6]) ∧ Below w.heap.size w w' := by
 have hu142 := Tryd.underlying142; have HB := am_ (Below.refl w.heap.size w); have H : (token_number.l0 k a0 a1 0 a1) = some (r1, r2, r3, r4, r5, r6) := h; clear h; have H' := am_ H; clear H
 go_enter Tryd.func150, Tryd.ntmps150
 go_wp2_with (first | ((with_reducible refine gate_dst (N := 4) rfl ?_); refine box_event ?hg (N := 4) ?hd (cs := #[.int .i64 0, .string (⟨#[]⟩ : ByteArray), .int .i64 0, .int .i64 0]) (t := 142) ?hr ?_; (case hd => rfl); (case hg => rfl); (case hr => first | (go_simp; done) | (go_simp; rfl)); intro gb141 hg w3 hbox hb; have BK141 := am_ (hbox); have GW141 := am_ ((by rw [hg]; exact (below_size (bl_)) : w.heap.size ≤ gb141)); have GE141 := am_ ((by rw [hg]; exact (below_size (bl_)) : w.heap.size ≤ gb141)); replace HB := am_ (below_step (bl_) hb); clear hb hbox hg))
 go_loopg [7, 8] k (fun kq v7 v8 w' => ∃ (x7_1 : Int) (x8_1 : Int) (x142000_1 : Int) (x142001_1 : ByteArray) (x142002_1 : Int) (x142003_1 : Int), v7 = .int .i64 x7_1 ∧ v8 = .int .i64 x8_1 ∧ Aside0 (token_number.l0 kq a0 a1 x7_1 x8_1 = some (r1, r2, r3, r4, r5, r6)) ∧ Aside0 (kq ≤ k) ∧ Aside0 (w'.heap[gb141]? = some (.cells #[.int .i64 x142000_1, .string x142001_1, .int .i64 x142002_1, .int .i64 x142003_1] 142 (0, 0))) ∧ Aside0 (Below w.heap.size w w'))
 case atStart => exact ⟨(0), (a1), (0), ((⟨#[]⟩ : ByteArray)), (0), (0), (rs_), (rs_), H', ⟨Nat.le_refl _⟩, ⟨bk_ BK141.out⟩, ⟨bl_⟩⟩
 case round =>
  clear H'; (try clear c1); (try clear p2); obtain ⟨x7_1, x8_1, x142000_1, x142001_1, x142002_1, x142003_1, rfl, rfl, HA, HK1, BK141, HB⟩ := hrel
  cases gk with
  | zero => exact absurd HA.out (by simp [token_number.l0])
  | succ k1 =>
   have H := HA.out; clear HA; simp only [token_number.l0] at H; have HC4 := am_ H; clear H
   go_upto_region 2 with (fail)
   go_cut [20] (fun v20 wc => ∃ (kq : Nat) (x20_3 : Bool), v20 = .bool x20_3 ∧ Aside0 (token_number.j1 kq a0 a1 x7_1 x8_1 x20_3 = some (r1, r2, r3, r4, r5, r6)) ∧ Aside0 (kq ≤ k1) ∧ Aside0 (wc.heap[gb141]? = some (.cells #[.int .i64 x142000_1, .string x142001_1, .int .i64 x142002_1, .int .i64 x142003_1] 142 (0, 0))) ∧ Aside0 (Below w.heap.size w wc))
   case first =>
    have H := HC4.out; clear HC4
    by_cases c5 : x8_1 < (a0.size : Int)
    ·rw [if_pos c5] at H
     have c5b0 : decide (x8_1 < (a0.size : Int)) = true := decide_eq_true c5; clear c5; (first | rw [c5b0] | (simp only [i64_w, i32_w]; rw [c5b0]) | skip)
     by_cases c6 : 0 ≤ x8_1
     ·rw [if_pos c6] at H
      have c6b0 : decide (0 ≤ x8_1) = true := decide_eq_true c6; clear c6; replace H := Option.bind_eq_some_iff.mp H; obtain ⟨t142, A80, H⟩ := H; replace H : (token_number.j1 k1 a0 a1 x7_1 x8_1 t142) = some (r1, r2, r3, r4, r5, r6) := H; have A8 := am_ A80; clear A80; have H' := am_ H; clear H; have p7 : 0 ≤ (x8_1 : Int) := of_decide_eq_true (as_); have q7 : x8_1 < (a0.size : Int) := of_decide_eq_true (as_); have hx7 := bt_at a0 x8_1; replace p7 := eq_true p7; replace q7 := eq_true q7
      go_wp2_with (first | (go_at_call 149; (with_reducible refine (token_digit.calls (bt a0 x8_1) t142 _ A8.out).mono ?_); rintro e w' ⟨rfl, ⟨nd, rfl⟩⟩))
      go_meet
      case rel => exact ⟨_, (t142), (rs_), H', ⟨by have := HK1.out; first | omega | exact Nat.le_refl _⟩, ⟨bk_ BK141.out⟩, ⟨bl_⟩⟩
     ·rw [if_neg c6] at H
      exact absurd H (by simp)
    ·rw [if_neg c5] at H
     have c5b0 : decide (x8_1 < (a0.size : Int)) = false := decide_eq_false c5; clear c5; (first | rw [c5b0] | (simp only [i64_w, i32_w]; rw [c5b0]) | skip); have H' := am_ H; clear H
     go_wp2
     go_meet
     case rel => exact ⟨_, (false), (rs_), H', ⟨by have := HK1.out; first | omega | exact Nat.le_refl _⟩, ⟨bk_ BK141.out⟩, ⟨bl_⟩⟩
   case rest =>
    clear HC4; (try clear c1); (try clear p2); (try clear c5); (try clear c5b0); (try clear c6); (try clear c6b0); (try clear p7); (try clear q7); (try clear hx7); (try clear p2); (try clear p7); (try clear q7); obtain ⟨kq, x20_3, rfl, HA, HJ3, BK141, HB⟩ := hcut
    cases kq with
    | zero => exact absurd HA.out (by simp [token_number.j1])
    | succ kj3 =>
     have H := HA.out; clear HA; simp only [token_number.j1] at H
     by_cases c9 : x20_3 = true
     ·subst c9
      have H1 : (if 0 ≤ x8_1 then (if x8_1 < (a0.size : Int) then (if x7_1 > ((9223372036854775807 - (((bt a0 x8_1) - 48) % 256)) / 10) then (some (0, (⟨#[]⟩ : ByteArray), 0, 0, a1, 1)) else (token_number.l0 kj3 a0 a1 (wrap64 ((wrap64 (10 * x7_1)) + (((bt a0 x8_1) - 48) % 256))) (wrap64 (x8_1 + 1)))) else (none)) else (none)) = some (r1, r2, r3, r4, r5, r6) := by rw [if_pos rfl] at H; exact H
      clear H; have H := H1; clear H1
      by_cases c10 : 0 ≤ x8_1
      ·rw [if_pos c10] at H
       have c10b0 : decide (0 ≤ x8_1) = true := decide_eq_true c10; clear c10
       by_cases c11 : x8_1 < (a0.size : Int)
       ·rw [if_pos c11] at H
        have c11b0 : decide (x8_1 < (a0.size : Int)) = true := decide_eq_true c11; clear c11
        by_cases c13 : x7_1 > ((9223372036854775807 - (((bt a0 x8_1) - 48) % 256)) / 10)
        ·rw [if_pos c13] at H
         have c13b0 : decide (((9223372036854775807 - (((bt a0 x8_1) - 48) % 256)) / 10) < x7_1) = true := decide_eq_true c13; clear c13; simp only [Option.some.injEq, Prod.mk.injEq] at H; obtain ⟨rfl, rfl, rfl, rfl, rfl, rfl⟩ := H; have p12 : 0 ≤ (x8_1 : Int) := of_decide_eq_true (as_); have q12 : x8_1 < (a0.size : Int) := of_decide_eq_true (as_); have hx12 := bt_at a0 x8_1; replace p12 := eq_true p12; replace q12 := eq_true q12; obtain ⟨hcz14_0, hcz14_1, hcz14_2, hcz14_3, hfz14_0, hfz14_1, hfz14_2, hfz14_3⟩ := bw4_ BK141.out
         go_wp2
         refine bodyPost_ret (results_ctt rfl _ _ gb141 142 #[.int .i64 0, .string (⟨#[]⟩ : ByteArray), .int .i64 0, .int .i64 0] (0, 0) _ rfl (by refine bp_ ?_; refine blk_put (cs := #[.int .i64 0, .string (⟨#[]⟩ : ByteArray), .int .i64 0, .int .i64 x142003_1]) ?_ 3 _ rfl; refine bp_ ?_; refine blk_put (cs := #[.int .i64 0, .string (⟨#[]⟩ : ByteArray), .int .i64 x142002_1, .int .i64 x142003_1]) ?_ 2 _ rfl; refine bp_ ?_; refine blk_put (cs := #[.int .i64 0, .string x142001_1, .int .i64 x142002_1, .int .i64 x142003_1]) ?_ 1 _ rfl; refine bp_ ?_; refine blk_put (cs := #[.int .i64 x142000_1, .string x142001_1, .int .i64 x142002_1, .int .i64 x142003_1]) ?_ 0 _ rfl; refine bp_ ?_; exact BK141.out) Tryd.underlying142 rfl (by kernel_rfl)) rfl ?_; exact ⟨ew_, bl_⟩
        ·rw [if_neg c13] at H
         have c13b0 : decide (((9223372036854775807 - (((bt a0 x8_1) - 48) % 256)) / 10) < x7_1) = false := decide_eq_false c13; clear c13; have H' := am_ H; clear H; have p12 : 0 ≤ (x8_1 : Int) := of_decide_eq_true (as_); have q12 : x8_1 < (a0.size : Int) := of_decide_eq_true (as_); have hx12 := bt_at a0 x8_1; replace p12 := eq_true p12; replace q12 := eq_true q12
         go_wp2
         go_roundg kj3
         case measure => have := HK1.out; have := HJ3.out; omega
         case rel => exact ⟨(wrap64 ((wrap64 (10 * x7_1)) + (((bt a0 x8_1) - 48) % 256))), (wrap64 (x8_1 + 1)), (x142000_1), (x142001_1), (x142002_1), (x142003_1), (rs_), (rs_), H', ⟨by have := HK1.out; have := HJ3.out; omega⟩, ⟨bk_ BK141.out⟩, ⟨bl_⟩⟩
       ·rw [if_neg c11] at H
        exact absurd H (by simp)
      ·rw [if_neg c10] at H
       exact absurd H (by simp)
     ·replace c9 := Bool.eq_false_iff.mpr c9
      subst c9
      have H1 : (if x8_1 < (a0.size : Int) then (if 0 ≤ x8_1 then ((token_letter.f (bt a0 x8_1)).bind fun t143 => (if t143 = true then (some (0, (⟨#[]⟩ : ByteArray), 0, 0, a1, 1)) else (if 0 ≤ a1 then (if a1 ≤ x8_1 then (if x8_1 ≤ (a0.size : Int) then (some (3, a0.extract (a1 : Int).toNat (x8_1 : Int).toNat, x7_1, a1, x8_1, 0)) else (none)) else (none)) else (none)))) else (none)) else (if 0 ≤ a1 then (if a1 ≤ x8_1 then (if x8_1 ≤ (a0.size : Int) then (some (3, a0.extract (a1 : Int).toNat (x8_1 : Int).toNat, x7_1, a1, x8_1, 0)) else (none)) else (none)) else (none))) = some (r1, r2, r3, r4, r5, r6) := by rw [if_neg (show ¬ (false = true) by decide)] at H; exact H
      clear H; have H := H1; clear H1
      by_cases c15 : x8_1 < (a0.size : Int)
      ·rw [if_pos c15] at H
       have c15b0 : decide (x8_1 < (a0.size : Int)) = true := decide_eq_true c15; clear c15
       by_cases c16 : 0 ≤ x8_1
       ·rw [if_pos c16] at H
        have c16b0 : decide (0 ≤ x8_1) = true := decide_eq_true c16; clear c16; replace H := Option.bind_eq_some_iff.mp H; obtain ⟨t143, A180, H⟩ := H; replace H : (if t143 = true then (some (0, (⟨#[]⟩ : ByteArray), 0, 0, a1, 1)) else (if 0 ≤ a1 then (if a1 ≤ x8_1 then (if x8_1 ≤ (a0.size : Int) then (some (3, a0.extract (a1 : Int).toNat (x8_1 : Int).toNat, x7_1, a1, x8_1, 0)) else (none)) else (none)) else (none))) = some (r1, r2, r3, r4, r5, r6) := H; have A18 := am_ A180; clear A180
        by_cases c19 : t143 = true
        ·subst c19
         have H1 : (some (0, (⟨#[]⟩ : ByteArray), 0, 0, a1, 1)) = some (r1, r2, r3, r4, r5, r6) := by rw [if_pos rfl] at H; exact H
         clear H; have H := H1; clear H1; simp only [Option.some.injEq, Prod.mk.injEq] at H; obtain ⟨rfl, rfl, rfl, rfl, rfl, rfl⟩ := H; have p17 : 0 ≤ (x8_1 : Int) := of_decide_eq_true (as_); have q17 : x8_1 < (a0.size : Int) := of_decide_eq_true (as_); have hx17 := bt_at a0 x8_1; replace p17 := eq_true p17; replace q17 := eq_true q17
         go_wp2_with (first | (go_at_call 147; (with_reducible refine (token_letter.calls (bt a0 x8_1) true _ A18.out).mono ?_); rintro e w' ⟨rfl, ⟨nd, rfl⟩⟩; (try (rw [drewN_self wc]; generalize hq_ : World.drewN wc _ = wc; have n0_ : Aside0 (wc.heap[gb141]? = some (.cells #[.int .i64 x142000_1, .string x142001_1, .int .i64 x142002_1, .int .i64 x142003_1] 142 (0, 0))) := ⟨by rw [← hq_]; exact (bk_ BK141.out)⟩; have n1_ : Aside0 (Below w.heap.size w wc) := ⟨by rw [← hq_]; exact (bl_)⟩; clear BK141 HB hq_; have BK141 := n0_; have HB := n1_; clear n0_ n1_)); obtain ⟨hcz20_0, hcz20_1, hcz20_2, hcz20_3, hfz20_0, hfz20_1, hfz20_2, hfz20_3⟩ := bw4_ BK141.out))
         refine bodyPost_ret (results_ctt rfl _ _ gb141 142 #[.int .i64 0, .string (⟨#[]⟩ : ByteArray), .int .i64 0, .int .i64 0] (0, 0) _ rfl (by refine bp_ ?_; refine blk_put (cs := #[.int .i64 0, .string (⟨#[]⟩ : ByteArray), .int .i64 0, .int .i64 x142003_1]) ?_ 3 _ rfl; refine bp_ ?_; refine blk_put (cs := #[.int .i64 0, .string (⟨#[]⟩ : ByteArray), .int .i64 x142002_1, .int .i64 x142003_1]) ?_ 2 _ rfl; refine bp_ ?_; refine blk_put (cs := #[.int .i64 0, .string x142001_1, .int .i64 x142002_1, .int .i64 x142003_1]) ?_ 1 _ rfl; refine bp_ ?_; refine blk_put (cs := #[.int .i64 x142000_1, .string x142001_1, .int .i64 x142002_1, .int .i64 x142003_1]) ?_ 0 _ rfl; refine bp_ ?_; exact BK141.out) Tryd.underlying142 rfl (by kernel_rfl)) rfl ?_; exact ⟨ew_, bl_⟩
        ·replace c19 := Bool.eq_false_iff.mpr c19
         subst c19
         have H1 : (if 0 ≤ a1 then (if a1 ≤ x8_1 then (if x8_1 ≤ (a0.size : Int) then (some (3, a0.extract (a1 : Int).toNat (x8_1 : Int).toNat, x7_1, a1, x8_1, 0)) else (none)) else (none)) else (none)) = some (r1, r2, r3, r4, r5, r6) := by rw [if_neg (show ¬ (false = true) by decide)] at H; exact H
         clear H; have H := H1; clear H1
         by_cases c21 : 0 ≤ a1
         ·rw [if_pos c21] at H
          have c21b0 := eq_true c21; have c21b1 : decide (0 ≤ a1) = true := decide_eq_true c21; clear c21
          by_cases c22 : a1 ≤ x8_1
          ·rw [if_pos c22] at H
           have c22b0 := eq_true c22; have c22b1 : decide (a1 ≤ x8_1) = true := decide_eq_true c22; clear c22
           by_cases c23 : x8_1 ≤ (a0.size : Int)
           ·rw [if_pos c23] at H
            have c23b0 := eq_true c23; have c23b1 : decide (x8_1 ≤ (a0.size : Int)) = true := decide_eq_true c23; clear c23; simp only [Option.some.injEq, Prod.mk.injEq] at H; obtain ⟨rfl, rfl, rfl, rfl, rfl, rfl⟩ := H; have p17 : 0 ≤ (x8_1 : Int) := of_decide_eq_true (as_); have q17 : x8_1 < (a0.size : Int) := of_decide_eq_true (as_); have hx17 := bt_at a0 x8_1; replace p17 := eq_true p17; replace q17 := eq_true q17
            go_wp2_with (first | (go_at_call 147; (with_reducible refine (token_letter.calls (bt a0 x8_1) false _ A18.out).mono ?_); rintro e w' ⟨rfl, ⟨nd, rfl⟩⟩; (try (rw [drewN_self wc]; generalize hq_ : World.drewN wc _ = wc; have n0_ : Aside0 (wc.heap[gb141]? = some (.cells #[.int .i64 x142000_1, .string x142001_1, .int .i64 x142002_1, .int .i64 x142003_1] 142 (0, 0))) := ⟨by rw [← hq_]; exact (bk_ BK141.out)⟩; have n1_ : Aside0 (Below w.heap.size w wc) := ⟨by rw [← hq_]; exact (bl_)⟩; clear BK141 HB hq_; have BK141 := n0_; have HB := n1_; clear n0_ n1_)); obtain ⟨hcz24_0, hcz24_1, hcz24_2, hcz24_3, hfz24_0, hfz24_1, hfz24_2, hfz24_3⟩ := bw4_ BK141.out))
            refine bodyPost_ret (results_ctt rfl _ _ gb141 142 #[.int .i64 3, .string (a0.extract (a1 : Int).toNat (x8_1 : Int).toNat), .int .i64 x7_1, .int .i64 a1] (0, 0) _ rfl (by refine bp_ ?_; refine blk_put (cs := #[.int .i64 3, .string (a0.extract (a1 : Int).toNat (x8_1 : Int).toNat), .int .i64 x7_1, .int .i64 x142003_1]) ?_ 3 _ rfl; refine bp_ ?_; refine blk_put (cs := #[.int .i64 3, .string (a0.extract (a1 : Int).toNat (x8_1 : Int).toNat), .int .i64 x142002_1, .int .i64 x142003_1]) ?_ 2 _ rfl; refine bp_ ?_; refine blk_put (cs := #[.int .i64 3, .string x142001_1, .int .i64 x142002_1, .int .i64 x142003_1]) ?_ 1 _ rfl; refine bp_ ?_; refine blk_put (cs := #[.int .i64 x142000_1, .string x142001_1, .int .i64 x142002_1, .int .i64 x142003_1]) ?_ 0 _ rfl; refine bp_ ?_; exact BK141.out) Tryd.underlying142 rfl (by kernel_rfl)) rfl ?_; exact ⟨ew_, bl_⟩
           ·rw [if_neg c23] at H
            exact absurd H (by simp)
          ·rw [if_neg c22] at H
           exact absurd H (by simp)
         ·rw [if_neg c21] at H
          exact absurd H (by simp)
       ·rw [if_neg c16] at H
        exact absurd H (by simp)
      ·rw [if_neg c15] at H
       have c15b0 : decide (x8_1 < (a0.size : Int)) = false := decide_eq_false c15; clear c15
       by_cases c25 : 0 ≤ a1
       ·rw [if_pos c25] at H
        have c25b0 := eq_true c25; have c25b1 : decide (0 ≤ a1) = true := decide_eq_true c25; clear c25
        by_cases c26 : a1 ≤ x8_1
        ·rw [if_pos c26] at H
         have c26b0 := eq_true c26; have c26b1 : decide (a1 ≤ x8_1) = true := decide_eq_true c26; clear c26
         by_cases c27 : x8_1 ≤ (a0.size : Int)
         ·rw [if_pos c27] at H
          have c27b0 := eq_true c27; have c27b1 : decide (x8_1 ≤ (a0.size : Int)) = true := decide_eq_true c27; clear c27; simp only [Option.some.injEq, Prod.mk.injEq] at H; obtain ⟨rfl, rfl, rfl, rfl, rfl, rfl⟩ := H; obtain ⟨hcz28_0, hcz28_1, hcz28_2, hcz28_3, hfz28_0, hfz28_1, hfz28_2, hfz28_3⟩ := bw4_ BK141.out
          go_wp2
          refine bodyPost_ret (results_ctt rfl _ _ gb141 142 #[.int .i64 3, .string (a0.extract (a1 : Int).toNat (x8_1 : Int).toNat), .int .i64 x7_1, .int .i64 a1] (0, 0) _ rfl (by refine bp_ ?_; refine blk_put (cs := #[.int .i64 3, .string (a0.extract (a1 : Int).toNat (x8_1 : Int).toNat), .int .i64 x7_1, .int .i64 x142003_1]) ?_ 3 _ rfl; refine bp_ ?_; refine blk_put (cs := #[.int .i64 3, .string (a0.extract (a1 : Int).toNat (x8_1 : Int).toNat), .int .i64 x142002_1, .int .i64 x142003_1]) ?_ 2 _ rfl; refine bp_ ?_; refine blk_put (cs := #[.int .i64 3, .string x142001_1, .int .i64 x142002_1, .int .i64 x142003_1]) ?_ 1 _ rfl; refine bp_ ?_; refine blk_put (cs := #[.int .i64 x142000_1, .string x142001_1, .int .i64 x142002_1, .int .i64 x142003_1]) ?_ 0 _ rfl; refine bp_ ?_; exact BK141.out) Tryd.underlying142 rfl (by kernel_rfl)) rfl ?_; exact ⟨ew_, bl_⟩
         ·rw [if_neg c27] at H
          exact absurd H (by simp)
        ·rw [if_neg c26] at H
         exact absurd H (by simp)
       ·rw [if_neg c25] at H
        exact absurd H (by simp)
mutual
def token_text.l0 : Nat → ByteArray → Int → List Int → Int → Option (Int × ByteArray × Int × Int × Int × Int)
 | 0, _, _, _, _ => none
 | k + 1, x0, x1, x7, x8 => if x8 < (x0.size : Int) then (if 0 ≤ x8 then (if (bt x0 x8) = 39 then (if (wrap64 (x8 + 1)) < (x0.size : Int) then (if 0 ≤ (wrap64 (x8 + 1)) then (token_text.j1 k x0 x1 x7 x8 ((bt x0 (wrap64 (x8 + 1))) == 39)) else (none)) else (token_text.j1 k x0 x1 x7 x8 false)) else (if x7.length < 140737488355328 then (token_text.l0 k x0 x1 (x7 ++ [bt x0 x8]) (wrap64 (x8 + 1))) else (none))) else (none)) else (some (0, (⟨#[]⟩ : ByteArray), 0, 0, x1, 1))
def token_text.j1 : Nat → ByteArray → Int → List Int → Int → Bool → Option (Int × ByteArray × Int × Int × Int × Int)
 | 0, _, _, _, _, _ => none
 | k + 1, x0, x1, x7, x8, x38 => if x38 = true then (if x7.length < 140737488355328 then (token_text.l0 k x0 x1 (x7 ++ [39]) (wrap64 ((wrap64 (x8 + 1)) + 1))) else (none)) else (if (x7.length : Int) > 65536 then (some (0, (⟨#[]⟩ : ByteArray), 0, 0, x1, 4)) else (some (4, strOfNums x7, 0, x1, wrap64 (x8 + 1), 0)))
end
def token_text.f (k : Nat) (a0 : ByteArray) (a1 : Int) : Option (Int × ByteArray × Int × Int × Int × Int) := token_text.l0 k a0 a1 ([] : List Int) (wrap64 (a1 + 1))
theorem token_text.mono_l : ∀ k, (∀ y0 y1 y2 y3, LeO (token_text.l0 k y0 y1 y2 y3) (token_text.l0 (k + 1) y0 y1 y2 y3)) ∧ (∀ y0 y1 y2 y3 y4, LeO (token_text.j1 k y0 y1 y2 y3 y4) (token_text.j1 (k + 1) y0 y1 y2 y3 y4))
 | 0 => ⟨fun _ _ _ _ r h => by simp [token_text.l0] at h, fun _ _ _ _ _ r h => by simp [token_text.j1] at h⟩
 | k + 1 => by
  obtain ⟨ih0, ih1⟩ := token_text.mono_l k; refine ⟨?_, ?_⟩
  ·intro y0 y1 y2 y3
   unfold token_text.l0
   repeat' first
   | (with_reducible exact ih0 _ _ _ _)
   | (with_reducible exact ih1 _ _ _ _ _)
   | (with_reducible exact LeO.refl _)
   | (with_reducible exact LeO.none _)
   | (with_reducible refine LeO.ite ?_ ?_)
   | (with_reducible refine LeO.bind ?_ (fun _ => ?_))
   | exact ih0 _ _ _ _
   | exact ih1 _ _ _ _ _
   | exact LeO.none _
   | refine LeO.ite ?_ ?_
   | refine LeO.bind ?_ (fun _ => ?_)
  ·intro y0 y1 y2 y3 y4
   unfold token_text.j1
   repeat' first
   | (with_reducible exact ih0 _ _ _ _)
   | (with_reducible exact ih1 _ _ _ _ _)
   | (with_reducible exact LeO.refl _)
   | (with_reducible exact LeO.none _)
   | (with_reducible refine LeO.ite ?_ ?_)
   | (with_reducible refine LeO.bind ?_ (fun _ => ?_))
   | exact ih0 _ _ _ _
   | exact ih1 _ _ _ _ _
   | exact LeO.none _
   | refine LeO.ite ?_ ?_
   | refine LeO.bind ?_ (fun _ => ?_)
theorem token_text.mono : ∀ a0 a1 k, LeO (token_text.f k a0 a1) (token_text.f (k + 1) a0 a1) := by
 intro a0 a1 k; obtain ⟨ih0, ih1⟩ := token_text.mono_l k; unfold token_text.f
 repeat' first
   | (with_reducible exact ih0 _ _ _ _)
   | (with_reducible exact ih1 _ _ _ _ _)
   | (with_reducible exact LeO.refl _)
   | (with_reducible exact LeO.none _)
   | (with_reducible refine LeO.ite ?_ ?_)
   | (with_reducible refine LeO.bind ?_ (fun _ => ?_))
   | exact ih0 _ _ _ _
   | exact ih1 _ _ _ _ _
   | exact LeO.none _
   | refine LeO.ite ?_ ?_
   | refine LeO.bind ?_ (fun _ => ?_)
theorem token_text.calls (k : Nat) (a0 : ByteArray) (a1 : Int) (r1 : Int) (r2 : ByteArray) (r3 : Int) (r4 : Int) (r5 : Int) (r6 : Int) (w : World) (h : token_text.f k a0 a1 = some (r1, r2, r3, r4, r5, r6)) :
  Calls Tryd.prog 151 #[.string a0, .int .i64 a1] w fun e w' => e = .returned (.tuple #[.agg #[.int .i64 r1, .string r2, .int .i64 r3, .int .i64 r4], .int .i64 r5, .int .i64 r6]) ∧ Below w.heap.size w w' := by
 have hu142 := Tryd.underlying142; have HB := am_ (Below.refl w.heap.size w); have H : (token_text.l0 k a0 a1 ([] : List Int) (wrap64 (a1 + 1))) = some (r1, r2, r3, r4, r5, r6) := h; clear h; have H' := am_ H; clear H
 go_enter Tryd.func151, Tryd.ntmps151
 go_wp2_with (first | ((with_reducible refine gate_dst (N := 4) rfl ?_); refine box_event ?hg (N := 4) ?hd (cs := #[.int .i64 0, .string (⟨#[]⟩ : ByteArray), .int .i64 0, .int .i64 0]) (t := 142) ?hr ?_; (case hd => rfl); (case hg => rfl); (case hr => first | (go_simp; done) | (go_simp; rfl)); intro gb144 hg w3 hbox hb; have BK144 := am_ (hbox); have GW144 := am_ ((by rw [hg]; exact (below_size (bl_)) : w.heap.size ≤ gb144)); have GE144 := am_ ((by rw [hg]; exact (below_size (bl_)) : w.heap.size ≤ gb144)); replace HB := am_ (below_step (bl_) hb); clear hb hbox hg))
 go_loopg [7, 8] k (fun kq v7 v8 w' => ∃ (x7_1 : List Int) (x8_1 : Int) (x145000_1 : Int) (x145001_1 : ByteArray) (x145002_1 : Int) (x145003_1 : Int), v8 = .int .i64 x8_1 ∧ Aside0 (token_text.l0 kq a0 a1 x7_1 x8_1 = some (r1, r2, r3, r4, r5, r6)) ∧ Aside0 (kq ≤ k) ∧ Aside0 (Kd.R (Kd.int .u8) 5 w' w.heap.size (fun _ => True) v7 x7_1) ∧ Aside0 (w'.heap[gb144]? = some (.cells #[.int .i64 x145000_1, .string x145001_1, .int .i64 x145002_1, .int .i64 x145003_1] 142 (0, 0))) ∧ Aside0 (Below w.heap.size w w'))
 case atStart => exact ⟨(([] : List Int)), (wrap64 (a1 + 1)), (0), ((⟨#[]⟩ : ByteArray)), (0), (0), (rs_), H', ⟨Nat.le_refl _⟩, ⟨by first | exact Kd.R_nil _ _ _ _ _ | exact Kd.N_nil _ _ _ _ _ | exact Kd.V_nil _ _ _ _ _ | exact Kd.Q_nil _ _ _ _ _ | exact Kd.S_nil _ _ _ _ _⟩, ⟨bk_ BK144.out⟩, ⟨bl_⟩⟩
 case round =>
  clear H'; (try clear c1); (try clear p2); obtain ⟨x7_1, x8_1, x145000_1, x145001_1, x145002_1, x145003_1, rfl, HA, HK1, HO_7, BK144, HB⟩ := hrel
  cases gk with
  | zero => exact absurd HA.out (by simp [token_text.l0])
  | succ k1 =>
   have H := HA.out; clear HA; simp only [token_text.l0] at H
   by_cases c4 : x8_1 < (a0.size : Int)
   ·rw [if_pos c4] at H
    have c4b0 : decide (x8_1 < (a0.size : Int)) = true := decide_eq_true c4; clear c4
    by_cases c5 : 0 ≤ x8_1
    ·rw [if_pos c5] at H
     have c5b0 : decide (0 ≤ x8_1) = true := decide_eq_true c5; clear c5
     by_cases c7 : (bt a0 x8_1) = 39
     ·rw [if_pos c7] at H
      have c7b0 : ((bt a0 x8_1) == 39) = true := beq_iff_eq.mpr c7; have c7b1 : ((bt a0 x8_1) != 39) = false := bne_eq_false_iff_eq.mpr c7; clear c7; have HC8 := am_ H; clear H; have p6 : 0 ≤ (x8_1 : Int) := of_decide_eq_true (as_); have q6 : x8_1 < (a0.size : Int) := of_decide_eq_true (as_); have hx6 := bt_at a0 x8_1; replace p6 := eq_true p6; replace q6 := eq_true q6
      go_upto_region 7 with (fail)
      go_cut [38] (fun v38 wc => ∃ (kq : Nat) (x38_7 : Bool), v38 = .bool x38_7 ∧ Aside0 (token_text.j1 kq a0 a1 x7_1 x8_1 x38_7 = some (r1, r2, r3, r4, r5, r6)) ∧ Aside0 (kq ≤ k1) ∧ Aside0 (Kd.R (Kd.int .u8) 5 wc w.heap.size (fun _ => True) u7 x7_1) ∧ Aside0 (wc.heap[gb144]? = some (.cells #[.int .i64 x145000_1, .string x145001_1, .int .i64 x145002_1, .int .i64 x145003_1] 142 (0, 0))) ∧ Aside0 (Below w.heap.size w wc))
      case first =>
       have H := HC8.out; clear HC8
       by_cases c9 : (wrap64 (x8_1 + 1)) < (a0.size : Int)
       ·rw [if_pos c9] at H
        have c9b0 : decide ((wrap64 (x8_1 + 1)) < (a0.size : Int)) = true := decide_eq_true c9; clear c9; (first | rw [c9b0] | (simp only [i64_w, i32_w]; rw [c9b0]) | skip)
        obtain ⟨ji10, hji10⟩ : ∃ j_ : Int, (wrap64 (x8_1 + 1)) = j_ := ⟨_, rfl⟩
        replace H : (if 0 ≤ (ji10) then (token_text.j1 k1 a0 a1 x7_1 x8_1 ((bt a0 (ji10)) == 39)) else (none)) = some (r1, r2, r3, r4, r5, r6) := by first | (rw [hji10] at H; exact H) | (simp only [hji10] at H ⊢; exact H)
        (try rw [hji10] at c9b0); have hji10w : (IntKind.i64.wrap (x8_1 + 1)) = ji10 := (i64_w _).trans hji10
        by_cases c11 : 0 ≤ (ji10)
        ·rw [if_pos c11] at H
         have c11b0 : decide (0 ≤ (ji10)) = true := decide_eq_true c11; clear c11; have H' := am_ H; clear H; have p12 : 0 ≤ ((ji10) : Int) := of_decide_eq_true (as_); have q12 : (ji10) < (a0.size : Int) := of_decide_eq_true (as_); have hx12 := bt_at a0 (ji10); replace p12 := eq_true p12; replace q12 := eq_true q12
         go_wp2
         go_meet
         case rel => exact ⟨_, (((bt a0 (ji10)) == 39)), (by first | rfl | (simp; done) | (simp only [← hji10] <;> (first | rfl | simp)) | (simp [*]; done)), H', ⟨by have := HK1.out; first | omega | exact Nat.le_refl _⟩, ⟨kr_ HO_7.out⟩, ⟨bk_ BK144.out⟩, ⟨bl_⟩⟩
        ·rw [if_neg c11] at H
         exact absurd H (by simp)
       ·rw [if_neg c9] at H
        have c9b0 : decide ((wrap64 (x8_1 + 1)) < (a0.size : Int)) = false := decide_eq_false c9; clear c9; (first | rw [c9b0] | (simp only [i64_w, i32_w]; rw [c9b0]) | skip); have H' := am_ H; clear H
        go_wp2
        go_meet
        case rel => exact ⟨_, (false), (rs_), H', ⟨by have := HK1.out; first | omega | exact Nat.le_refl _⟩, ⟨kr_ HO_7.out⟩, ⟨bk_ BK144.out⟩, ⟨bl_⟩⟩
      case rest =>
       clear HC8; (try clear c1); (try clear p1); (try clear q1); (try clear hx1); (try clear p2); (try clear c4); (try clear c4b0); (try clear c5); (try clear c5b0); (try clear p6); (try clear q6); (try clear hx6); (try clear c7); (try clear c7b0); (try clear c7b1); (try clear c9); (try clear c9b0); (try clear c11); (try clear c11b0); (try clear p12); (try clear q12); (try clear hx12); (try clear p12); (try clear p2); (try clear p6); (try clear q12); (try clear q6); obtain ⟨kq, x38_7, rfl, HA, HJ7, HO_7, BK144, HB⟩ := hcut
       cases kq with
       | zero => exact absurd HA.out (by simp [token_text.j1])
       | succ kj7 =>
        have H := HA.out; clear HA; simp only [token_text.j1] at H
        by_cases c13 : x38_7 = true
        ·subst c13
         have H1 : (if x7_1.length < 140737488355328 then (token_text.l0 kj7 a0 a1 (x7_1 ++ [39]) (wrap64 ((wrap64 (x8_1 + 1)) + 1))) else (none)) = some (r1, r2, r3, r4, r5, r6) := by rw [if_pos rfl] at H; exact H
         clear H; have H := H1; clear H1
         by_cases c14 : x7_1.length < 140737488355328
         ·rw [if_pos c14] at H
          have LMc14 := am_ c14; clear c14
          obtain ⟨y148, hy148⟩ : ∃ y_ : List Int, y_ = (x7_1 ++ [39]) := ⟨_, rfl⟩
          replace H : (token_text.l0 kj7 a0 a1 y148 (wrap64 ((wrap64 (x8_1 + 1)) + 1))) = some (r1, r2, r3, r4, r5, r6) := by first | (rw [hy148]; with_reducible exact H) | (have H2_ := (Option.bind_some _ _).symm.trans H; rw [hy148]; with_reducible exact H2_) | (have H2_ := (Option.bind_some _ _).symm.trans H; with_reducible exact H2_) | with_reducible exact H | (rw [hy148]; exact H) | exact H
          have Ny148 := am_ hy148; clear hy148; have H' := am_ H; clear H
          go_wp2_with (first | ((with_reducible refine gate_builtin (b := .append) (xs := #[.tmp 39, .tmp 40]) rfl ?_); at_builtin; refine Kd.R_append (Kd.int .u8) (w0 := w) w.heap.size rfl (.tmp 39) (.tmp 40) 120 5 (.int .u8 0) 1 rfl Tryd.underlying120 info5 rfl (by decide) (by omega) u7 x7_1 39 [.int .u8 39] (fun _ => True) (fun _ => False) rfl rfl ?aP (fun _ hk => hk.elim) ?aF ?aO ?aB ?aS ?aL ?_; (case aP => exact rfl); (case aB => exact (bl_)); (case aF => exact (fun _ _ => trivial)); (case aO => exact (kr_ HO_7.out)); (case aS => exact (below_size (bl_))); (case aL => have := LMc14.out; omega); intro v149 w15 ho hb hg hat; rw [← Ny148.out] at ho; replace BK144 := am_ (blk_grown (g := gb144) (o := .cells #[.int .i64 x145000_1, .string x145001_1, .int .i64 x145002_1, .int .i64 x145003_1] 142 (0, 0)) (bk_ BK144.out) hg (Kd.R_ne HO_7.out BK144.out (by decide))); have HO150 := am_ (ho); replace HB := am_ (hb); clear HO_7; clear ho hb hg hat))
          go_roundg kj7
          case measure => have := HK1.out; have := HJ7.out; omega
          case rel => exact ⟨(y148), (wrap64 ((wrap64 (x8_1 + 1)) + 1)), (x145000_1), (x145001_1), (x145002_1), (x145003_1), (rs_), H', ⟨by have := HK1.out; have := HJ7.out; omega⟩, ⟨kr_ HO150.out⟩, ⟨bk_ BK144.out⟩, ⟨bl_⟩⟩
         ·rw [if_neg c14] at H
          exact absurd H (by simp)
        ·replace c13 := Bool.eq_false_iff.mpr c13
         subst c13
         have H1 : (if (x7_1.length : Int) > 65536 then (some (0, (⟨#[]⟩ : ByteArray), 0, 0, a1, 4)) else (some (4, strOfNums x7_1, 0, a1, wrap64 (x8_1 + 1), 0))) = some (r1, r2, r3, r4, r5, r6) := by rw [if_neg (show ¬ (false = true) by decide)] at H; exact H
         clear H; have H := H1; clear H1
         by_cases c16 : (x7_1.length : Int) > 65536
         ·rw [if_pos c16] at H
          have c16b0 : decide (65536 < (x7_1.length : Int)) = true := decide_eq_true c16; have c16b1 : decide (65536 < x7_1.length) = true := decide_eq_true (by omega); clear c16; simp only [Option.some.injEq, Prod.mk.injEq] at H; obtain ⟨rfl, rfl, rfl, rfl, rfl, rfl⟩ := H; obtain ⟨Ao17, co17, eo17⟩ := Kd.R_slice HO_7.out; subst eo17; obtain ⟨hcz18_0, hcz18_1, hcz18_2, hcz18_3, hfz18_0, hfz18_1, hfz18_2, hfz18_3⟩ := bw4_ BK144.out
          go_wp2
          refine bodyPost_ret (results_ctt rfl _ _ gb144 142 #[.int .i64 0, .string (⟨#[]⟩ : ByteArray), .int .i64 0, .int .i64 0] (0, 0) _ rfl (by refine bp_ ?_; refine blk_put (cs := #[.int .i64 0, .string (⟨#[]⟩ : ByteArray), .int .i64 0, .int .i64 x145003_1]) ?_ 3 _ rfl; refine bp_ ?_; refine blk_put (cs := #[.int .i64 0, .string (⟨#[]⟩ : ByteArray), .int .i64 x145002_1, .int .i64 x145003_1]) ?_ 2 _ rfl; refine bp_ ?_; refine blk_put (cs := #[.int .i64 0, .string x145001_1, .int .i64 x145002_1, .int .i64 x145003_1]) ?_ 1 _ rfl; refine bp_ ?_; refine blk_put (cs := #[.int .i64 x145000_1, .string x145001_1, .int .i64 x145002_1, .int .i64 x145003_1]) ?_ 0 _ rfl; refine bp_ ?_; exact BK144.out) Tryd.underlying142 rfl (by kernel_rfl)) rfl ?_; exact ⟨ew_, bl_⟩
         ·rw [if_neg c16] at H
          have c16b0 : decide (65536 < (x7_1.length : Int)) = false := decide_eq_false c16; have c16b1 : decide (65536 < x7_1.length) = false := decide_eq_false (by omega); clear c16; simp only [Option.some.injEq, Prod.mk.injEq] at H; obtain ⟨rfl, rfl, rfl, rfl, rfl, rfl⟩ := H; obtain ⟨Ao19, co19, eo19⟩ := Kd.R_slice HO_7.out; subst eo19; have hcv20 := own_string (P := Tryd.prog) Tryd.underlying120 Tryd.underlying5 Tryd.underlying9 (Kd.own_of_R HO_7.out); obtain ⟨hcz21_0, hcz21_1, hcz21_2, hcz21_3, hfz21_0, hfz21_1, hfz21_2, hfz21_3⟩ := bw4_ BK144.out
          go_wp2
          refine bodyPost_ret (results_ctt rfl _ _ gb144 142 #[.int .i64 4, .string (strOfNums x7_1), .int .i64 0, .int .i64 a1] (0, 0) _ rfl (by refine bp_ ?_; refine blk_put (cs := #[.int .i64 4, .string (strOfNums x7_1), .int .i64 0, .int .i64 x145003_1]) ?_ 3 _ rfl; refine bp_ ?_; refine blk_put (cs := #[.int .i64 4, .string (strOfNums x7_1), .int .i64 x145002_1, .int .i64 x145003_1]) ?_ 2 _ rfl; refine bp_ ?_; refine blk_put (cs := #[.int .i64 4, .string x145001_1, .int .i64 x145002_1, .int .i64 x145003_1]) ?_ 1 _ rfl; refine bp_ ?_; refine blk_put (cs := #[.int .i64 x145000_1, .string x145001_1, .int .i64 x145002_1, .int .i64 x145003_1]) ?_ 0 _ rfl; refine bp_ ?_; exact BK144.out) Tryd.underlying142 rfl (by kernel_rfl)) rfl ?_; exact ⟨ew_, bl_⟩
     ·rw [if_neg c7] at H
      have c7b0 : ((bt a0 x8_1) == 39) = false := beq_eq_false_iff_ne.mpr c7; have c7b1 : ((bt a0 x8_1) != 39) = true := bne_iff_ne.mpr c7
      by_cases c23 : x7_1.length < 140737488355328
      ·rw [if_pos c23] at H
       have LMc23 := am_ c23; clear c23
       obtain ⟨y145, hy145⟩ : ∃ y_ : List Int, y_ = (x7_1 ++ [bt a0 x8_1]) := ⟨_, rfl⟩
       replace H : (token_text.l0 k1 a0 a1 y145 (wrap64 (x8_1 + 1))) = some (r1, r2, r3, r4, r5, r6) := by first | (rw [hy145]; with_reducible exact H) | (have H2_ := (Option.bind_some _ _).symm.trans H; rw [hy145]; with_reducible exact H2_) | (have H2_ := (Option.bind_some _ _).symm.trans H; with_reducible exact H2_) | with_reducible exact H | (rw [hy145]; exact H) | exact H
       have Ny145 := am_ hy145; clear hy145; have H' := am_ H; clear H; have p6 : 0 ≤ (x8_1 : Int) := of_decide_eq_true (as_); have q6 : x8_1 < (a0.size : Int) := of_decide_eq_true (as_); have hx6 := bt_at a0 x8_1; replace p6 := eq_true p6; replace q6 := eq_true q6; have p22 : 0 ≤ (x8_1 : Int) := of_decide_eq_true (as_); have q22 : x8_1 < (a0.size : Int) := of_decide_eq_true (as_); have hx22 := bt_at a0 x8_1; replace p22 := eq_true p22; replace q22 := eq_true q22
       go_wp2_with (first | ((with_reducible refine gate_builtin (b := .append) (xs := #[.tmp 21, .tmp 25]) rfl ?_); at_builtin; refine Kd.R_append (Kd.int .u8) (w0 := w) w.heap.size rfl (.tmp 21) (.tmp 25) 120 5 (.int .u8 0) 1 rfl Tryd.underlying120 info5 rfl (by decide) (by omega) u7 x7_1 (bt a0 x8_1) [.int .u8 (bt a0 x8_1)] (fun _ => True) (fun _ => False) rfl rfl ?aP (fun _ hk => hk.elim) ?aF ?aO ?aB ?aS ?aL ?_; (case aP => exact rfl); (case aB => exact (bl_)); (case aF => exact (fun _ _ => trivial)); (case aO => exact (kr_ HO_7.out)); (case aS => exact (below_size (bl_))); (case aL => have := LMc23.out; omega); intro v146 w24 ho hb hg hat; rw [← Ny145.out] at ho; replace BK144 := am_ (blk_grown (g := gb144) (o := .cells #[.int .i64 x145000_1, .string x145001_1, .int .i64 x145002_1, .int .i64 x145003_1] 142 (0, 0)) (bk_ BK144.out) hg (Kd.R_ne HO_7.out BK144.out (by decide))); have HO147 := am_ (ho); replace HB := am_ (hb); clear HO_7; clear ho hb hg hat))
       go_roundg k1
       case measure => have := HK1.out; omega
       case rel => exact ⟨(y145), (wrap64 (x8_1 + 1)), (x145000_1), (x145001_1), (x145002_1), (x145003_1), (rs_), H', ⟨by have := HK1.out; omega⟩, ⟨kr_ HO147.out⟩, ⟨bk_ BK144.out⟩, ⟨bl_⟩⟩
      ·rw [if_neg c23] at H
       exact absurd H (by simp)
    ·rw [if_neg c5] at H
     exact absurd H (by simp)
   ·rw [if_neg c4] at H
    have c4b0 : decide (x8_1 < (a0.size : Int)) = false := decide_eq_false c4; clear c4; simp only [Option.some.injEq, Prod.mk.injEq] at H; obtain ⟨rfl, rfl, rfl, rfl, rfl, rfl⟩ := H; obtain ⟨hcz25_0, hcz25_1, hcz25_2, hcz25_3, hfz25_0, hfz25_1, hfz25_2, hfz25_3⟩ := bw4_ BK144.out
    go_wp2
    refine bodyPost_ret (results_ctt rfl _ _ gb144 142 #[.int .i64 0, .string (⟨#[]⟩ : ByteArray), .int .i64 0, .int .i64 0] (0, 0) _ rfl (by refine bp_ ?_; refine blk_put (cs := #[.int .i64 0, .string (⟨#[]⟩ : ByteArray), .int .i64 0, .int .i64 x145003_1]) ?_ 3 _ rfl; refine bp_ ?_; refine blk_put (cs := #[.int .i64 0, .string (⟨#[]⟩ : ByteArray), .int .i64 x145002_1, .int .i64 x145003_1]) ?_ 2 _ rfl; refine bp_ ?_; refine blk_put (cs := #[.int .i64 0, .string x145001_1, .int .i64 x145002_1, .int .i64 x145003_1]) ?_ 1 _ rfl; refine bp_ ?_; refine blk_put (cs := #[.int .i64 x145000_1, .string x145001_1, .int .i64 x145002_1, .int .i64 x145003_1]) ?_ 0 _ rfl; refine bp_ ?_; exact BK144.out) Tryd.underlying142 rfl (by kernel_rfl)) rfl ?_; exact ⟨ew_, bl_⟩
end Go.Proofs.YthlepdjjdbpmoaaDoor.PPrintExprs
namespace Go.Proofs.YthlepdjjdbpmoaaDoor.PPrintExprs
open Go.RowKit Go.Proofs.YthlepdjjdbpmoaaDoorW.PrintWords Go.Proofs.YthlepdjjdbpmoaaDoorW.PrintLast Go.Proofs.YthlepdjjdbpmoaaDoorW.PrintMore
attribute [local go_sem] max2_int min2_int max_two min_two max_three min_three max_four min_four
set_option linter.unusedVariables false
set_option maxHeartbeats 8000000
set_option linter.unusedSimpArgs false
set_option maxRecDepth 100000
mutual
def token_One.j1 : Nat → ByteArray → Int → Int → Option (Int × ByteArray × Int × Int × Int × Int)
 | 0, _, _, _ => none
 | k + 1, x0, x7, x8 => (token_Sign.f k x0 x8).bind fun t153 => (if x8 = (x0.size : Int) then (some (0, (⟨#[]⟩ : ByteArray), 0, x8, x8, 0)) else (if 0 ≤ x8 then (if x8 < (x0.size : Int) then ((token_letter.f (bt x0 x8)).bind fun t154 => (if t154 = true then ((token_name.f k x0 x8).bind fun bt155 => (if bt155.2.2.2.2.2 = 0 then (some (bt155.1, bt155.2.1, bt155.2.2.1, bt155.2.2.2.1, bt155.2.2.2.2.1, 0)) else (some (0, (⟨#[]⟩ : ByteArray), 0, 0, x7, bt155.2.2.2.2.2)))) else ((token_digit.f (bt x0 x8)).bind fun t161 => (if t161 = true then ((token_number.f k x0 x8).bind fun bt162 => (if bt162.2.2.2.2.2 = 0 then (some (bt162.1, bt162.2.1, bt162.2.2.1, bt162.2.2.2.1, bt162.2.2.2.2.1, 0)) else (some (0, (⟨#[]⟩ : ByteArray), 0, 0, x7, bt162.2.2.2.2.2)))) else (if (bt x0 x8) = 39 then ((token_text.f k x0 x8).bind fun bt168 => (if bt168.2.2.2.2.2 = 0 then (some (bt168.1, bt168.2.1, bt168.2.2.1, bt168.2.2.2.1, bt168.2.2.2.2.1, 0)) else (some (0, (⟨#[]⟩ : ByteArray), 0, 0, x7, bt168.2.2.2.2.2)))) else (if t153.toList = ([] : List UInt8) then (some (0, (⟨#[]⟩ : ByteArray), 0, 0, x7, 1)) else (some (5, t153, 0, x8, wrap64 (x8 + (t153.size : Int)), 0)))))))) else (none)) else (none)))
def token_One.l0 : Nat → ByteArray → Int → Int → Option (Int × ByteArray × Int × Int × Int × Int)
 | 0, _, _, _ => none
 | k + 1, x0, x7, x8 => if x8 < (x0.size : Int) then (if 0 ≤ x8 then ((token_Blank.f (bt x0 x8)).bind fun t152 => (if t152 = true then (token_One.l0 k x0 x7 (wrap64 (x8 + 1))) else (token_One.j1 k x0 x7 x8))) else (none)) else (token_One.j1 k x0 x7 x8)
end
def token_One.f (k : Nat) (a0 : ByteArray) (a1 : Int) : Option (Int × ByteArray × Int × Int × Int × Int) := token_One.l0 k a0 (mn (mx a1 0) (a0.size : Int)) (mn (mx a1 0) (a0.size : Int))
theorem token_One.mono_l : ∀ k, (∀ y0 y1 y2, LeO (token_One.j1 k y0 y1 y2) (token_One.j1 (k + 1) y0 y1 y2)) ∧ (∀ y0 y1 y2, LeO (token_One.l0 k y0 y1 y2) (token_One.l0 (k + 1) y0 y1 y2))
 | 0 => ⟨fun _ _ _ r h => by simp [token_One.j1] at h, fun _ _ _ r h => by simp [token_One.l0] at h⟩
 | k + 1 => by
  obtain ⟨ih0, ih1⟩ := token_One.mono_l k; refine ⟨?_, ?_⟩
  ·intro y0 y1 y2
   unfold token_One.j1
   repeat' first
   | (with_reducible exact ih0 _ _ _)
   | (with_reducible exact ih1 _ _ _)
   | (with_reducible exact token_Sign.mono _ _ _)
   | (with_reducible exact token_name.mono _ _ _)
   | (with_reducible exact token_number.mono _ _ _)
   | (with_reducible exact token_text.mono _ _ _)
   | (with_reducible exact LeO.refl _)
   | (with_reducible exact LeO.none _)
   | (with_reducible refine LeO.ite ?_ ?_)
   | (with_reducible refine LeO.bind ?_ (fun _ => ?_))
   | exact ih0 _ _ _
   | exact ih1 _ _ _
   | exact token_Sign.mono _ _ _
   | exact token_name.mono _ _ _
   | exact token_number.mono _ _ _
   | exact token_text.mono _ _ _
   | exact LeO.none _
   | refine LeO.ite ?_ ?_
   | refine LeO.bind ?_ (fun _ => ?_)
  ·intro y0 y1 y2
   unfold token_One.l0
   repeat' first
   | (with_reducible exact ih0 _ _ _)
   | (with_reducible exact ih1 _ _ _)
   | (with_reducible exact token_Sign.mono _ _ _)
   | (with_reducible exact token_name.mono _ _ _)
   | (with_reducible exact token_number.mono _ _ _)
   | (with_reducible exact token_text.mono _ _ _)
   | (with_reducible exact LeO.refl _)
   | (with_reducible exact LeO.none _)
   | (with_reducible refine LeO.ite ?_ ?_)
   | (with_reducible refine LeO.bind ?_ (fun _ => ?_))
   | exact ih0 _ _ _
   | exact ih1 _ _ _
   | exact token_Sign.mono _ _ _
   | exact token_name.mono _ _ _
   | exact token_number.mono _ _ _
   | exact token_text.mono _ _ _
   | exact LeO.none _
   | refine LeO.ite ?_ ?_
   | refine LeO.bind ?_ (fun _ => ?_)
theorem token_One.mono : ∀ a0 a1 k, LeO (token_One.f k a0 a1) (token_One.f (k + 1) a0 a1) := by
 intro a0 a1 k; obtain ⟨ih0, ih1⟩ := token_One.mono_l k; unfold token_One.f
 repeat' first
   | (with_reducible exact ih0 _ _ _)
   | (with_reducible exact ih1 _ _ _)
   | (with_reducible exact token_Sign.mono _ _ _)
   | (with_reducible exact token_name.mono _ _ _)
   | (with_reducible exact token_number.mono _ _ _)
   | (with_reducible exact token_text.mono _ _ _)
   | (with_reducible exact LeO.refl _)
   | (with_reducible exact LeO.none _)
   | (with_reducible refine LeO.ite ?_ ?_)
   | (with_reducible refine LeO.bind ?_ (fun _ => ?_))
   | exact ih0 _ _ _
   | exact ih1 _ _ _
   | exact token_Sign.mono _ _ _
   | exact token_name.mono _ _ _
   | exact token_number.mono _ _ _
   | exact token_text.mono _ _ _
   | exact LeO.none _
   | refine LeO.ite ?_ ?_
   | refine LeO.bind ?_ (fun _ => ?_)
theorem token_One.calls (k : Nat) (a0 : ByteArray) (a1 : Int) (r1 : Int) (r2 : ByteArray) (r3 : Int) (r4 : Int) (r5 : Int) (r6 : Int) (w : World) (h : token_One.f k a0 a1 = some (r1, r2, r3, r4, r5, r6)) :
  Calls Tryd.prog 129 #[.string a0, .int .i64 a1] w fun e w' => e = .returned (.tuple #[.agg #[.int .i64 r1, .string r2, .int .i64 r3, .int .i64 r4], .int .i64 r5, .int .i64 r6]) ∧ Below w.heap.size w w' := by
 have hu142 := Tryd.underlying142; have HB := am_ (Below.refl w.heap.size w); have H : (token_One.l0 k a0 (mn (mx a1 0) (a0.size : Int)) (mn (mx a1 0) (a0.size : Int))) = some (r1, r2, r3, r4, r5, r6) := h; clear h
 obtain ⟨ji3, hji3⟩ : ∃ j_ : Int, (mx a1 0) = j_ := ⟨_, rfl⟩
 replace H : (token_One.l0 k a0 (mn (ji3) (a0.size : Int)) (mn (ji3) (a0.size : Int))) = some (r1, r2, r3, r4, r5, r6) := by first | (rw [hji3] at H; exact H) | (simp only [hji3] at H ⊢; exact H)
 (try (have hji3l : 0 ≤ ji3 := by (rw [← hji3]; unfold mx; (repeat' split) <;> omega))); (try (have hji3m : 0 ≤ ji3 := by omega)); have hji3_ : (if a1 < 0 then 0 else a1) = ji3 := hji3
 obtain ⟨ji4, hji4⟩ : ∃ j_ : Int, (mn (ji3) (a0.size : Int)) = j_ := ⟨_, rfl⟩
 replace H : (token_One.l0 k a0 ji4 ji4) = some (r1, r2, r3, r4, r5, r6) := by first | (rw [hji4] at H; exact H) | (simp only [hji4] at H ⊢; exact H)
 have hji4_ : (if (a0.size : Int) < (ji3) then (a0.size : Int) else (ji3)) = ji4 := hji4; have HC5 := am_ H; clear H
 go_enter Tryd.func129, Tryd.ntmps129
 go_upto_block 0 with (first | ((with_reducible refine gate_dst (N := 4) rfl ?_); refine box_event ?hg (N := 4) ?hd (cs := #[.int .i64 0, .string (⟨#[]⟩ : ByteArray), .int .i64 0, .int .i64 0]) (t := 142) ?hr ?_; (case hd => rfl); (case hg => rfl); (case hr => first | (go_simp; done) | (go_simp; rfl)); intro gb151 hg w6 hbox hb; have BK151 := am_ (hbox); have GW151 := am_ ((by rw [hg]; exact (below_size (bl_)) : w.heap.size ≤ gb151)); have GE151 := am_ ((by rw [hg]; exact (below_size (bl_)) : w.heap.size ≤ gb151)); replace HB := am_ (below_step (bl_) hb); clear hb hbox hg))
 (try simp only [Act.put, sa_, sz_, ss_])
 go_cut [8] (fun v8 wc => ∃ (kq : Nat) (x8_4 : Int), v8 = .int .i64 x8_4 ∧ Aside0 (token_One.j1 kq a0 ji4 x8_4 = some (r1, r2, r3, r4, r5, r6)) ∧ Aside0 (kq ≤ k) ∧ Aside0 (wc.heap[gb151]? = some (.cells #[.int .i64 0, .string (⟨#[]⟩ : ByteArray), .int .i64 0, .int .i64 0] 142 (0, 0))) ∧ Aside0 (Below w.heap.size w wc))
 case first =>
  have H := HC5.out; clear HC5; have H' := am_ H; clear H
  go_wp2
  go_loopg [8] k (fun kq v8 w' => ∃ (x8_1 : Int), v8 = .int .i64 x8_1 ∧ Aside0 (token_One.l0 kq a0 ji4 x8_1 = some (r1, r2, r3, r4, r5, r6)) ∧ Aside0 (kq ≤ k) ∧ Aside0 (w'.heap[gb151]? = some (.cells #[.int .i64 0, .string (⟨#[]⟩ : ByteArray), .int .i64 0, .int .i64 0] 142 (0, 0))) ∧ Aside0 (Below w.heap.size w w'))
  case atStart => exact ⟨(ji4), (by first | rfl | (simp; done) | (simp only [← hji4] <;> (first | rfl | simp)) | (simp [*]; done)), H', ⟨Nat.le_refl _⟩, ⟨bk_ BK151.out⟩, ⟨bl_⟩⟩
  case round =>
   clear H'; (try clear c1); (try clear p2); obtain ⟨x8_1, rfl, HA, HK1, BK151, HB⟩ := hrel
   cases gk with
   | zero => exact absurd HA.out (by simp [token_One.l0])
   | succ k1 =>
    have H := HA.out; clear HA; simp only [token_One.l0] at H
    by_cases c7 : x8_1 < (a0.size : Int)
    ·rw [if_pos c7] at H
     have c7b0 : decide (x8_1 < (a0.size : Int)) = true := decide_eq_true c7; clear c7; (first | rw [c7b0] | (simp only [i64_w, i32_w]; rw [c7b0]) | skip)
     by_cases c8 : 0 ≤ x8_1
     ·rw [if_pos c8] at H
      have c8b0 : decide (0 ≤ x8_1) = true := decide_eq_true c8; clear c8; replace H := Option.bind_eq_some_iff.mp H; obtain ⟨t152, A100, H⟩ := H; replace H : (if t152 = true then (token_One.l0 k1 a0 ji4 (wrap64 (x8_1 + 1))) else (token_One.j1 k1 a0 ji4 x8_1)) = some (r1, r2, r3, r4, r5, r6) := H; have A10 := am_ A100; clear A100
      by_cases c11 : t152 = true
      ·subst c11
       have H1 : (token_One.l0 k1 a0 ji4 (wrap64 (x8_1 + 1))) = some (r1, r2, r3, r4, r5, r6) := by rw [if_pos rfl] at H; exact H
       clear H; have H := H1; clear H1; have H' := am_ H; clear H; have p9 : 0 ≤ (x8_1 : Int) := of_decide_eq_true (as_); have q9 : x8_1 < (a0.size : Int) := of_decide_eq_true (as_); have hx9 := bt_at a0 x8_1; replace p9 := eq_true p9; replace q9 := eq_true q9
       go_wp2_with (first | (go_at_call 120; (with_reducible refine (token_Blank.calls (bt a0 x8_1) true _ A10.out).mono ?_); rintro e w' ⟨rfl, ⟨nd, rfl⟩⟩))
       go_roundg k1
       case measure => have := HK1.out; omega
       case rel => exact ⟨(wrap64 (x8_1 + 1)), (rs_), H', ⟨by have := HK1.out; omega⟩, ⟨bk_ BK151.out⟩, ⟨bl_⟩⟩
      ·replace c11 := Bool.eq_false_iff.mpr c11
       subst c11
       have H1 : (token_One.j1 k1 a0 ji4 x8_1) = some (r1, r2, r3, r4, r5, r6) := by rw [if_neg (show ¬ (false = true) by decide)] at H; exact H
       clear H; have H := H1; clear H1; have H' := am_ H; clear H; have p9 : 0 ≤ (x8_1 : Int) := of_decide_eq_true (as_); have q9 : x8_1 < (a0.size : Int) := of_decide_eq_true (as_); have hx9 := bt_at a0 x8_1; replace p9 := eq_true p9; replace q9 := eq_true q9
       go_wp2_with (first | (go_at_call 120; (with_reducible refine (token_Blank.calls (bt a0 x8_1) false _ A10.out).mono ?_); rintro e w' ⟨rfl, ⟨nd, rfl⟩⟩))
       go_meet
       case rel => exact ⟨_, (x8_1), (rs_), H', ⟨by have := HK1.out; first | omega | exact Nat.le_refl _⟩, ⟨bk_ BK151.out⟩, ⟨bl_⟩⟩
     ·rw [if_neg c8] at H
      exact absurd H (by simp)
    ·rw [if_neg c7] at H
     have c7b0 : decide (x8_1 < (a0.size : Int)) = false := decide_eq_false c7; clear c7; (first | rw [c7b0] | (simp only [i64_w, i32_w]; rw [c7b0]) | skip); have H' := am_ H; clear H
     go_wp2
     go_meet
     case rel => exact ⟨_, (x8_1), (rs_), H', ⟨by have := HK1.out; first | omega | exact Nat.le_refl _⟩, ⟨bk_ BK151.out⟩, ⟨bl_⟩⟩
 case rest =>
  clear HC5; (try clear c1); (try clear p2); (try clear p6); (try clear c7); (try clear c7b0); (try clear c8); (try clear c8b0); (try clear p9); (try clear q9); (try clear hx9); (try clear c11); (try clear p2); (try clear p9); (try clear q9); obtain ⟨kq, x8_4, rfl, HA, HJ4, BK151, HB⟩ := hcut
  cases kq with
  | zero => exact absurd HA.out (by simp [token_One.j1])
  | succ kj4 =>
   have H := HA.out; clear HA; simp only [token_One.j1] at H; replace H := Option.bind_eq_some_iff.mp H; obtain ⟨t153, A120, H⟩ := H; replace H : (if x8_4 = (a0.size : Int) then (some (0, (⟨#[]⟩ : ByteArray), 0, x8_4, x8_4, 0)) else (if 0 ≤ x8_4 then (if x8_4 < (a0.size : Int) then ((token_letter.f (bt a0 x8_4)).bind fun t154 => (if t154 = true then ((token_name.f kj4 a0 x8_4).bind fun bt155 => (if bt155.2.2.2.2.2 = 0 then (some (bt155.1, bt155.2.1, bt155.2.2.1, bt155.2.2.2.1, bt155.2.2.2.2.1, 0)) else (some (0, (⟨#[]⟩ : ByteArray), 0, 0, ji4, bt155.2.2.2.2.2)))) else ((token_digit.f (bt a0 x8_4)).bind fun t161 => (if t161 = true then ((token_number.f kj4 a0 x8_4).bind fun bt162 => (if bt162.2.2.2.2.2 = 0 then (some (bt162.1, bt162.2.1, bt162.2.2.1, bt162.2.2.2.1, bt162.2.2.2.2.1, 0)) else (some (0, (⟨#[]⟩ : ByteArray), 0, 0, ji4, bt162.2.2.2.2.2)))) else (if (bt a0 x8_4) = 39 then ((token_text.f kj4 a0 x8_4).bind fun bt168 => (if bt168.2.2.2.2.2 = 0 then (some (bt168.1, bt168.2.1, bt168.2.2.1, bt168.2.2.2.1, bt168.2.2.2.2.1, 0)) else (some (0, (⟨#[]⟩ : ByteArray), 0, 0, ji4, bt168.2.2.2.2.2)))) else (if t153.toList = ([] : List UInt8) then (some (0, (⟨#[]⟩ : ByteArray), 0, 0, ji4, 1)) else (some (5, t153, 0, x8_4, wrap64 (x8_4 + (t153.size : Int)), 0)))))))) else (none)) else (none))) = some (r1, r2, r3, r4, r5, r6) := H; have A12 := am_ A120; clear A120
   by_cases c13 : x8_4 = (a0.size : Int)
   ·rw [if_pos c13] at H
    have c13b0 : (x8_4 == (a0.size : Int)) = true := beq_iff_eq.mpr c13; have c13b1 : (x8_4 != (a0.size : Int)) = false := bne_eq_false_iff_eq.mpr c13; clear c13; simp only [Option.some.injEq, Prod.mk.injEq] at H; obtain ⟨rfl, rfl, rfl, rfl, rfl, rfl⟩ := H
    go_wp2_with (first | ((with_reducible refine gate_callee (f := 146) rfl ?_); refine goesL_ (some 30) rfl rfl Tryd.func146 (by kernel_rfl) rfl #[.string a0, .int .i64 x8_4] rfl (by (try simp only [List.map_toArray, List.map_cons, List.map_nil]); first | done | rfl | (simp only [List.length_drop, List.length_take]; rfl)) ?_; (with_reducible refine (token_Sign.calls kj4 a0 x8_4 t153 _ A12.out).mono ?_); rintro e w14 ⟨rfl, hb⟩; refine ⟨_, rfl, ?_⟩; replace BK151 := am_ (blk_below (bk_ BK151.out) hb); replace HB := am_ (below_step (bl_) hb); (try clear hb); (try clear hb2); (try clear hk); (try clear hi); obtain ⟨hcz15_0, hcz15_1, hcz15_2, hcz15_3, hfz15_0, hfz15_1, hfz15_2, hfz15_3⟩ := bw4_ BK151.out))
    refine bodyPost_ret (results_ctt rfl _ _ gb151 142 #[.int .i64 0, .string (⟨#[]⟩ : ByteArray), .int .i64 0, .int .i64 x8_4] (0, 0) _ rfl (by refine bp_ ?_; refine blk_put (cs := #[.int .i64 0, .string (⟨#[]⟩ : ByteArray), .int .i64 0, .int .i64 0]) ?_ 3 _ rfl; refine bp_ ?_; refine blk_put (cs := #[.int .i64 0, .string (⟨#[]⟩ : ByteArray), .int .i64 0, .int .i64 0]) ?_ 2 _ rfl; refine bp_ ?_; refine blk_put (cs := #[.int .i64 0, .string (⟨#[]⟩ : ByteArray), .int .i64 0, .int .i64 0]) ?_ 1 _ rfl; refine bp_ ?_; refine blk_put (cs := #[.int .i64 0, .string (⟨#[]⟩ : ByteArray), .int .i64 0, .int .i64 0]) ?_ 0 _ rfl; refine bp_ ?_; exact BK151.out) Tryd.underlying142 rfl (by kernel_rfl)) rfl ?_; exact ⟨by first | rfl | (simp [errW_none, errW_some] <;> rfl) | (simp only [← hji3, ← hji4]; first | rfl | (simp [errW_none, errW_some] <;> rfl)) | (simp [*, errW_none, errW_some] <;> rfl), bl_⟩
   ·rw [if_neg c13] at H
    have c13b0 : (x8_4 == (a0.size : Int)) = false := beq_eq_false_iff_ne.mpr c13; have c13b1 : (x8_4 != (a0.size : Int)) = true := bne_iff_ne.mpr c13
    by_cases c16 : 0 ≤ x8_4
    ·rw [if_pos c16] at H
     have c16b0 : decide (0 ≤ x8_4) = true := decide_eq_true c16; clear c16
     by_cases c17 : x8_4 < (a0.size : Int)
     ·rw [if_pos c17] at H
      have c17b0 : decide (x8_4 < (a0.size : Int)) = true := decide_eq_true c17; clear c17; replace H := Option.bind_eq_some_iff.mp H; obtain ⟨t154, A190, H⟩ := H; replace H : (if t154 = true then ((token_name.f kj4 a0 x8_4).bind fun bt155 => (if bt155.2.2.2.2.2 = 0 then (some (bt155.1, bt155.2.1, bt155.2.2.1, bt155.2.2.2.1, bt155.2.2.2.2.1, 0)) else (some (0, (⟨#[]⟩ : ByteArray), 0, 0, ji4, bt155.2.2.2.2.2)))) else ((token_digit.f (bt a0 x8_4)).bind fun t161 => (if t161 = true then ((token_number.f kj4 a0 x8_4).bind fun bt162 => (if bt162.2.2.2.2.2 = 0 then (some (bt162.1, bt162.2.1, bt162.2.2.1, bt162.2.2.2.1, bt162.2.2.2.2.1, 0)) else (some (0, (⟨#[]⟩ : ByteArray), 0, 0, ji4, bt162.2.2.2.2.2)))) else (if (bt a0 x8_4) = 39 then ((token_text.f kj4 a0 x8_4).bind fun bt168 => (if bt168.2.2.2.2.2 = 0 then (some (bt168.1, bt168.2.1, bt168.2.2.1, bt168.2.2.2.1, bt168.2.2.2.2.1, 0)) else (some (0, (⟨#[]⟩ : ByteArray), 0, 0, ji4, bt168.2.2.2.2.2)))) else (if t153.toList = ([] : List UInt8) then (some (0, (⟨#[]⟩ : ByteArray), 0, 0, ji4, 1)) else (some (5, t153, 0, x8_4, wrap64 (x8_4 + (t153.size : Int)), 0))))))) = some (r1, r2, r3, r4, r5, r6) := H; have A19 := am_ A190; clear A190
      by_cases c20 : t154 = true
      ·subst c20
       have H1 : ((token_name.f kj4 a0 x8_4).bind fun bt155 => (if bt155.2.2.2.2.2 = 0 then (some (bt155.1, bt155.2.1, bt155.2.2.1, bt155.2.2.2.1, bt155.2.2.2.2.1, 0)) else (some (0, (⟨#[]⟩ : ByteArray), 0, 0, ji4, bt155.2.2.2.2.2)))) = some (r1, r2, r3, r4, r5, r6) := by rw [if_pos rfl] at H; exact H
       clear H; have H := H1; clear H1; replace H := Option.bind_eq_some_iff.mp H; obtain ⟨⟨t155, t156, t157, t158, t159, t160⟩, A210, H⟩ := H; replace H : (if t160 = 0 then (some (t155, t156, t157, t158, t159, 0)) else (some (0, (⟨#[]⟩ : ByteArray), 0, 0, ji4, t160))) = some (r1, r2, r3, r4, r5, r6) := H; have A21 := am_ A210; clear A210
       by_cases c22 : t160 = 0
       ·rw [if_pos c22] at H
        have c22b0 : (t160 == 0) = true := beq_iff_eq.mpr c22; have c22b1 : (t160 != 0) = false := bne_eq_false_iff_eq.mpr c22; clear c22; simp only [Option.some.injEq, Prod.mk.injEq] at H; obtain ⟨rfl, rfl, rfl, rfl, rfl, rfl⟩ := H
        go_wp2_with (first | ((with_reducible refine gate_callee (f := 146) rfl ?_); refine goesL_ (some 30) rfl rfl Tryd.func146 (by kernel_rfl) rfl #[.string a0, .int .i64 x8_4] rfl (by (try simp only [List.map_toArray, List.map_cons, List.map_nil]); first | done | rfl | (simp only [List.length_drop, List.length_take]; rfl)) ?_; (with_reducible refine (token_Sign.calls kj4 a0 x8_4 t153 _ A12.out).mono ?_); rintro e w23 ⟨rfl, hb⟩; refine ⟨_, rfl, ?_⟩; replace BK151 := am_ (blk_below (bk_ BK151.out) hb); replace HB := am_ (below_step (bl_) hb); (try clear hb); (try clear hb2); (try clear hk); (try clear hi); have p18 : 0 ≤ (x8_4 : Int) := of_decide_eq_true (as_); have q18 : x8_4 < (a0.size : Int) := of_decide_eq_true (as_); have hx18 := bt_at a0 x8_4; replace p18 := eq_true p18; replace q18 := eq_true q18) | ((with_reducible refine gate_callee (f := 147) rfl ?_); refine goesL_ (some 43) rfl rfl Tryd.func147 (by kernel_rfl) rfl #[.int .u8 (bt a0 x8_4)] rfl (by (try simp only [List.map_toArray, List.map_cons, List.map_nil]); first | done | rfl | (simp only [List.length_drop, List.length_take]; rfl)) ?_; (with_reducible refine (token_letter.calls (bt a0 x8_4) true _ A19.out).mono ?_); rintro e w' ⟨rfl, ⟨nd, rfl⟩⟩; refine ⟨_, rfl, ?_⟩; (try (rw [drewN_self w23]; generalize hq_ : World.drewN w23 _ = w23; have n0_ : Aside0 (w23.heap[gb151]? = some (.cells #[.int .i64 0, .string (⟨#[]⟩ : ByteArray), .int .i64 0, .int .i64 0] 142 (0, 0))) := ⟨by rw [← hq_]; exact (bk_ BK151.out)⟩; have n1_ : Aside0 (Below w.heap.size w w23) := ⟨by rw [← hq_]; exact (bl_)⟩; clear BK151 HB hq_; have BK151 := n0_; have HB := n1_; clear n0_ n1_))) | ((with_reducible refine gate_callee (f := 148) rfl ?_); refine goesL_ (some 47) rfl rfl Tryd.func148 (by kernel_rfl) rfl #[.string a0, .int .i64 x8_4] rfl (by (try simp only [List.map_toArray, List.map_cons, List.map_nil]); first | done | rfl | (simp only [List.length_drop, List.length_take]; rfl)) ?_; (with_reducible refine (token_name.calls kj4 a0 x8_4 t155 t156 t157 t158 t159 t160 _ A21.out).mono ?_); rintro e w24 ⟨rfl, hb⟩; refine ⟨_, rfl, ?_⟩; replace BK151 := am_ (blk_below (bk_ BK151.out) hb); replace HB := am_ (below_step (bl_) hb); (try clear hb); (try clear hb2); (try clear hk); (try clear hi); obtain ⟨hcz25_0, hcz25_1, hcz25_2, hcz25_3, hfz25_0, hfz25_1, hfz25_2, hfz25_3⟩ := bw4_ BK151.out))
        refine bodyPost_ret (results_ctt rfl _ _ gb151 142 #[.int .i64 t155, .string t156, .int .i64 t157, .int .i64 t158] (0, 0) _ rfl (by refine bp_ ?_; refine blk_put (cs := #[.int .i64 t155, .string t156, .int .i64 t157, .int .i64 t158]) ?_ 3 _ rfl; refine bp_ ?_; refine blk_put (cs := #[.int .i64 t155, .string t156, .int .i64 t157, .int .i64 t158]) ?_ 2 _ rfl; refine bp_ ?_; refine blk_put (cs := #[.int .i64 t155, .string t156, .int .i64 t157, .int .i64 t158]) ?_ 1 _ rfl; refine bp_ ?_; refine blk_put (cs := #[.int .i64 t155, .string t156, .int .i64 t157, .int .i64 t158]) ?_ 0 _ rfl; refine bp_ ?_; refine blk_put (cs := #[.int .i64 t155, .string t156, .int .i64 t157, .int .i64 0]) ?_ 3 _ rfl; refine bp_ ?_; refine blk_put (cs := #[.int .i64 t155, .string t156, .int .i64 0, .int .i64 0]) ?_ 2 _ rfl; refine bp_ ?_; refine blk_put (cs := #[.int .i64 t155, .string (⟨#[]⟩ : ByteArray), .int .i64 0, .int .i64 0]) ?_ 1 _ rfl; refine bp_ ?_; refine blk_put (cs := #[.int .i64 0, .string (⟨#[]⟩ : ByteArray), .int .i64 0, .int .i64 0]) ?_ 0 _ rfl; refine bp_ ?_; exact BK151.out) Tryd.underlying142 rfl (by kernel_rfl)) rfl ?_; exact ⟨by first | rfl | (simp [errW_none, errW_some] <;> rfl) | (simp only [← hji3, ← hji4]; first | rfl | (simp [errW_none, errW_some] <;> rfl)) | (simp [*, errW_none, errW_some] <;> rfl), bl_⟩
       ·rw [if_neg c22] at H
        have c22b0 : (t160 == 0) = false := beq_eq_false_iff_ne.mpr c22; have c22b1 : (t160 != 0) = true := bne_iff_ne.mpr c22; simp only [Option.some.injEq, Prod.mk.injEq] at H; obtain ⟨rfl, rfl, rfl, rfl, rfl, rfl⟩ := H
        go_wp2_with (first | ((with_reducible refine gate_callee (f := 146) rfl ?_); refine goesL_ (some 30) rfl rfl Tryd.func146 (by kernel_rfl) rfl #[.string a0, .int .i64 x8_4] rfl (by (try simp only [List.map_toArray, List.map_cons, List.map_nil]); first | done | rfl | (simp only [List.length_drop, List.length_take]; rfl)) ?_; (with_reducible refine (token_Sign.calls kj4 a0 x8_4 t153 _ A12.out).mono ?_); rintro e w26 ⟨rfl, hb⟩; refine ⟨_, rfl, ?_⟩; replace BK151 := am_ (blk_below (bk_ BK151.out) hb); replace HB := am_ (below_step (bl_) hb); (try clear hb); (try clear hb2); (try clear hk); (try clear hi); have p18 : 0 ≤ (x8_4 : Int) := of_decide_eq_true (as_); have q18 : x8_4 < (a0.size : Int) := of_decide_eq_true (as_); have hx18 := bt_at a0 x8_4; replace p18 := eq_true p18; replace q18 := eq_true q18) | ((with_reducible refine gate_callee (f := 147) rfl ?_); refine goesL_ (some 43) rfl rfl Tryd.func147 (by kernel_rfl) rfl #[.int .u8 (bt a0 x8_4)] rfl (by (try simp only [List.map_toArray, List.map_cons, List.map_nil]); first | done | rfl | (simp only [List.length_drop, List.length_take]; rfl)) ?_; (with_reducible refine (token_letter.calls (bt a0 x8_4) true _ A19.out).mono ?_); rintro e w' ⟨rfl, ⟨nd, rfl⟩⟩; refine ⟨_, rfl, ?_⟩; (try (rw [drewN_self w26]; generalize hq_ : World.drewN w26 _ = w26; have n0_ : Aside0 (w26.heap[gb151]? = some (.cells #[.int .i64 0, .string (⟨#[]⟩ : ByteArray), .int .i64 0, .int .i64 0] 142 (0, 0))) := ⟨by rw [← hq_]; exact (bk_ BK151.out)⟩; have n1_ : Aside0 (Below w.heap.size w w26) := ⟨by rw [← hq_]; exact (bl_)⟩; clear BK151 HB hq_; have BK151 := n0_; have HB := n1_; clear n0_ n1_))) | ((with_reducible refine gate_callee (f := 148) rfl ?_); refine goesL_ (some 47) rfl rfl Tryd.func148 (by kernel_rfl) rfl #[.string a0, .int .i64 x8_4] rfl (by (try simp only [List.map_toArray, List.map_cons, List.map_nil]); first | done | rfl | (simp only [List.length_drop, List.length_take]; rfl)) ?_; (with_reducible refine (token_name.calls kj4 a0 x8_4 t155 t156 t157 t158 t159 t160 _ A21.out).mono ?_); rintro e w27 ⟨rfl, hb⟩; refine ⟨_, rfl, ?_⟩; replace BK151 := am_ (blk_below (bk_ BK151.out) hb); replace HB := am_ (below_step (bl_) hb); (try clear hb); (try clear hb2); (try clear hk); (try clear hi); obtain ⟨hcz28_0, hcz28_1, hcz28_2, hcz28_3, hfz28_0, hfz28_1, hfz28_2, hfz28_3⟩ := bw4_ BK151.out))
        refine bodyPost_ret (results_ctt rfl _ _ gb151 142 #[.int .i64 0, .string (⟨#[]⟩ : ByteArray), .int .i64 0, .int .i64 0] (0, 0) _ rfl (by refine bp_ ?_; refine blk_put (cs := #[.int .i64 0, .string (⟨#[]⟩ : ByteArray), .int .i64 0, .int .i64 t158]) ?_ 3 _ rfl; refine bp_ ?_; refine blk_put (cs := #[.int .i64 0, .string (⟨#[]⟩ : ByteArray), .int .i64 t157, .int .i64 t158]) ?_ 2 _ rfl; refine bp_ ?_; refine blk_put (cs := #[.int .i64 0, .string t156, .int .i64 t157, .int .i64 t158]) ?_ 1 _ rfl; refine bp_ ?_; refine blk_put (cs := #[.int .i64 t155, .string t156, .int .i64 t157, .int .i64 t158]) ?_ 0 _ rfl; refine bp_ ?_; refine blk_put (cs := #[.int .i64 t155, .string t156, .int .i64 t157, .int .i64 0]) ?_ 3 _ rfl; refine bp_ ?_; refine blk_put (cs := #[.int .i64 t155, .string t156, .int .i64 0, .int .i64 0]) ?_ 2 _ rfl; refine bp_ ?_; refine blk_put (cs := #[.int .i64 t155, .string (⟨#[]⟩ : ByteArray), .int .i64 0, .int .i64 0]) ?_ 1 _ rfl; refine bp_ ?_; refine blk_put (cs := #[.int .i64 0, .string (⟨#[]⟩ : ByteArray), .int .i64 0, .int .i64 0]) ?_ 0 _ rfl; refine bp_ ?_; exact BK151.out) Tryd.underlying142 rfl (by kernel_rfl)) rfl ?_; exact ⟨by first | rfl | (simp [errW_none, errW_some] <;> rfl) | (simp only [← hji3, ← hji4]; first | rfl | (simp [errW_none, errW_some] <;> rfl)) | (simp [*, errW_none, errW_some] <;> rfl), bl_⟩
      ·replace c20 := Bool.eq_false_iff.mpr c20
       subst c20
       have H1 : ((token_digit.f (bt a0 x8_4)).bind fun t161 => (if t161 = true then ((token_number.f kj4 a0 x8_4).bind fun bt162 => (if bt162.2.2.2.2.2 = 0 then (some (bt162.1, bt162.2.1, bt162.2.2.1, bt162.2.2.2.1, bt162.2.2.2.2.1, 0)) else (some (0, (⟨#[]⟩ : ByteArray), 0, 0, ji4, bt162.2.2.2.2.2)))) else (if (bt a0 x8_4) = 39 then ((token_text.f kj4 a0 x8_4).bind fun bt168 => (if bt168.2.2.2.2.2 = 0 then (some (bt168.1, bt168.2.1, bt168.2.2.1, bt168.2.2.2.1, bt168.2.2.2.2.1, 0)) else (some (0, (⟨#[]⟩ : ByteArray), 0, 0, ji4, bt168.2.2.2.2.2)))) else (if t153.toList = ([] : List UInt8) then (some (0, (⟨#[]⟩ : ByteArray), 0, 0, ji4, 1)) else (some (5, t153, 0, x8_4, wrap64 (x8_4 + (t153.size : Int)), 0)))))) = some (r1, r2, r3, r4, r5, r6) := by rw [if_neg (show ¬ (false = true) by decide)] at H; exact H
       clear H; have H := H1; clear H1; replace H := Option.bind_eq_some_iff.mp H; obtain ⟨t161, A300, H⟩ := H; replace H : (if t161 = true then ((token_number.f kj4 a0 x8_4).bind fun bt162 => (if bt162.2.2.2.2.2 = 0 then (some (bt162.1, bt162.2.1, bt162.2.2.1, bt162.2.2.2.1, bt162.2.2.2.2.1, 0)) else (some (0, (⟨#[]⟩ : ByteArray), 0, 0, ji4, bt162.2.2.2.2.2)))) else (if (bt a0 x8_4) = 39 then ((token_text.f kj4 a0 x8_4).bind fun bt168 => (if bt168.2.2.2.2.2 = 0 then (some (bt168.1, bt168.2.1, bt168.2.2.1, bt168.2.2.2.1, bt168.2.2.2.2.1, 0)) else (some (0, (⟨#[]⟩ : ByteArray), 0, 0, ji4, bt168.2.2.2.2.2)))) else (if t153.toList = ([] : List UInt8) then (some (0, (⟨#[]⟩ : ByteArray), 0, 0, ji4, 1)) else (some (5, t153, 0, x8_4, wrap64 (x8_4 + (t153.size : Int)), 0))))) = some (r1, r2, r3, r4, r5, r6) := H; have A30 := am_ A300; clear A300
       by_cases c31 : t161 = true
       ·subst c31
        have H1 : ((token_number.f kj4 a0 x8_4).bind fun bt162 => (if bt162.2.2.2.2.2 = 0 then (some (bt162.1, bt162.2.1, bt162.2.2.1, bt162.2.2.2.1, bt162.2.2.2.2.1, 0)) else (some (0, (⟨#[]⟩ : ByteArray), 0, 0, ji4, bt162.2.2.2.2.2)))) = some (r1, r2, r3, r4, r5, r6) := by rw [if_pos rfl] at H; exact H
        clear H; have H := H1; clear H1; replace H := Option.bind_eq_some_iff.mp H; obtain ⟨⟨t162, t163, t164, t165, t166, t167⟩, A320, H⟩ := H; replace H : (if t167 = 0 then (some (t162, t163, t164, t165, t166, 0)) else (some (0, (⟨#[]⟩ : ByteArray), 0, 0, ji4, t167))) = some (r1, r2, r3, r4, r5, r6) := H; have A32 := am_ A320; clear A320
        by_cases c33 : t167 = 0
        ·rw [if_pos c33] at H
         have c33b0 : (t167 == 0) = true := beq_iff_eq.mpr c33; have c33b1 : (t167 != 0) = false := bne_eq_false_iff_eq.mpr c33; clear c33; simp only [Option.some.injEq, Prod.mk.injEq] at H; obtain ⟨rfl, rfl, rfl, rfl, rfl, rfl⟩ := H
         go_wp2_with (first | ((with_reducible refine gate_callee (f := 146) rfl ?_); refine goesL_ (some 30) rfl rfl Tryd.func146 (by kernel_rfl) rfl #[.string a0, .int .i64 x8_4] rfl (by (try simp only [List.map_toArray, List.map_cons, List.map_nil]); first | done | rfl | (simp only [List.length_drop, List.length_take]; rfl)) ?_; (with_reducible refine (token_Sign.calls kj4 a0 x8_4 t153 _ A12.out).mono ?_); rintro e w34 ⟨rfl, hb⟩; refine ⟨_, rfl, ?_⟩; replace BK151 := am_ (blk_below (bk_ BK151.out) hb); replace HB := am_ (below_step (bl_) hb); (try clear hb); (try clear hb2); (try clear hk); (try clear hi); have p18 : 0 ≤ (x8_4 : Int) := of_decide_eq_true (as_); have q18 : x8_4 < (a0.size : Int) := of_decide_eq_true (as_); have hx18 := bt_at a0 x8_4; replace p18 := eq_true p18; replace q18 := eq_true q18) | ((with_reducible refine gate_callee (f := 147) rfl ?_); refine goesL_ (some 43) rfl rfl Tryd.func147 (by kernel_rfl) rfl #[.int .u8 (bt a0 x8_4)] rfl (by (try simp only [List.map_toArray, List.map_cons, List.map_nil]); first | done | rfl | (simp only [List.length_drop, List.length_take]; rfl)) ?_; (with_reducible refine (token_letter.calls (bt a0 x8_4) false _ A19.out).mono ?_); rintro e w' ⟨rfl, ⟨nd, rfl⟩⟩; refine ⟨_, rfl, ?_⟩; (try (rw [drewN_self w34]; generalize hq_ : World.drewN w34 _ = w34; have n0_ : Aside0 (w34.heap[gb151]? = some (.cells #[.int .i64 0, .string (⟨#[]⟩ : ByteArray), .int .i64 0, .int .i64 0] 142 (0, 0))) := ⟨by rw [← hq_]; exact (bk_ BK151.out)⟩; have n1_ : Aside0 (Below w.heap.size w w34) := ⟨by rw [← hq_]; exact (bl_)⟩; clear BK151 HB hq_; have BK151 := n0_; have HB := n1_; clear n0_ n1_)); have p29 : 0 ≤ (x8_4 : Int) := of_decide_eq_true (as_); have q29 : x8_4 < (a0.size : Int) := of_decide_eq_true (as_); have hx29 := bt_at a0 x8_4; replace p29 := eq_true p29; replace q29 := eq_true q29) | ((with_reducible refine gate_callee (f := 149) rfl ?_); refine goesL_ (some 55) rfl rfl Tryd.func149 (by kernel_rfl) rfl #[.int .u8 (bt a0 x8_4)] rfl (by (try simp only [List.map_toArray, List.map_cons, List.map_nil]); first | done | rfl | (simp only [List.length_drop, List.length_take]; rfl)) ?_; (with_reducible refine (token_digit.calls (bt a0 x8_4) true _ A30.out).mono ?_); rintro e w' ⟨rfl, ⟨nd, rfl⟩⟩; refine ⟨_, rfl, ?_⟩; (try (rw [drewN_self w34]; generalize hq_ : World.drewN w34 _ = w34; have n0_ : Aside0 (w34.heap[gb151]? = some (.cells #[.int .i64 0, .string (⟨#[]⟩ : ByteArray), .int .i64 0, .int .i64 0] 142 (0, 0))) := ⟨by rw [← hq_]; exact (bk_ BK151.out)⟩; have n1_ : Aside0 (Below w.heap.size w w34) := ⟨by rw [← hq_]; exact (bl_)⟩; clear BK151 HB hq_; have BK151 := n0_; have HB := n1_; clear n0_ n1_))) | ((with_reducible refine gate_callee (f := 150) rfl ?_); refine goesL_ (some 59) rfl rfl Tryd.func150 (by kernel_rfl) rfl #[.string a0, .int .i64 x8_4] rfl (by (try simp only [List.map_toArray, List.map_cons, List.map_nil]); first | done | rfl | (simp only [List.length_drop, List.length_take]; rfl)) ?_; (with_reducible refine (token_number.calls kj4 a0 x8_4 t162 t163 t164 t165 t166 t167 _ A32.out).mono ?_); rintro e w35 ⟨rfl, hb⟩; refine ⟨_, rfl, ?_⟩; replace BK151 := am_ (blk_below (bk_ BK151.out) hb); replace HB := am_ (below_step (bl_) hb); (try clear hb); (try clear hb2); (try clear hk); (try clear hi); obtain ⟨hcz36_0, hcz36_1, hcz36_2, hcz36_3, hfz36_0, hfz36_1, hfz36_2, hfz36_3⟩ := bw4_ BK151.out))
         refine bodyPost_ret (results_ctt rfl _ _ gb151 142 #[.int .i64 t162, .string t163, .int .i64 t164, .int .i64 t165] (0, 0) _ rfl (by refine bp_ ?_; refine blk_put (cs := #[.int .i64 t162, .string t163, .int .i64 t164, .int .i64 t165]) ?_ 3 _ rfl; refine bp_ ?_; refine blk_put (cs := #[.int .i64 t162, .string t163, .int .i64 t164, .int .i64 t165]) ?_ 2 _ rfl; refine bp_ ?_; refine blk_put (cs := #[.int .i64 t162, .string t163, .int .i64 t164, .int .i64 t165]) ?_ 1 _ rfl; refine bp_ ?_; refine blk_put (cs := #[.int .i64 t162, .string t163, .int .i64 t164, .int .i64 t165]) ?_ 0 _ rfl; refine bp_ ?_; refine blk_put (cs := #[.int .i64 t162, .string t163, .int .i64 t164, .int .i64 0]) ?_ 3 _ rfl; refine bp_ ?_; refine blk_put (cs := #[.int .i64 t162, .string t163, .int .i64 0, .int .i64 0]) ?_ 2 _ rfl; refine bp_ ?_; refine blk_put (cs := #[.int .i64 t162, .string (⟨#[]⟩ : ByteArray), .int .i64 0, .int .i64 0]) ?_ 1 _ rfl; refine bp_ ?_; refine blk_put (cs := #[.int .i64 0, .string (⟨#[]⟩ : ByteArray), .int .i64 0, .int .i64 0]) ?_ 0 _ rfl; refine bp_ ?_; exact BK151.out) Tryd.underlying142 rfl (by kernel_rfl)) rfl ?_; exact ⟨by first | rfl | (simp [errW_none, errW_some] <;> rfl) | (simp only [← hji3, ← hji4]; first | rfl | (simp [errW_none, errW_some] <;> rfl)) | (simp [*, errW_none, errW_some] <;> rfl), bl_⟩
        ·rw [if_neg c33] at H
         have c33b0 : (t167 == 0) = false := beq_eq_false_iff_ne.mpr c33; have c33b1 : (t167 != 0) = true := bne_iff_ne.mpr c33; simp only [Option.some.injEq, Prod.mk.injEq] at H; obtain ⟨rfl, rfl, rfl, rfl, rfl, rfl⟩ := H
         go_wp2_with (first | ((with_reducible refine gate_callee (f := 146) rfl ?_); refine goesL_ (some 30) rfl rfl Tryd.func146 (by kernel_rfl) rfl #[.string a0, .int .i64 x8_4] rfl (by (try simp only [List.map_toArray, List.map_cons, List.map_nil]); first | done | rfl | (simp only [List.length_drop, List.length_take]; rfl)) ?_; (with_reducible refine (token_Sign.calls kj4 a0 x8_4 t153 _ A12.out).mono ?_); rintro e w37 ⟨rfl, hb⟩; refine ⟨_, rfl, ?_⟩; replace BK151 := am_ (blk_below (bk_ BK151.out) hb); replace HB := am_ (below_step (bl_) hb); (try clear hb); (try clear hb2); (try clear hk); (try clear hi); have p18 : 0 ≤ (x8_4 : Int) := of_decide_eq_true (as_); have q18 : x8_4 < (a0.size : Int) := of_decide_eq_true (as_); have hx18 := bt_at a0 x8_4; replace p18 := eq_true p18; replace q18 := eq_true q18) | ((with_reducible refine gate_callee (f := 147) rfl ?_); refine goesL_ (some 43) rfl rfl Tryd.func147 (by kernel_rfl) rfl #[.int .u8 (bt a0 x8_4)] rfl (by (try simp only [List.map_toArray, List.map_cons, List.map_nil]); first | done | rfl | (simp only [List.length_drop, List.length_take]; rfl)) ?_; (with_reducible refine (token_letter.calls (bt a0 x8_4) false _ A19.out).mono ?_); rintro e w' ⟨rfl, ⟨nd, rfl⟩⟩; refine ⟨_, rfl, ?_⟩; (try (rw [drewN_self w37]; generalize hq_ : World.drewN w37 _ = w37; have n0_ : Aside0 (w37.heap[gb151]? = some (.cells #[.int .i64 0, .string (⟨#[]⟩ : ByteArray), .int .i64 0, .int .i64 0] 142 (0, 0))) := ⟨by rw [← hq_]; exact (bk_ BK151.out)⟩; have n1_ : Aside0 (Below w.heap.size w w37) := ⟨by rw [← hq_]; exact (bl_)⟩; clear BK151 HB hq_; have BK151 := n0_; have HB := n1_; clear n0_ n1_)); have p29 : 0 ≤ (x8_4 : Int) := of_decide_eq_true (as_); have q29 : x8_4 < (a0.size : Int) := of_decide_eq_true (as_); have hx29 := bt_at a0 x8_4; replace p29 := eq_true p29; replace q29 := eq_true q29) | ((with_reducible refine gate_callee (f := 149) rfl ?_); refine goesL_ (some 55) rfl rfl Tryd.func149 (by kernel_rfl) rfl #[.int .u8 (bt a0 x8_4)] rfl (by (try simp only [List.map_toArray, List.map_cons, List.map_nil]); first | done | rfl | (simp only [List.length_drop, List.length_take]; rfl)) ?_; (with_reducible refine (token_digit.calls (bt a0 x8_4) true _ A30.out).mono ?_); rintro e w' ⟨rfl, ⟨nd, rfl⟩⟩; refine ⟨_, rfl, ?_⟩; (try (rw [drewN_self w37]; generalize hq_ : World.drewN w37 _ = w37; have n0_ : Aside0 (w37.heap[gb151]? = some (.cells #[.int .i64 0, .string (⟨#[]⟩ : ByteArray), .int .i64 0, .int .i64 0] 142 (0, 0))) := ⟨by rw [← hq_]; exact (bk_ BK151.out)⟩; have n1_ : Aside0 (Below w.heap.size w w37) := ⟨by rw [← hq_]; exact (bl_)⟩; clear BK151 HB hq_; have BK151 := n0_; have HB := n1_; clear n0_ n1_))) | ((with_reducible refine gate_callee (f := 150) rfl ?_); refine goesL_ (some 59) rfl rfl Tryd.func150 (by kernel_rfl) rfl #[.string a0, .int .i64 x8_4] rfl (by (try simp only [List.map_toArray, List.map_cons, List.map_nil]); first | done | rfl | (simp only [List.length_drop, List.length_take]; rfl)) ?_; (with_reducible refine (token_number.calls kj4 a0 x8_4 t162 t163 t164 t165 t166 t167 _ A32.out).mono ?_); rintro e w38 ⟨rfl, hb⟩; refine ⟨_, rfl, ?_⟩; replace BK151 := am_ (blk_below (bk_ BK151.out) hb); replace HB := am_ (below_step (bl_) hb); (try clear hb); (try clear hb2); (try clear hk); (try clear hi); obtain ⟨hcz39_0, hcz39_1, hcz39_2, hcz39_3, hfz39_0, hfz39_1, hfz39_2, hfz39_3⟩ := bw4_ BK151.out))
         refine bodyPost_ret (results_ctt rfl _ _ gb151 142 #[.int .i64 0, .string (⟨#[]⟩ : ByteArray), .int .i64 0, .int .i64 0] (0, 0) _ rfl (by refine bp_ ?_; refine blk_put (cs := #[.int .i64 0, .string (⟨#[]⟩ : ByteArray), .int .i64 0, .int .i64 t165]) ?_ 3 _ rfl; refine bp_ ?_; refine blk_put (cs := #[.int .i64 0, .string (⟨#[]⟩ : ByteArray), .int .i64 t164, .int .i64 t165]) ?_ 2 _ rfl; refine bp_ ?_; refine blk_put (cs := #[.int .i64 0, .string t163, .int .i64 t164, .int .i64 t165]) ?_ 1 _ rfl; refine bp_ ?_; refine blk_put (cs := #[.int .i64 t162, .string t163, .int .i64 t164, .int .i64 t165]) ?_ 0 _ rfl; refine bp_ ?_; refine blk_put (cs := #[.int .i64 t162, .string t163, .int .i64 t164, .int .i64 0]) ?_ 3 _ rfl; refine bp_ ?_; refine blk_put (cs := #[.int .i64 t162, .string t163, .int .i64 0, .int .i64 0]) ?_ 2 _ rfl; refine bp_ ?_; refine blk_put (cs := #[.int .i64 t162, .string (⟨#[]⟩ : ByteArray), .int .i64 0, .int .i64 0]) ?_ 1 _ rfl; refine bp_ ?_; refine blk_put (cs := #[.int .i64 0, .string (⟨#[]⟩ : ByteArray), .int .i64 0, .int .i64 0]) ?_ 0 _ rfl; refine bp_ ?_; exact BK151.out) Tryd.underlying142 rfl (by kernel_rfl)) rfl ?_; exact ⟨by first | rfl | (simp [errW_none, errW_some] <;> rfl) | (simp only [← hji3, ← hji4]; first | rfl | (simp [errW_none, errW_some] <;> rfl)) | (simp [*, errW_none, errW_some] <;> rfl), bl_⟩
       ·replace c31 := Bool.eq_false_iff.mpr c31
        subst c31
        have H1 : (if (bt a0 x8_4) = 39 then ((token_text.f kj4 a0 x8_4).bind fun bt168 => (if bt168.2.2.2.2.2 = 0 then (some (bt168.1, bt168.2.1, bt168.2.2.1, bt168.2.2.2.1, bt168.2.2.2.2.1, 0)) else (some (0, (⟨#[]⟩ : ByteArray), 0, 0, ji4, bt168.2.2.2.2.2)))) else (if t153.toList = ([] : List UInt8) then (some (0, (⟨#[]⟩ : ByteArray), 0, 0, ji4, 1)) else (some (5, t153, 0, x8_4, wrap64 (x8_4 + (t153.size : Int)), 0)))) = some (r1, r2, r3, r4, r5, r6) := by rw [if_neg (show ¬ (false = true) by decide)] at H; exact H
        clear H; have H := H1; clear H1
        by_cases c41 : (bt a0 x8_4) = 39
        ·rw [if_pos c41] at H
         have c41b0 : ((bt a0 x8_4) == 39) = true := beq_iff_eq.mpr c41; have c41b1 : ((bt a0 x8_4) != 39) = false := bne_eq_false_iff_eq.mpr c41; clear c41; replace H := Option.bind_eq_some_iff.mp H; obtain ⟨⟨t168, t169, t170, t171, t172, t173⟩, A420, H⟩ := H; replace H : (if t173 = 0 then (some (t168, t169, t170, t171, t172, 0)) else (some (0, (⟨#[]⟩ : ByteArray), 0, 0, ji4, t173))) = some (r1, r2, r3, r4, r5, r6) := H; have A42 := am_ A420; clear A420
         by_cases c43 : t173 = 0
         ·rw [if_pos c43] at H
          have c43b0 : (t173 == 0) = true := beq_iff_eq.mpr c43; have c43b1 : (t173 != 0) = false := bne_eq_false_iff_eq.mpr c43; clear c43; simp only [Option.some.injEq, Prod.mk.injEq] at H; obtain ⟨rfl, rfl, rfl, rfl, rfl, rfl⟩ := H
          go_wp2_with (first | ((with_reducible refine gate_callee (f := 146) rfl ?_); refine goesL_ (some 30) rfl rfl Tryd.func146 (by kernel_rfl) rfl #[.string a0, .int .i64 x8_4] rfl (by (try simp only [List.map_toArray, List.map_cons, List.map_nil]); first | done | rfl | (simp only [List.length_drop, List.length_take]; rfl)) ?_; (with_reducible refine (token_Sign.calls kj4 a0 x8_4 t153 _ A12.out).mono ?_); rintro e w44 ⟨rfl, hb⟩; refine ⟨_, rfl, ?_⟩; replace BK151 := am_ (blk_below (bk_ BK151.out) hb); replace HB := am_ (below_step (bl_) hb); (try clear hb); (try clear hb2); (try clear hk); (try clear hi); have p18 : 0 ≤ (x8_4 : Int) := of_decide_eq_true (as_); have q18 : x8_4 < (a0.size : Int) := of_decide_eq_true (as_); have hx18 := bt_at a0 x8_4; replace p18 := eq_true p18; replace q18 := eq_true q18) | ((with_reducible refine gate_callee (f := 147) rfl ?_); refine goesL_ (some 43) rfl rfl Tryd.func147 (by kernel_rfl) rfl #[.int .u8 (bt a0 x8_4)] rfl (by (try simp only [List.map_toArray, List.map_cons, List.map_nil]); first | done | rfl | (simp only [List.length_drop, List.length_take]; rfl)) ?_; (with_reducible refine (token_letter.calls (bt a0 x8_4) false _ A19.out).mono ?_); rintro e w' ⟨rfl, ⟨nd, rfl⟩⟩; refine ⟨_, rfl, ?_⟩; (try (rw [drewN_self w44]; generalize hq_ : World.drewN w44 _ = w44; have n0_ : Aside0 (w44.heap[gb151]? = some (.cells #[.int .i64 0, .string (⟨#[]⟩ : ByteArray), .int .i64 0, .int .i64 0] 142 (0, 0))) := ⟨by rw [← hq_]; exact (bk_ BK151.out)⟩; have n1_ : Aside0 (Below w.heap.size w w44) := ⟨by rw [← hq_]; exact (bl_)⟩; clear BK151 HB hq_; have BK151 := n0_; have HB := n1_; clear n0_ n1_)); have p29 : 0 ≤ (x8_4 : Int) := of_decide_eq_true (as_); have q29 : x8_4 < (a0.size : Int) := of_decide_eq_true (as_); have hx29 := bt_at a0 x8_4; replace p29 := eq_true p29; replace q29 := eq_true q29) | ((with_reducible refine gate_callee (f := 149) rfl ?_); refine goesL_ (some 55) rfl rfl Tryd.func149 (by kernel_rfl) rfl #[.int .u8 (bt a0 x8_4)] rfl (by (try simp only [List.map_toArray, List.map_cons, List.map_nil]); first | done | rfl | (simp only [List.length_drop, List.length_take]; rfl)) ?_; (with_reducible refine (token_digit.calls (bt a0 x8_4) false _ A30.out).mono ?_); rintro e w' ⟨rfl, ⟨nd, rfl⟩⟩; refine ⟨_, rfl, ?_⟩; (try (rw [drewN_self w44]; generalize hq_ : World.drewN w44 _ = w44; have n0_ : Aside0 (w44.heap[gb151]? = some (.cells #[.int .i64 0, .string (⟨#[]⟩ : ByteArray), .int .i64 0, .int .i64 0] 142 (0, 0))) := ⟨by rw [← hq_]; exact (bk_ BK151.out)⟩; have n1_ : Aside0 (Below w.heap.size w w44) := ⟨by rw [← hq_]; exact (bl_)⟩; clear BK151 HB hq_; have BK151 := n0_; have HB := n1_; clear n0_ n1_)); have p40 : 0 ≤ (x8_4 : Int) := of_decide_eq_true (as_); have q40 : x8_4 < (a0.size : Int) := of_decide_eq_true (as_); have hx40 := bt_at a0 x8_4; replace p40 := eq_true p40; replace q40 := eq_true q40) | ((with_reducible refine gate_callee (f := 151) rfl ?_); refine goesL_ (some 71) rfl rfl Tryd.func151 (by kernel_rfl) rfl #[.string a0, .int .i64 x8_4] rfl (by (try simp only [List.map_toArray, List.map_cons, List.map_nil]); first | done | rfl | (simp only [List.length_drop, List.length_take]; rfl)) ?_; (with_reducible refine (token_text.calls kj4 a0 x8_4 t168 t169 t170 t171 t172 t173 _ A42.out).mono ?_); rintro e w45 ⟨rfl, hb⟩; refine ⟨_, rfl, ?_⟩; replace BK151 := am_ (blk_below (bk_ BK151.out) hb); replace HB := am_ (below_step (bl_) hb); (try clear hb); (try clear hb2); (try clear hk); (try clear hi); obtain ⟨hcz46_0, hcz46_1, hcz46_2, hcz46_3, hfz46_0, hfz46_1, hfz46_2, hfz46_3⟩ := bw4_ BK151.out))
          refine bodyPost_ret (results_ctt rfl _ _ gb151 142 #[.int .i64 t168, .string t169, .int .i64 t170, .int .i64 t171] (0, 0) _ rfl (by refine bp_ ?_; refine blk_put (cs := #[.int .i64 t168, .string t169, .int .i64 t170, .int .i64 t171]) ?_ 3 _ rfl; refine bp_ ?_; refine blk_put (cs := #[.int .i64 t168, .string t169, .int .i64 t170, .int .i64 t171]) ?_ 2 _ rfl; refine bp_ ?_; refine blk_put (cs := #[.int .i64 t168, .string t169, .int .i64 t170, .int .i64 t171]) ?_ 1 _ rfl; refine bp_ ?_; refine blk_put (cs := #[.int .i64 t168, .string t169, .int .i64 t170, .int .i64 t171]) ?_ 0 _ rfl; refine bp_ ?_; refine blk_put (cs := #[.int .i64 t168, .string t169, .int .i64 t170, .int .i64 0]) ?_ 3 _ rfl; refine bp_ ?_; refine blk_put (cs := #[.int .i64 t168, .string t169, .int .i64 0, .int .i64 0]) ?_ 2 _ rfl; refine bp_ ?_; refine blk_put (cs := #[.int .i64 t168, .string (⟨#[]⟩ : ByteArray), .int .i64 0, .int .i64 0]) ?_ 1 _ rfl; refine bp_ ?_; refine blk_put (cs := #[.int .i64 0, .string (⟨#[]⟩ : ByteArray), .int .i64 0, .int .i64 0]) ?_ 0 _ rfl; refine bp_ ?_; exact BK151.out) Tryd.underlying142 rfl (by kernel_rfl)) rfl ?_; exact ⟨by first | rfl | (simp [errW_none, errW_some] <;> rfl) | (simp only [← hji3, ← hji4]; first | rfl | (simp [errW_none, errW_some] <;> rfl)) | (simp [*, errW_none, errW_some] <;> rfl), bl_⟩
         ·rw [if_neg c43] at H
          have c43b0 : (t173 == 0) = false := beq_eq_false_iff_ne.mpr c43; have c43b1 : (t173 != 0) = true := bne_iff_ne.mpr c43; simp only [Option.some.injEq, Prod.mk.injEq] at H; obtain ⟨rfl, rfl, rfl, rfl, rfl, rfl⟩ := H
          go_wp2_with (first | ((with_reducible refine gate_callee (f := 146) rfl ?_); refine goesL_ (some 30) rfl rfl Tryd.func146 (by kernel_rfl) rfl #[.string a0, .int .i64 x8_4] rfl (by (try simp only [List.map_toArray, List.map_cons, List.map_nil]); first | done | rfl | (simp only [List.length_drop, List.length_take]; rfl)) ?_; (with_reducible refine (token_Sign.calls kj4 a0 x8_4 t153 _ A12.out).mono ?_); rintro e w47 ⟨rfl, hb⟩; refine ⟨_, rfl, ?_⟩; replace BK151 := am_ (blk_below (bk_ BK151.out) hb); replace HB := am_ (below_step (bl_) hb); (try clear hb); (try clear hb2); (try clear hk); (try clear hi); have p18 : 0 ≤ (x8_4 : Int) := of_decide_eq_true (as_); have q18 : x8_4 < (a0.size : Int) := of_decide_eq_true (as_); have hx18 := bt_at a0 x8_4; replace p18 := eq_true p18; replace q18 := eq_true q18) | ((with_reducible refine gate_callee (f := 147) rfl ?_); refine goesL_ (some 43) rfl rfl Tryd.func147 (by kernel_rfl) rfl #[.int .u8 (bt a0 x8_4)] rfl (by (try simp only [List.map_toArray, List.map_cons, List.map_nil]); first | done | rfl | (simp only [List.length_drop, List.length_take]; rfl)) ?_; (with_reducible refine (token_letter.calls (bt a0 x8_4) false _ A19.out).mono ?_); rintro e w' ⟨rfl, ⟨nd, rfl⟩⟩; refine ⟨_, rfl, ?_⟩; (try (rw [drewN_self w47]; generalize hq_ : World.drewN w47 _ = w47; have n0_ : Aside0 (w47.heap[gb151]? = some (.cells #[.int .i64 0, .string (⟨#[]⟩ : ByteArray), .int .i64 0, .int .i64 0] 142 (0, 0))) := ⟨by rw [← hq_]; exact (bk_ BK151.out)⟩; have n1_ : Aside0 (Below w.heap.size w w47) := ⟨by rw [← hq_]; exact (bl_)⟩; clear BK151 HB hq_; have BK151 := n0_; have HB := n1_; clear n0_ n1_)); have p29 : 0 ≤ (x8_4 : Int) := of_decide_eq_true (as_); have q29 : x8_4 < (a0.size : Int) := of_decide_eq_true (as_); have hx29 := bt_at a0 x8_4; replace p29 := eq_true p29; replace q29 := eq_true q29) | ((with_reducible refine gate_callee (f := 149) rfl ?_); refine goesL_ (some 55) rfl rfl Tryd.func149 (by kernel_rfl) rfl #[.int .u8 (bt a0 x8_4)] rfl (by (try simp only [List.map_toArray, List.map_cons, List.map_nil]); first | done | rfl | (simp only [List.length_drop, List.length_take]; rfl)) ?_; (with_reducible refine (token_digit.calls (bt a0 x8_4) false _ A30.out).mono ?_); rintro e w' ⟨rfl, ⟨nd, rfl⟩⟩; refine ⟨_, rfl, ?_⟩; (try (rw [drewN_self w47]; generalize hq_ : World.drewN w47 _ = w47; have n0_ : Aside0 (w47.heap[gb151]? = some (.cells #[.int .i64 0, .string (⟨#[]⟩ : ByteArray), .int .i64 0, .int .i64 0] 142 (0, 0))) := ⟨by rw [← hq_]; exact (bk_ BK151.out)⟩; have n1_ : Aside0 (Below w.heap.size w w47) := ⟨by rw [← hq_]; exact (bl_)⟩; clear BK151 HB hq_; have BK151 := n0_; have HB := n1_; clear n0_ n1_)); have p40 : 0 ≤ (x8_4 : Int) := of_decide_eq_true (as_); have q40 : x8_4 < (a0.size : Int) := of_decide_eq_true (as_); have hx40 := bt_at a0 x8_4; replace p40 := eq_true p40; replace q40 := eq_true q40) | ((with_reducible refine gate_callee (f := 151) rfl ?_); refine goesL_ (some 71) rfl rfl Tryd.func151 (by kernel_rfl) rfl #[.string a0, .int .i64 x8_4] rfl (by (try simp only [List.map_toArray, List.map_cons, List.map_nil]); first | done | rfl | (simp only [List.length_drop, List.length_take]; rfl)) ?_; (with_reducible refine (token_text.calls kj4 a0 x8_4 t168 t169 t170 t171 t172 t173 _ A42.out).mono ?_); rintro e w48 ⟨rfl, hb⟩; refine ⟨_, rfl, ?_⟩; replace BK151 := am_ (blk_below (bk_ BK151.out) hb); replace HB := am_ (below_step (bl_) hb); (try clear hb); (try clear hb2); (try clear hk); (try clear hi); obtain ⟨hcz49_0, hcz49_1, hcz49_2, hcz49_3, hfz49_0, hfz49_1, hfz49_2, hfz49_3⟩ := bw4_ BK151.out))
          refine bodyPost_ret (results_ctt rfl _ _ gb151 142 #[.int .i64 0, .string (⟨#[]⟩ : ByteArray), .int .i64 0, .int .i64 0] (0, 0) _ rfl (by refine bp_ ?_; refine blk_put (cs := #[.int .i64 0, .string (⟨#[]⟩ : ByteArray), .int .i64 0, .int .i64 t171]) ?_ 3 _ rfl; refine bp_ ?_; refine blk_put (cs := #[.int .i64 0, .string (⟨#[]⟩ : ByteArray), .int .i64 t170, .int .i64 t171]) ?_ 2 _ rfl; refine bp_ ?_; refine blk_put (cs := #[.int .i64 0, .string t169, .int .i64 t170, .int .i64 t171]) ?_ 1 _ rfl; refine bp_ ?_; refine blk_put (cs := #[.int .i64 t168, .string t169, .int .i64 t170, .int .i64 t171]) ?_ 0 _ rfl; refine bp_ ?_; refine blk_put (cs := #[.int .i64 t168, .string t169, .int .i64 t170, .int .i64 0]) ?_ 3 _ rfl; refine bp_ ?_; refine blk_put (cs := #[.int .i64 t168, .string t169, .int .i64 0, .int .i64 0]) ?_ 2 _ rfl; refine bp_ ?_; refine blk_put (cs := #[.int .i64 t168, .string (⟨#[]⟩ : ByteArray), .int .i64 0, .int .i64 0]) ?_ 1 _ rfl; refine bp_ ?_; refine blk_put (cs := #[.int .i64 0, .string (⟨#[]⟩ : ByteArray), .int .i64 0, .int .i64 0]) ?_ 0 _ rfl; refine bp_ ?_; exact BK151.out) Tryd.underlying142 rfl (by kernel_rfl)) rfl ?_; exact ⟨by first | rfl | (simp [errW_none, errW_some] <;> rfl) | (simp only [← hji3, ← hji4]; first | rfl | (simp [errW_none, errW_some] <;> rfl)) | (simp [*, errW_none, errW_some] <;> rfl), bl_⟩
        ·rw [if_neg c41] at H
         have c41b0 : ((bt a0 x8_4) == 39) = false := beq_eq_false_iff_ne.mpr c41; have c41b1 : ((bt a0 x8_4) != 39) = true := bne_iff_ne.mpr c41
         by_cases c50 : t153.toList = ([] : List UInt8)
         ·rw [if_pos c50] at H
          have c50b0 : (t153.toList == ([] : List UInt8)) = true := beq_iff_eq.mpr c50; have c50b1 : (t153.toList != ([] : List UInt8)) = false := bne_eq_false_iff_eq.mpr c50; clear c50; simp only [Option.some.injEq, Prod.mk.injEq] at H; obtain ⟨rfl, rfl, rfl, rfl, rfl, rfl⟩ := H
          go_wp2_with (first | ((with_reducible refine gate_callee (f := 146) rfl ?_); refine goesL_ (some 30) rfl rfl Tryd.func146 (by kernel_rfl) rfl #[.string a0, .int .i64 x8_4] rfl (by (try simp only [List.map_toArray, List.map_cons, List.map_nil]); first | done | rfl | (simp only [List.length_drop, List.length_take]; rfl)) ?_; (with_reducible refine (token_Sign.calls kj4 a0 x8_4 t153 _ A12.out).mono ?_); rintro e w51 ⟨rfl, hb⟩; refine ⟨_, rfl, ?_⟩; replace BK151 := am_ (blk_below (bk_ BK151.out) hb); replace HB := am_ (below_step (bl_) hb); (try clear hb); (try clear hb2); (try clear hk); (try clear hi); have p18 : 0 ≤ (x8_4 : Int) := of_decide_eq_true (as_); have q18 : x8_4 < (a0.size : Int) := of_decide_eq_true (as_); have hx18 := bt_at a0 x8_4; replace p18 := eq_true p18; replace q18 := eq_true q18) | ((with_reducible refine gate_callee (f := 147) rfl ?_); refine goesL_ (some 43) rfl rfl Tryd.func147 (by kernel_rfl) rfl #[.int .u8 (bt a0 x8_4)] rfl (by (try simp only [List.map_toArray, List.map_cons, List.map_nil]); first | done | rfl | (simp only [List.length_drop, List.length_take]; rfl)) ?_; (with_reducible refine (token_letter.calls (bt a0 x8_4) false _ A19.out).mono ?_); rintro e w' ⟨rfl, ⟨nd, rfl⟩⟩; refine ⟨_, rfl, ?_⟩; (try (rw [drewN_self w51]; generalize hq_ : World.drewN w51 _ = w51; have n0_ : Aside0 (w51.heap[gb151]? = some (.cells #[.int .i64 0, .string (⟨#[]⟩ : ByteArray), .int .i64 0, .int .i64 0] 142 (0, 0))) := ⟨by rw [← hq_]; exact (bk_ BK151.out)⟩; have n1_ : Aside0 (Below w.heap.size w w51) := ⟨by rw [← hq_]; exact (bl_)⟩; clear BK151 HB hq_; have BK151 := n0_; have HB := n1_; clear n0_ n1_)); have p29 : 0 ≤ (x8_4 : Int) := of_decide_eq_true (as_); have q29 : x8_4 < (a0.size : Int) := of_decide_eq_true (as_); have hx29 := bt_at a0 x8_4; replace p29 := eq_true p29; replace q29 := eq_true q29) | ((with_reducible refine gate_callee (f := 149) rfl ?_); refine goesL_ (some 55) rfl rfl Tryd.func149 (by kernel_rfl) rfl #[.int .u8 (bt a0 x8_4)] rfl (by (try simp only [List.map_toArray, List.map_cons, List.map_nil]); first | done | rfl | (simp only [List.length_drop, List.length_take]; rfl)) ?_; (with_reducible refine (token_digit.calls (bt a0 x8_4) false _ A30.out).mono ?_); rintro e w' ⟨rfl, ⟨nd, rfl⟩⟩; refine ⟨_, rfl, ?_⟩; (try (rw [drewN_self w51]; generalize hq_ : World.drewN w51 _ = w51; have n0_ : Aside0 (w51.heap[gb151]? = some (.cells #[.int .i64 0, .string (⟨#[]⟩ : ByteArray), .int .i64 0, .int .i64 0] 142 (0, 0))) := ⟨by rw [← hq_]; exact (bk_ BK151.out)⟩; have n1_ : Aside0 (Below w.heap.size w w51) := ⟨by rw [← hq_]; exact (bl_)⟩; clear BK151 HB hq_; have BK151 := n0_; have HB := n1_; clear n0_ n1_)); have p40 : 0 ≤ (x8_4 : Int) := of_decide_eq_true (as_); have q40 : x8_4 < (a0.size : Int) := of_decide_eq_true (as_); have hx40 := bt_at a0 x8_4; replace p40 := eq_true p40; replace q40 := eq_true q40; obtain ⟨hcz52_0, hcz52_1, hcz52_2, hcz52_3, hfz52_0, hfz52_1, hfz52_2, hfz52_3⟩ := bw4_ BK151.out))
          refine bodyPost_ret (results_ctt rfl _ _ gb151 142 #[.int .i64 0, .string (⟨#[]⟩ : ByteArray), .int .i64 0, .int .i64 0] (0, 0) _ rfl (by refine bp_ ?_; refine blk_put (cs := #[.int .i64 0, .string (⟨#[]⟩ : ByteArray), .int .i64 0, .int .i64 0]) ?_ 3 _ rfl; refine bp_ ?_; refine blk_put (cs := #[.int .i64 0, .string (⟨#[]⟩ : ByteArray), .int .i64 0, .int .i64 0]) ?_ 2 _ rfl; refine bp_ ?_; refine blk_put (cs := #[.int .i64 0, .string (⟨#[]⟩ : ByteArray), .int .i64 0, .int .i64 0]) ?_ 1 _ rfl; refine bp_ ?_; refine blk_put (cs := #[.int .i64 0, .string (⟨#[]⟩ : ByteArray), .int .i64 0, .int .i64 0]) ?_ 0 _ rfl; refine bp_ ?_; exact BK151.out) Tryd.underlying142 rfl (by kernel_rfl)) rfl ?_; exact ⟨by first | rfl | (simp [errW_none, errW_some] <;> rfl) | (simp only [← hji3, ← hji4]; first | rfl | (simp [errW_none, errW_some] <;> rfl)) | (simp [*, errW_none, errW_some] <;> rfl), bl_⟩
         ·rw [if_neg c50] at H
          have c50b0 : (t153.toList == ([] : List UInt8)) = false := beq_eq_false_iff_ne.mpr c50; have c50b1 : (t153.toList != ([] : List UInt8)) = true := bne_iff_ne.mpr c50; simp only [Option.some.injEq, Prod.mk.injEq] at H; obtain ⟨rfl, rfl, rfl, rfl, rfl, rfl⟩ := H
          go_wp2_with (first | ((with_reducible refine gate_callee (f := 146) rfl ?_); refine goesL_ (some 30) rfl rfl Tryd.func146 (by kernel_rfl) rfl #[.string a0, .int .i64 x8_4] rfl (by (try simp only [List.map_toArray, List.map_cons, List.map_nil]); first | done | rfl | (simp only [List.length_drop, List.length_take]; rfl)) ?_; (with_reducible refine (token_Sign.calls kj4 a0 x8_4 t153 _ A12.out).mono ?_); rintro e w53 ⟨rfl, hb⟩; refine ⟨_, rfl, ?_⟩; replace BK151 := am_ (blk_below (bk_ BK151.out) hb); replace HB := am_ (below_step (bl_) hb); (try clear hb); (try clear hb2); (try clear hk); (try clear hi); have p18 : 0 ≤ (x8_4 : Int) := of_decide_eq_true (as_); have q18 : x8_4 < (a0.size : Int) := of_decide_eq_true (as_); have hx18 := bt_at a0 x8_4; replace p18 := eq_true p18; replace q18 := eq_true q18) | ((with_reducible refine gate_callee (f := 147) rfl ?_); refine goesL_ (some 43) rfl rfl Tryd.func147 (by kernel_rfl) rfl #[.int .u8 (bt a0 x8_4)] rfl (by (try simp only [List.map_toArray, List.map_cons, List.map_nil]); first | done | rfl | (simp only [List.length_drop, List.length_take]; rfl)) ?_; (with_reducible refine (token_letter.calls (bt a0 x8_4) false _ A19.out).mono ?_); rintro e w' ⟨rfl, ⟨nd, rfl⟩⟩; refine ⟨_, rfl, ?_⟩; (try (rw [drewN_self w53]; generalize hq_ : World.drewN w53 _ = w53; have n0_ : Aside0 (w53.heap[gb151]? = some (.cells #[.int .i64 0, .string (⟨#[]⟩ : ByteArray), .int .i64 0, .int .i64 0] 142 (0, 0))) := ⟨by rw [← hq_]; exact (bk_ BK151.out)⟩; have n1_ : Aside0 (Below w.heap.size w w53) := ⟨by rw [← hq_]; exact (bl_)⟩; clear BK151 HB hq_; have BK151 := n0_; have HB := n1_; clear n0_ n1_)); have p29 : 0 ≤ (x8_4 : Int) := of_decide_eq_true (as_); have q29 : x8_4 < (a0.size : Int) := of_decide_eq_true (as_); have hx29 := bt_at a0 x8_4; replace p29 := eq_true p29; replace q29 := eq_true q29) | ((with_reducible refine gate_callee (f := 149) rfl ?_); refine goesL_ (some 55) rfl rfl Tryd.func149 (by kernel_rfl) rfl #[.int .u8 (bt a0 x8_4)] rfl (by (try simp only [List.map_toArray, List.map_cons, List.map_nil]); first | done | rfl | (simp only [List.length_drop, List.length_take]; rfl)) ?_; (with_reducible refine (token_digit.calls (bt a0 x8_4) false _ A30.out).mono ?_); rintro e w' ⟨rfl, ⟨nd, rfl⟩⟩; refine ⟨_, rfl, ?_⟩; (try (rw [drewN_self w53]; generalize hq_ : World.drewN w53 _ = w53; have n0_ : Aside0 (w53.heap[gb151]? = some (.cells #[.int .i64 0, .string (⟨#[]⟩ : ByteArray), .int .i64 0, .int .i64 0] 142 (0, 0))) := ⟨by rw [← hq_]; exact (bk_ BK151.out)⟩; have n1_ : Aside0 (Below w.heap.size w w53) := ⟨by rw [← hq_]; exact (bl_)⟩; clear BK151 HB hq_; have BK151 := n0_; have HB := n1_; clear n0_ n1_)); have p40 : 0 ≤ (x8_4 : Int) := of_decide_eq_true (as_); have q40 : x8_4 < (a0.size : Int) := of_decide_eq_true (as_); have hx40 := bt_at a0 x8_4; replace p40 := eq_true p40; replace q40 := eq_true q40; obtain ⟨hcz54_0, hcz54_1, hcz54_2, hcz54_3, hfz54_0, hfz54_1, hfz54_2, hfz54_3⟩ := bw4_ BK151.out))
          refine bodyPost_ret (results_ctt rfl _ _ gb151 142 #[.int .i64 5, .string t153, .int .i64 0, .int .i64 x8_4] (0, 0) _ rfl (by refine bp_ ?_; refine blk_put (cs := #[.int .i64 5, .string t153, .int .i64 0, .int .i64 0]) ?_ 3 _ rfl; refine bp_ ?_; refine blk_put (cs := #[.int .i64 5, .string t153, .int .i64 0, .int .i64 0]) ?_ 2 _ rfl; refine bp_ ?_; refine blk_put (cs := #[.int .i64 5, .string (⟨#[]⟩ : ByteArray), .int .i64 0, .int .i64 0]) ?_ 1 _ rfl; refine bp_ ?_; refine blk_put (cs := #[.int .i64 0, .string (⟨#[]⟩ : ByteArray), .int .i64 0, .int .i64 0]) ?_ 0 _ rfl; refine bp_ ?_; exact BK151.out) Tryd.underlying142 rfl (by kernel_rfl)) rfl ?_; exact ⟨by first | rfl | (simp [errW_none, errW_some] <;> rfl) | (simp only [← hji3, ← hji4]; first | rfl | (simp [errW_none, errW_some] <;> rfl)) | (simp [*, errW_none, errW_some] <;> rfl), bl_⟩
     ·rw [if_neg c17] at H
      exact absurd H (by simp)
    ·rw [if_neg c16] at H
     exact absurd H (by simp)
def token_All.l0 : Nat → ByteArray → List (S142) → Int → Option ((List (S142)) × Int)
 | 0, _, _, _ => none
 | k + 1, x0, x4, x5 => if (x4.length : Int) < 1000 then ((token_One.f k x0 x5).bind fun bt174 => (if bt174.2.2.2.2.2 = 0 then (if x4.length < 3518437208883 then ((some (x4 ++ [(⟨bt174.1, bt174.2.1, bt174.2.2.1, bt174.2.2.2.1⟩ : S142)] : List (S142))).bind fun y181 => (if bt174.1 = 0 then (some (y181, 0)) else (token_All.l0 k x0 y181 bt174.2.2.2.2.1))) else (none)) else (some (([] : List (S142)), bt174.2.2.2.2.2)))) else (some (([] : List (S142)), 4))
def token_All.f (k : Nat) (a0 : ByteArray) : Option ((List (S142)) × Int) := token_All.l0 k a0 ([] : List (S142)) 0
theorem token_All.mono_l : ∀ k, (∀ y0 y1 y2, LeO (token_All.l0 k y0 y1 y2) (token_All.l0 (k + 1) y0 y1 y2))
 | 0 => fun _ _ _ r h => by simp [token_All.l0] at h
 | k + 1 => by
  have ih0 := token_All.mono_l k
  ·intro y0 y1 y2
   unfold token_All.l0
   repeat' first
   | (with_reducible exact ih0 _ _ _)
   | (with_reducible exact token_One.mono _ _ _)
   | (with_reducible exact LeO.refl _)
   | (with_reducible exact LeO.none _)
   | (with_reducible refine LeO.ite ?_ ?_)
   | (with_reducible refine LeO.bind ?_ (fun _ => ?_))
   | exact ih0 _ _ _
   | exact token_One.mono _ _ _
   | exact LeO.none _
   | refine LeO.ite ?_ ?_
   | refine LeO.bind ?_ (fun _ => ?_)
theorem token_All.mono : ∀ a0 k, LeO (token_All.f k a0) (token_All.f (k + 1) a0) := by
 intro a0 k; have ih0 := token_All.mono_l k; unfold token_All.f
 repeat' first
   | (with_reducible exact ih0 _ _ _)
   | (with_reducible exact token_One.mono _ _ _)
   | (with_reducible exact LeO.refl _)
   | (with_reducible exact LeO.none _)
   | (with_reducible refine LeO.ite ?_ ?_)
   | (with_reducible refine LeO.bind ?_ (fun _ => ?_))
   | exact ih0 _ _ _
   | exact token_One.mono _ _ _
   | exact LeO.none _
   | refine LeO.ite ?_ ?_
   | refine LeO.bind ?_ (fun _ => ?_)
theorem token_All.calls (k : Nat) (a0 : ByteArray) (r1 : List (S142)) (r2 : Int) (w : World) (h : token_All.f k a0 = some (r1, r2)) :
  Calls Tryd.prog 101 #[.string a0] w fun e w' => ∃ v0_ : Value, e = .returned (.tuple #[v0_, .int .i64 r2]) ∧ Kd.R k142 142 w' w.heap.size (fun _ => True) v0_ r1 ∧ Below w.heap.size w w' := by
 have hu142 := Tryd.underlying142; have HB := am_ (Below.refl w.heap.size w); have H : (token_All.l0 k a0 ([] : List (S142)) 0) = some (r1, r2) := h; clear h; have H' := am_ H; clear H
 go_enter Tryd.func101, Tryd.ntmps101
 go_wp2
 go_loopg [4, 5] k (fun kq v4 v5 w' => ∃ (x4_1 : List (S142)) (x5_1 : Int), v5 = .int .i64 x5_1 ∧ Aside0 (token_All.l0 kq a0 x4_1 x5_1 = some (r1, r2)) ∧ Aside0 (kq ≤ k) ∧ Aside0 (Kd.R k142 142 w' w.heap.size (fun _ => True) v4 x4_1) ∧ Aside0 (Below w.heap.size w w'))
 case atStart => exact ⟨(([] : List (S142))), (0), (rs_), H', ⟨Nat.le_refl _⟩, ⟨by first | exact Kd.R_nil _ _ _ _ _ | exact Kd.N_nil _ _ _ _ _ | exact Kd.V_nil _ _ _ _ _ | exact Kd.Q_nil _ _ _ _ _ | exact Kd.S_nil _ _ _ _ _⟩, ⟨bl_⟩⟩
 case round =>
  clear H'; (try clear c1); obtain ⟨x4_1, x5_1, rfl, HA, HK1, HO_4, HB⟩ := hrel
  cases gk with
  | zero => exact absurd HA.out (by simp [token_All.l0])
  | succ k1 =>
   have H := HA.out; clear HA; simp only [token_All.l0] at H
   by_cases c2 : (x4_1.length : Int) < 1000
   ·rw [if_pos c2] at H
    have c2b0 : decide ((x4_1.length : Int) < 1000) = true := decide_eq_true c2; have c2b1 : decide (x4_1.length < 1000) = true := decide_eq_true (by omega); clear c2; replace H := Option.bind_eq_some_iff.mp H; obtain ⟨⟨t174, t175, t176, t177, t178, t179⟩, A30, H⟩ := H; replace H : (if t179 = 0 then (if x4_1.length < 3518437208883 then ((some (x4_1 ++ [(⟨t174, t175, t176, t177⟩ : S142)] : List (S142))).bind fun y181 => (if t174 = 0 then (some (y181, 0)) else (token_All.l0 k1 a0 y181 t178))) else (none)) else (some (([] : List (S142)), t179))) = some (r1, r2) := H; have A3 := am_ A30; clear A30
    by_cases c4 : t179 = 0
    ·rw [if_pos c4] at H
     have c4b0 : (t179 == 0) = true := beq_iff_eq.mpr c4; have c4b1 : (t179 != 0) = false := bne_eq_false_iff_eq.mpr c4; clear c4
     by_cases c5 : x4_1.length < 3518437208883
     ·rw [if_pos c5] at H
      have LMc5 := am_ c5; clear c5
      obtain ⟨y181, hy181⟩ : ∃ y_ : List (S142), y_ = (x4_1 ++ [(⟨t174, t175, t176, t177⟩ : S142)]) := ⟨_, rfl⟩
      replace H : (if t174 = 0 then (some (y181, 0)) else (token_All.l0 k1 a0 y181 t178)) = some (r1, r2) := by first | (rw [hy181]; with_reducible exact H) | (have H2_ := (Option.bind_some _ _).symm.trans H; rw [hy181]; with_reducible exact H2_) | (have H2_ := (Option.bind_some _ _).symm.trans H; with_reducible exact H2_) | with_reducible exact H | (rw [hy181]; exact H) | exact H
      have Ny181 := am_ hy181; clear hy181
      by_cases c6 : t174 = 0
      ·rw [if_pos c6] at H
       have c6b0 : (t174 == 0) = true := beq_iff_eq.mpr c6; have c6b1 : (t174 != 0) = false := bne_eq_false_iff_eq.mpr c6; clear c6; simp only [Option.some.injEq, Prod.mk.injEq] at H; obtain ⟨rfl, rfl⟩ := H; obtain ⟨Ao7, co7, eo7⟩ := Kd.R_slice HO_4.out; subst eo7
       go_wp2_with (first | ((with_reducible refine gate_callee (f := 129) rfl ?_); refine goesL_ (some 15) rfl rfl Tryd.func129 (by kernel_rfl) rfl #[.string a0, .int .i64 x5_1] rfl (by (try simp only [List.map_toArray, List.map_cons, List.map_nil]); first | done | rfl | (simp only [List.length_drop, List.length_take]; rfl)) ?_; (with_reducible refine (token_One.calls k1 a0 x5_1 t174 t175 t176 t177 t178 t179 _ A3.out).mono ?_); rintro e w8 ⟨rfl, hb⟩; refine ⟨_, rfl, ?_⟩; replace HO_4 := am_ (Kd.R_below (kr_ HO_4.out) hb); replace HB := am_ (below_step (bl_) hb); (try clear hb); (try clear hb2); (try clear hk); (try clear hi)) | ((with_reducible refine gate_dst (N := 6) rfl ?_); refine box_event ?hg (N := 6) ?hd (cs := #[.int .i64 0, .string (⟨#[]⟩ : ByteArray), .int .i64 0, .int .i64 0]) (t := 142) ?hr ?_; (case hd => rfl); (case hg => rfl); (case hr => first | (go_simp; done) | (go_simp; rfl)); intro gb180 hg w9 hbox hb; replace HO_4 := am_ (Kd.R_below (Kd.R_elderB (kr_ HO_4.out) gb180 (Nat.le_of_eq hg.symm)) hb); have BK180 := am_ (hbox); have GW180 := am_ ((by rw [hg]; exact (below_size (bl_)) : w.heap.size ≤ gb180)); have GE180 := am_ ((by rw [hg]; exact (below_size (bl_)) : w.heap.size ≤ gb180)); replace HB := am_ (below_step (bl_) hb); clear hb hbox hg; obtain ⟨hcz10_0, hcz10_1, hcz10_2, hcz10_3, hfz10_0, hfz10_1, hfz10_2, hfz10_3⟩ := bw4_ BK180.out) | ((with_reducible refine gate_builtin (b := .append) (xs := #[.tmp 22, .tmp 24]) rfl ?_); at_builtin; refine Kd.R_append k142 (w0 := w) w.heap.size rfl (.tmp 22) (.tmp 24) 82 142 (.agg #[(.int .i64 0), (.string ⟨#[]⟩), (.int .i64 0), (.int .i64 0)]) 40 rfl Tryd.underlying82 info142 rfl (by decide) (by omega) (.slice Ao7 x4_1.length co7) x4_1 (⟨t174, t175, t176, t177⟩ : S142) [.int .i64 t174, .string t175, .int .i64 t176, .int .i64 t177] (fun k_ => k_ ≠ gb180) (fun _ => False) rfl (by first | (go_simp; done) | (go_simp; rfl)) ?aP (fun _ hk => hk.elim) ?aF ?aO ?aB ?aS ?aL ?_; (case aP => exact k142_mkM _ _ _ (⟨t174, t175, t176, t177⟩ : S142)); (case aB => exact (bl_)); (case aF => exact (fun k_ hk => Kd.freshB (g := gb180) (o := .cells #[.int .i64 t174, .string t175, .int .i64 t176, .int .i64 t177] 142 (0, 0)) (by refine bp_ ?_; refine blk_put (cs := #[.int .i64 t174, .string t175, .int .i64 t176, .int .i64 0]) ?_ 3 _ rfl; refine bp_ ?_; refine blk_put (cs := #[.int .i64 t174, .string t175, .int .i64 0, .int .i64 0]) ?_ 2 _ rfl; refine bp_ ?_; refine blk_put (cs := #[.int .i64 t174, .string (⟨#[]⟩ : ByteArray), .int .i64 0, .int .i64 0]) ?_ 1 _ rfl; refine bp_ ?_; refine blk_put (cs := #[.int .i64 0, .string (⟨#[]⟩ : ByteArray), .int .i64 0, .int .i64 0]) ?_ 0 _ rfl; refine bp_ ?_; exact BK180.out) k_ hk)); (case aO => exact (by (with_reducible repeat (first | apply Kd.R_alloc | apply Kd.R_drewN | apply Kd.R_drew)); exact Kd.R_mono (fr_ gb180 3 (fr_ gb180 2 (fr_ gb180 1 (fr_ gb180 0 (Kd.R_mono HO_4.out (fun k_ hk => (⟨hk, hk.2⟩ : _ ∧ k_ ≠ gb180))) (fun _ hk => hk.2) (.int .i64 t174)) (fun _ hk => hk.2) (.string t175)) (fun _ hk => hk.2) (.int .i64 t176)) (fun _ hk => hk.2) (.int .i64 t177)) (fun _ hk => hk.1.2))); (case aS => exact (below_size (bl_))); (case aL => have := LMc5.out; omega); intro v182 w11 ho hb hg hat; rw [← Ny181.out] at ho; replace BK180 := am_ (blk_grown (g := gb180) (o := .cells #[.int .i64 t174, .string t175, .int .i64 t176, .int .i64 t177] 142 (0, 0)) (by refine bp_ ?_; refine blk_put (cs := #[.int .i64 t174, .string t175, .int .i64 t176, .int .i64 0]) ?_ 3 _ rfl; refine bp_ ?_; refine blk_put (cs := #[.int .i64 t174, .string t175, .int .i64 0, .int .i64 0]) ?_ 2 _ rfl; refine bp_ ?_; refine blk_put (cs := #[.int .i64 t174, .string (⟨#[]⟩ : ByteArray), .int .i64 0, .int .i64 0]) ?_ 1 _ rfl; refine bp_ ?_; refine blk_put (cs := #[.int .i64 0, .string (⟨#[]⟩ : ByteArray), .int .i64 0, .int .i64 0]) ?_ 0 _ rfl; refine bp_ ?_; exact BK180.out) hg (Kd.R_away HO_4.out (fun _ hk => hk.2))); have HO183 := am_ (ho); replace HB := am_ (hb); clear HO_4; clear ho hb hg hat; obtain ⟨hcz12_0, hcz12_1, hcz12_2, hcz12_3, hfz12_0, hfz12_1, hfz12_2, hfz12_3⟩ := bw4_ BK180.out))
       go_ret2
       exact ⟨_, ew_, by (with_reducible repeat (first | apply Kd.R_alloc | apply Kd.R_drewN | apply Kd.R_drew)); exact Kd.R_mono HO183.out (fun _ hk => trivial), bl_⟩
      ·rw [if_neg c6] at H
       have c6b0 : (t174 == 0) = false := beq_eq_false_iff_ne.mpr c6; have c6b1 : (t174 != 0) = true := bne_iff_ne.mpr c6; have H' := am_ H; clear H; obtain ⟨Ao13, co13, eo13⟩ := Kd.R_slice HO_4.out; subst eo13
       go_wp2_with (first | ((with_reducible refine gate_callee (f := 129) rfl ?_); refine goesL_ (some 15) rfl rfl Tryd.func129 (by kernel_rfl) rfl #[.string a0, .int .i64 x5_1] rfl (by (try simp only [List.map_toArray, List.map_cons, List.map_nil]); first | done | rfl | (simp only [List.length_drop, List.length_take]; rfl)) ?_; (with_reducible refine (token_One.calls k1 a0 x5_1 t174 t175 t176 t177 t178 t179 _ A3.out).mono ?_); rintro e w14 ⟨rfl, hb⟩; refine ⟨_, rfl, ?_⟩; replace HO_4 := am_ (Kd.R_below (kr_ HO_4.out) hb); replace HB := am_ (below_step (bl_) hb); (try clear hb); (try clear hb2); (try clear hk); (try clear hi)) | ((with_reducible refine gate_dst (N := 6) rfl ?_); refine box_event ?hg (N := 6) ?hd (cs := #[.int .i64 0, .string (⟨#[]⟩ : ByteArray), .int .i64 0, .int .i64 0]) (t := 142) ?hr ?_; (case hd => rfl); (case hg => rfl); (case hr => first | (go_simp; done) | (go_simp; rfl)); intro gb180 hg w15 hbox hb; replace HO_4 := am_ (Kd.R_below (Kd.R_elderB (kr_ HO_4.out) gb180 (Nat.le_of_eq hg.symm)) hb); have BK180 := am_ (hbox); have GW180 := am_ ((by rw [hg]; exact (below_size (bl_)) : w.heap.size ≤ gb180)); have GE180 := am_ ((by rw [hg]; exact (below_size (bl_)) : w.heap.size ≤ gb180)); replace HB := am_ (below_step (bl_) hb); clear hb hbox hg; obtain ⟨hcz16_0, hcz16_1, hcz16_2, hcz16_3, hfz16_0, hfz16_1, hfz16_2, hfz16_3⟩ := bw4_ BK180.out) | ((with_reducible refine gate_builtin (b := .append) (xs := #[.tmp 22, .tmp 24]) rfl ?_); at_builtin; refine Kd.R_append k142 (w0 := w) w.heap.size rfl (.tmp 22) (.tmp 24) 82 142 (.agg #[(.int .i64 0), (.string ⟨#[]⟩), (.int .i64 0), (.int .i64 0)]) 40 rfl Tryd.underlying82 info142 rfl (by decide) (by omega) (.slice Ao13 x4_1.length co13) x4_1 (⟨t174, t175, t176, t177⟩ : S142) [.int .i64 t174, .string t175, .int .i64 t176, .int .i64 t177] (fun k_ => k_ ≠ gb180) (fun _ => False) rfl (by first | (go_simp; done) | (go_simp; rfl)) ?aP (fun _ hk => hk.elim) ?aF ?aO ?aB ?aS ?aL ?_; (case aP => exact k142_mkM _ _ _ (⟨t174, t175, t176, t177⟩ : S142)); (case aB => exact (bl_)); (case aF => exact (fun k_ hk => Kd.freshB (g := gb180) (o := .cells #[.int .i64 t174, .string t175, .int .i64 t176, .int .i64 t177] 142 (0, 0)) (by refine bp_ ?_; refine blk_put (cs := #[.int .i64 t174, .string t175, .int .i64 t176, .int .i64 0]) ?_ 3 _ rfl; refine bp_ ?_; refine blk_put (cs := #[.int .i64 t174, .string t175, .int .i64 0, .int .i64 0]) ?_ 2 _ rfl; refine bp_ ?_; refine blk_put (cs := #[.int .i64 t174, .string (⟨#[]⟩ : ByteArray), .int .i64 0, .int .i64 0]) ?_ 1 _ rfl; refine bp_ ?_; refine blk_put (cs := #[.int .i64 0, .string (⟨#[]⟩ : ByteArray), .int .i64 0, .int .i64 0]) ?_ 0 _ rfl; refine bp_ ?_; exact BK180.out) k_ hk)); (case aO => exact (by (with_reducible repeat (first | apply Kd.R_alloc | apply Kd.R_drewN | apply Kd.R_drew)); exact Kd.R_mono (fr_ gb180 3 (fr_ gb180 2 (fr_ gb180 1 (fr_ gb180 0 (Kd.R_mono HO_4.out (fun k_ hk => (⟨hk, hk.2⟩ : _ ∧ k_ ≠ gb180))) (fun _ hk => hk.2) (.int .i64 t174)) (fun _ hk => hk.2) (.string t175)) (fun _ hk => hk.2) (.int .i64 t176)) (fun _ hk => hk.2) (.int .i64 t177)) (fun _ hk => hk.1.2))); (case aS => exact (below_size (bl_))); (case aL => have := LMc5.out; omega); intro v182 w17 ho hb hg hat; rw [← Ny181.out] at ho; replace BK180 := am_ (blk_grown (g := gb180) (o := .cells #[.int .i64 t174, .string t175, .int .i64 t176, .int .i64 t177] 142 (0, 0)) (by refine bp_ ?_; refine blk_put (cs := #[.int .i64 t174, .string t175, .int .i64 t176, .int .i64 0]) ?_ 3 _ rfl; refine bp_ ?_; refine blk_put (cs := #[.int .i64 t174, .string t175, .int .i64 0, .int .i64 0]) ?_ 2 _ rfl; refine bp_ ?_; refine blk_put (cs := #[.int .i64 t174, .string (⟨#[]⟩ : ByteArray), .int .i64 0, .int .i64 0]) ?_ 1 _ rfl; refine bp_ ?_; refine blk_put (cs := #[.int .i64 0, .string (⟨#[]⟩ : ByteArray), .int .i64 0, .int .i64 0]) ?_ 0 _ rfl; refine bp_ ?_; exact BK180.out) hg (Kd.R_away HO_4.out (fun _ hk => hk.2))); have HO183 := am_ (ho); replace HB := am_ (hb); clear HO_4; clear ho hb hg hat; obtain ⟨hcz18_0, hcz18_1, hcz18_2, hcz18_3, hfz18_0, hfz18_1, hfz18_2, hfz18_3⟩ := bw4_ BK180.out))
       go_roundg k1
       case measure => have := HK1.out; omega
       case rel => exact ⟨(y181), (t178), (rs_), H', ⟨by have := HK1.out; omega⟩, ⟨by (with_reducible repeat (first | apply Kd.R_alloc | apply Kd.R_drewN | apply Kd.R_drew)); exact Kd.R_mono HO183.out (fun _ hk => trivial)⟩, ⟨bl_⟩⟩
     ·rw [if_neg c5] at H
      exact absurd H (by simp)
    ·rw [if_neg c4] at H
     have c4b0 : (t179 == 0) = false := beq_eq_false_iff_ne.mpr c4; have c4b1 : (t179 != 0) = true := bne_iff_ne.mpr c4; simp only [Option.some.injEq, Prod.mk.injEq] at H; obtain ⟨rfl, rfl⟩ := H; obtain ⟨Ao19, co19, eo19⟩ := Kd.R_slice HO_4.out; subst eo19
     go_wp2_with (first | ((with_reducible refine gate_callee (f := 129) rfl ?_); refine goesL_ (some 15) rfl rfl Tryd.func129 (by kernel_rfl) rfl #[.string a0, .int .i64 x5_1] rfl (by (try simp only [List.map_toArray, List.map_cons, List.map_nil]); first | done | rfl | (simp only [List.length_drop, List.length_take]; rfl)) ?_; (with_reducible refine (token_One.calls k1 a0 x5_1 t174 t175 t176 t177 t178 t179 _ A3.out).mono ?_); rintro e w20 ⟨rfl, hb⟩; refine ⟨_, rfl, ?_⟩; replace HO_4 := am_ (Kd.R_below (kr_ HO_4.out) hb); replace HB := am_ (below_step (bl_) hb); (try clear hb); (try clear hb2); (try clear hk); (try clear hi)) | ((with_reducible refine gate_dst (N := 6) rfl ?_); refine box_event ?hg (N := 6) ?hd (cs := #[.int .i64 0, .string (⟨#[]⟩ : ByteArray), .int .i64 0, .int .i64 0]) (t := 142) ?hr ?_; (case hd => rfl); (case hg => rfl); (case hr => first | (go_simp; done) | (go_simp; rfl)); intro gb180 hg w21 hbox hb; replace HO_4 := am_ (Kd.R_below (Kd.R_elderB (kr_ HO_4.out) gb180 (Nat.le_of_eq hg.symm)) hb); have BK180 := am_ (hbox); have GW180 := am_ ((by rw [hg]; exact (below_size (bl_)) : w.heap.size ≤ gb180)); have GE180 := am_ ((by rw [hg]; exact (below_size (bl_)) : w.heap.size ≤ gb180)); replace HB := am_ (below_step (bl_) hb); clear hb hbox hg; obtain ⟨hcz22_0, hcz22_1, hcz22_2, hcz22_3, hfz22_0, hfz22_1, hfz22_2, hfz22_3⟩ := bw4_ BK180.out))
     go_ret2
     exact ⟨_, ew_, by first | exact Kd.R_nil _ _ _ _ _ | exact Kd.N_nil _ _ _ _ _ | exact Kd.V_nil _ _ _ _ _ | exact Kd.Q_nil _ _ _ _ _ | exact Kd.S_nil _ _ _ _ _, bl_⟩
   ·rw [if_neg c2] at H
    have c2b0 : decide ((x4_1.length : Int) < 1000) = false := decide_eq_false c2; have c2b1 : decide (x4_1.length < 1000) = false := decide_eq_false (by omega); clear c2; simp only [Option.some.injEq, Prod.mk.injEq] at H; obtain ⟨rfl, rfl⟩ := H; obtain ⟨Ao23, co23, eo23⟩ := Kd.R_slice HO_4.out; subst eo23
    go_wp2
    go_ret2
    exact ⟨_, ew_, by first | exact Kd.R_nil _ _ _ _ _ | exact Kd.N_nil _ _ _ _ _ | exact Kd.V_nil _ _ _ _ _ | exact Kd.Q_nil _ _ _ _ _ | exact Kd.S_nil _ _ _ _ _, bl_⟩
def IsS84 (w0 W : World) (g : Nat) (f0 : List (S142)) (f1 : Int) (f2 : Int) (f3 : Int) : Prop := ∃ A0 c0, W.heap[g]? = some (.cells #[.slice A0 f0.length c0, .int .i64 f1, .int .i64 f2, .int .i64 f3] 84 (0, 0)) ∧ w0.heap.size ≤ g ∧ Kd.C k142 w0 A0 f0.length f0
theorem IsS84.grown {w0 W : World} {g : Nat} {f0 : List (S142)} {f1 : Int} {f2 : Int} {f3 : Int} {W1 : World} {row : Option Nat} (h : IsS84 w0 W g f0 f1 f2 f3) (hw : W.grownBy W1 row) (hne : some g ≠ row) : IsS84 w0 W1 g f0 f1 f2 f3 := by
 obtain ⟨A0, c0, hb, hg, hr0⟩ := h; exact ⟨A0, c0, blk_grown hb hw hne, hg, hr0⟩
theorem IsS84.fresh {w0 W : World} {g : Nat} {f0 : List (S142)} {f1 : Int} {f2 : Int} {f3 : Int} (h : IsS84 w0 W g f0 f1 f2 f3) : ∀ k, W.heap.size ≤ k → k ≠ g := by
 obtain ⟨A0, c0, hb, hg, hr0⟩ := h; exact Kd.freshB hb
theorem IsS84.kept {w0 W : World} {g : Nat} {f0 : List (S142)} {f1 : Int} {f2 : Int} {f3 : Int} {W1 : World} {S : Nat → Prop} (h : IsS84 w0 W g f0 f1 f2 f3) (hk : Kept W W1 S) (hne : ¬ S g) : IsS84 w0 W1 g f0 f1 f2 f3 := by
 obtain ⟨A0, c0, hb, hg, hr0⟩ := h; exact ⟨A0, c0, blk_kept hb hk hne, hg, hr0⟩
theorem IsS84.below {w0 W : World} {g : Nat} {f0 : List (S142)} {f1 : Int} {f2 : Int} {f3 : Int} {W1 : World} (h : IsS84 w0 W g f0 f1 f2 f3) (hw : Below W.heap.size W W1) : IsS84 w0 W1 g f0 f1 f2 f3 := h.grown (grown_of_below hw none) (by simp)
theorem IsS84.alloc {w0 W : World} {g : Nat} {f0 : List (S142)} {f1 : Int} {f2 : Int} {f3 : Int} (h : IsS84 w0 W g f0 f1 f2 f3) (o : Obj) : IsS84 w0 (W.alloc o) g f0 f1 f2 f3 := h.below (below_alloc (Below.refl _ _) o)
theorem IsS84.drewN {w0 W : World} {g : Nat} {f0 : List (S142)} {f1 : Int} {f2 : Int} {f3 : Int} (h : IsS84 w0 W g f0 f1 f2 f3) (m : Nat) : IsS84 w0 (W.drewN m) g f0 f1 f2 f3 := h
theorem IsS84.drew {w0 W : World} {g : Nat} {f0 : List (S142)} {f1 : Int} {f2 : Int} {f3 : Int} (h : IsS84 w0 W g f0 f1 f2 f3) : IsS84 w0 W.drew g f0 f1 f2 f3 := h
theorem IsS84.at_ {w0 W : World} {g : Nat} {f0 : List (S142)} {f1 : Int} {f2 : Int} {f3 : Int} {w' : World} {m : Nat} (hq : W.drewN m = w') (h : IsS84 w0 W g f0 f1 f2 f3) : IsS84 w0 w' g f0 f1 f2 f3 := by subst hq; exact IsS84.drewN h m
theorem IsS84.apart {w0 W : World} {g : Nat} {f0 : List (S142)} {f1 : Int} {f2 : Int} {f3 : Int} {α : Type} {d : Kd α} {e : Nat} {base : Nat} {ok : Nat → Prop} {v : Value} {xs : List α} (h : IsS84 w0 W g f0 f1 f2 f3) (ho : d.R e W base ok v xs) (ht : ∀ q, q ∈ e :: d.E → q ≠ 84) : d.R e W base (fun k => ok k ∧ k ≠ g) v xs := by
 obtain ⟨A0, c0, hb, hg, hr0⟩ := h; exact Kd.R_types ho hb ht
theorem IsS84.own_ne {w0 W : World} {g : Nat} {f0 : List (S142)} {f1 : Int} {f2 : Int} {f3 : Int} {α : Type} {d : Kd α} {e : Nat} {base : Nat} {ok : Nat → Prop} {v : Value} {xs : List α} (h : IsS84 w0 W g f0 f1 f2 f3) (ho : d.R e W base ok v xs) (ht : e ≠ 84) : some g ≠ v.ownBlock := by
 obtain ⟨A0, c0, hb, hg, hr0⟩ := h; exact Kd.R_ne ho hb ht
theorem IsS84.lt {w0 W : World} {g : Nat} {f0 : List (S142)} {f1 : Int} {f2 : Int} {f3 : Int} (h : IsS84 w0 W g f0 f1 f2 f3) : g < W.heap.size := by
 obtain ⟨A0, c0, hb, hg, hr0⟩ := h; exact blk_lt hb
theorem IsS84.ge {w0 W : World} {g : Nat} {f0 : List (S142)} {f1 : Int} {f2 : Int} {f3 : Int} (h : IsS84 w0 W g f0 f1 f2 f3) : w0.heap.size ≤ g := by
 obtain ⟨A0, c0, hb, hg, hr0⟩ := h; exact hg
theorem IsS84.far {w0 W : World} {g : Nat} {f0 : List (S142)} {f1 : Int} {f2 : Int} {f3 : Int} {p : Addr} (h : IsS84 w0 W g f0 f1 f2 f3) (hne : g ≠ p.block) (u : Value) : IsS84 w0 (W.setCell p u) g f0 f1 f2 f3 := by
 obtain ⟨A0, c0, hb, hg, hr0⟩ := h; exact ⟨A0, c0, blk_far hb hne u, hg, hr0⟩
theorem cellS84_0 {W : World} {g : Nat} {A0 : Option Addr} {c0 : Nat} {f0 : List (S142)} {f1 : Int} {f2 : Int} {f3 : Int} (h : W.heap[g]? = some (.cells #[.slice A0 f0.length c0, .int .i64 f1, .int .i64 f2, .int .i64 f3] 84 (0, 0))) : W.cell? ⟨g, 0, none⟩ = some (.slice A0 f0.length c0) := (blk_cell h 0).trans rfl
theorem cellS84_1 {W : World} {g : Nat} {A0 : Option Addr} {c0 : Nat} {f0 : List (S142)} {f1 : Int} {f2 : Int} {f3 : Int} (h : W.heap[g]? = some (.cells #[.slice A0 f0.length c0, .int .i64 f1, .int .i64 f2, .int .i64 f3] 84 (0, 0))) : W.cell? ⟨g, 1, none⟩ = some (.int .i64 f1) := (blk_cell h 1).trans rfl
theorem IsS84.set_1 {w0 W : World} {g : Nat} {f0 : List (S142)} {f1 : Int} {f2 : Int} {f3 : Int} (h : IsS84 w0 W g f0 f1 f2 f3) (x : Int) : IsS84 w0 (W.setCell ⟨g, 1, none⟩ (.int .i64 x)) g f0 x f2 f3 := by
 obtain ⟨A0, c0, hb, hg, hr0⟩ := h; exact ⟨A0, c0, by simpa using blk_set hb 1 (.int .i64 x), hg, hr0⟩
theorem cellS84_2 {W : World} {g : Nat} {A0 : Option Addr} {c0 : Nat} {f0 : List (S142)} {f1 : Int} {f2 : Int} {f3 : Int} (h : W.heap[g]? = some (.cells #[.slice A0 f0.length c0, .int .i64 f1, .int .i64 f2, .int .i64 f3] 84 (0, 0))) : W.cell? ⟨g, 2, none⟩ = some (.int .i64 f2) := (blk_cell h 2).trans rfl
theorem IsS84.set_2 {w0 W : World} {g : Nat} {f0 : List (S142)} {f1 : Int} {f2 : Int} {f3 : Int} (h : IsS84 w0 W g f0 f1 f2 f3) (x : Int) : IsS84 w0 (W.setCell ⟨g, 2, none⟩ (.int .i64 x)) g f0 f1 x f3 := by
 obtain ⟨A0, c0, hb, hg, hr0⟩ := h; exact ⟨A0, c0, by simpa using blk_set hb 2 (.int .i64 x), hg, hr0⟩
theorem cellS84_3 {W : World} {g : Nat} {A0 : Option Addr} {c0 : Nat} {f0 : List (S142)} {f1 : Int} {f2 : Int} {f3 : Int} (h : W.heap[g]? = some (.cells #[.slice A0 f0.length c0, .int .i64 f1, .int .i64 f2, .int .i64 f3] 84 (0, 0))) : W.cell? ⟨g, 3, none⟩ = some (.int .i64 f3) := (blk_cell h 3).trans rfl
theorem IsS84.set_3 {w0 W : World} {g : Nat} {f0 : List (S142)} {f1 : Int} {f2 : Int} {f3 : Int} (h : IsS84 w0 W g f0 f1 f2 f3) (x : Int) : IsS84 w0 (W.setCell ⟨g, 3, none⟩ (.int .i64 x)) g f0 f1 f2 x := by
 obtain ⟨A0, c0, hb, hg, hr0⟩ := h; exact ⟨A0, c0, by simpa using blk_set hb 3 (.int .i64 x), hg, hr0⟩
theorem IsS84.new (w0 W : World) (A0 : Option Addr) (c0 : Nat) (f0 : List (S142)) (f1 : Int) (f2 : Int) (f3 : Int) (hB : Below w0.heap.size w0 W) (hr0 : Kd.C k142 w0 A0 f0.length f0) : IsS84 w0 (W.alloc (.cells #[.slice A0 f0.length c0, .int .i64 f1, .int .i64 f2, .int .i64 f3] 84)) W.heap.size f0 f1 f2 f3 := ⟨A0, c0, by simpa using heap_alloc_new W _, hB.size, hr0⟩
def parse_parser_ok.f (s0_0 : List (S142)) (s0_1 : Int) (s0_2 : Int) (s0_3 : Int) : Option (Bool × Int × Int × Int) := some ((s0_3 == 0), s0_1, s0_2, s0_3)
theorem parse_parser_ok.calls (g : Nat) (s0_0 : List (S142)) (s0_1 : Int) (s0_2 : Int) (s0_3 : Int) (r1 : Bool) (r2 : Int) (r3 : Int) (r4 : Int) (w0 w : World) (hI : IsS84 w0 w g s0_0 s0_1 s0_2 s0_3) (hB : Below w0.heap.size w0 w) (h : parse_parser_ok.f s0_0 s0_1 s0_2 s0_3 = some (r1, r2, r3, r4)) :
  Calls Tryd.prog 62 #[.pointer (some ⟨g, 0, none⟩)] w fun e w' => e = .returned (.bool r1) ∧ IsS84 w0 w' g s0_0 r2 r3 r4 ∧ Below w0.heap.size w0 w' ∧ KeepBut w w' g none := by
 have HI0 := am_ hI; have HK := am_ (KeepBut.refl w g none); have HL := am_ hB.size; clear hI; have HW0 := am_ hB.size; have HB := am_ hB; clear hB; have H : (some ((s0_3 == 0), s0_1, s0_2, s0_3)) = some (r1, r2, r3, r4) := h; clear h; simp only [Option.some.injEq, Prod.mk.injEq] at H; obtain ⟨rfl, rfl, rfl, rfl⟩ := H; obtain ⟨ASz2_0, cSz2_0, HGz2, hgz2, HSz2_0⟩ := HI0.out; have hcz2_0 := cellS84_0 HGz2; have hcz2_1 := cellS84_1 HGz2; have hcz2_2 := cellS84_2 HGz2; have hcz2_3 := cellS84_3 HGz2; have hfz2_1 := blk_frozen HGz2 1; have hfz2_2 := blk_frozen HGz2 2; have hfz2_3 := blk_frozen HGz2 3; clear HGz2 hgz2
 go_enter Tryd.func62, Tryd.ntmps62
 go_wp2
 go_ret
 exact ⟨ew_, by repeat (first | (with_reducible first | exact HI0.out | apply IsS84.alloc | apply IsS84.drewN | apply IsS84.drew | apply IsS84.set_1 | apply IsS84.set_2 | apply IsS84.set_3) | exact HI0.out), by repeat (first | (with_reducible first | exact HB.out | apply below_alloc | apply pw_below_drewN | apply below_drew1 | refine below_set ?_ (IsS84.ge HI0.out)) | exact HB.out), by repeat (first | (with_reducible first | exact HK.out | apply KeepBut.set_ | apply keep_drewN | apply keep_drew | apply keep_alloc) | exact HK.out)⟩
def api_Expr.f (l0 : List (S26)) : Option ((List (S26))) := (some (([] : List (S26)) : List (S26))).bind fun y195 => (if y195.length + l0.length < 1256584717458 then (some (y195 ++ l0)) else (none))
theorem api_Expr.calls (P0_ : Nat → Prop) (A0 : Option Addr) (c0 : Nat) (l0 : List (S26)) (r : List (S26)) (w : World) (hs0 : Kd.V k26 26 w w.heap.size (fun k_ => P0_ k_) (.slice A0 l0.length c0) l0) (h : api_Expr.f l0 = some r) :
  Calls Tryd.prog 132 #[.slice A0 l0.length c0] w fun e w' => ∃ v0_ : Value, e = .returned (v0_) ∧ Kd.N k26 26 w' w.heap.size (fun k_ => (P0_ k_ ∨ w.heap.size ≤ k_)) v0_ r ∧ Below w.heap.size w w' := by
 cases A0 with
 | none =>
  obtain rfl : l0 = [] := by
   rcases l0 with _ | ⟨x_, l_⟩
   ·rfl
   ·(first | (obtain ⟨ad_, e_, _⟩ := hr0.2.2 (by simp)) | (obtain ⟨ad_, e_, _⟩ := (Kd.V_reads' hs0).2.2.2.2 (by simp)))
    cases e_
  obtain rfl : r = [] := by
   unfold api_Expr.f at h
   simpa using h.symm
  have hn_ : ∀ (W_ : World) (n_ c_ : Nat), (binOp .eql 24 (.slice none n_ c_) (.slice none 0 0)).run Tryd.prog W_ = .ok (.bool true) W_ := fun W_ n_ c_ => Lib.run_eql_slice_nil W_ 24 26 none n_ c_ 0 0 Tryd.underlying24
  go_enter Tryd.func132, Tryd.ntmps132
  go_wp2
  go_ret
  exact ⟨_, rfl, by first | exact Kd.R_nil _ _ _ _ _ | exact Kd.S_nil _ _ _ _ _ | exact Kd.N_nil _ _ _ _ _, Below.refl _ _⟩
 | some ad0 =>
 have hn_ : ∀ (W_ : World) (n_ c_ : Nat), (binOp .eql 24 (.slice (some ad0) n_ c_) (.slice none 0 0)).run Tryd.prog W_ = .ok (.bool false) W_ := fun W_ n_ c_ => Lib.run_eql_slice_nil W_ 24 26 (some ad0) n_ c_ 0 0 Tryd.underlying24
 have HO0 := am_ (show Kd.V k26 26 w w.heap.size (fun k_ => (P0_ k_ ∨ w.heap.size ≤ k_)) (.slice (some ad0) l0.length c0) l0 from Kd.V_mono hs0 (fun k_ hk => .inl hk)); have HB := am_ (Below.refl w.heap.size w); have H : ((some (([] : List (S26)) : List (S26))).bind fun y195 => (if y195.length + l0.length < 1256584717458 then (some (y195 ++ l0)) else (none))) = some r := h; clear h
 obtain ⟨y195, hy195⟩ : ∃ y_ : List (S26), y_ = (([] : List (S26))) := ⟨_, rfl⟩
 replace H : (if y195.length + l0.length < 1256584717458 then (some (y195 ++ l0)) else (none)) = some r := by first | (rw [hy195]; with_reducible exact H) | (have H2_ := (Option.bind_some _ _).symm.trans H; rw [hy195]; with_reducible exact H2_) | (have H2_ := (Option.bind_some _ _).symm.trans H; with_reducible exact H2_) | with_reducible exact H | (rw [hy195]; exact H) | exact H
 have Ny195 := am_ hy195; clear hy195
 by_cases c2 : y195.length + l0.length < 1256584717458
 ·rw [if_pos c2] at H
  have LMc2 := am_ c2; clear c2
  obtain ⟨y198, hy198⟩ : ∃ y_ : List (S26), y_ = (y195 ++ l0) := ⟨_, rfl⟩
  replace H : (some y198) = some r := by first | (rw [hy198]; with_reducible exact H) | (have H2_ := (Option.bind_some _ _).symm.trans H; rw [hy198]; with_reducible exact H2_) | (have H2_ := (Option.bind_some _ _).symm.trans H; with_reducible exact H2_) | with_reducible exact H | (rw [hy198]; exact H) | exact H
  have Ny198 := am_ hy198; clear hy198; obtain rfl := Option.some.inj H
  go_enter Tryd.func132, Tryd.ntmps132
  go_wp2_with (first | ((with_reducible refine gate_dst (N := 5) rfl ?_); refine Kd.N_lit k26 _ 26 ?hg (N' := 5) ?hd (xs := ([] : List (S26))) (inner := []) (ok := (fun k_ => (P0_ k_ ∨ w.heap.size ≤ k_))) (okp := (fun k_ => (P0_ k_ ∨ w.heap.size ≤ k_))) ?hr ?hp (fun _ hk => hk) ((show ∀ k_, w.heap.size ≤ k_ → (fun k_ => (P0_ k_ ∨ w.heap.size ≤ k_)) k_ from fun k_ hk => (.inr (Nat.le_trans (below_size (bl_)) hk))) _ (Nat.le_refl _)) (Below.refl _ _) (Nat.le_refl _) (by simp) ?_; (case hd => rfl); (case hg => rfl); (case hr => first | (go_simp; done) | (go_simp; rfl)); (case hp => exact (Reps.none _ _)); intro v196 w3 ho4 hb hg_ hnew_; clear hg_ hnew_; (first | rw [← Ny195.out] at ho4 | (simp only [Int.reduceToNat] at ho4; rw [← Ny195.out] at ho4)); replace HO0 := am_ (Kd.V_elder' (kv_ HO0.out) (Kd.N_base ho4) hb); have HO197 := am_ (Kd.N_lower ho4 (below_size (bl_))); replace HB := am_ (below_step (bl_) hb); clear hb ho4) | ((with_reducible refine gate_builtin (b := .append) (xs := #[.tmp 5, .tmp 6]) rfl ?_); at_builtin; refine Kd.N_append_rows k26 (w0 := w) w.heap.size rfl (.tmp 5) (.tmp 6) 24 26 (.agg #[(.int .i64 0), (.string ⟨#[]⟩), (.string ⟨#[]⟩), (.int .i64 0), (.int .i64 0), (.int .i64 0), (.int .i64 0), (.string ⟨#[]⟩), (.slice none 0 0)]) 112 rfl Tryd.underlying24 info26 rfl (by decide) (by omega) v196 y195 l0 _ _ _ (fun k_ => (P0_ k_ ∨ w.heap.size ≤ k_)) (fun k_ => ((fun k_ => (P0_ k_ ∨ w.heap.size ≤ k_))) k_ ∧ some k_ ≠ (v196 : Value).ownBlock) rfl rfl ?aO ?aR (fun _ hk => hk) ?aF ?aB ?aS ?aL ?_; (case aR => exact (by skip; exact Kd.V_F (Kd.V_mono (ok' := (fun k_ => ((fun k_ => (P0_ k_ ∨ w.heap.size ≤ k_))) k_ ∧ some k_ ≠ (v196 : Value).ownBlock)) (HO0.out) (fun k_ hk => ⟨hk.1, hk.2⟩)))); (case aB => exact (bl_)); (case aF => exact (fun k_ hk => (.inr (Nat.le_trans (below_size (bl_)) hk)))); (case aO => exact (kn_ HO197.out)); (case aS => exact (below_size (bl_))); (case aL => have := LMc2.out; omega); intro v199 w5 ho hb hg hat; rw [← Ny198.out] at ho; replace HO0 := am_ (Kd.V_afterv (ok := (fun k_ => (P0_ k_ ∨ w.heap.size ≤ k_))) (kv_ HO0.out) hg hat); have HO200 := am_ (ho); replace HB := am_ (hb); clear HO197; clear ho hb hg hat))
  go_ret
  exact ⟨_, ew_, kn_ HO200.out, bl_⟩
 ·rw [if_neg c2] at H
  exact absurd H (by simp)
def tree_Of.f (a0 : Int) (l1 : List (S26)) : Option (Int × ByteArray × ByteArray × Int × Int × Int × Int × ByteArray × (List (S26))) := (api_Expr.f l1).bind fun t202 => (some (a0, (⟨#[]⟩ : ByteArray), (⟨#[]⟩ : ByteArray), 0, 0, 0, 0, (⟨#[]⟩ : ByteArray), t202))
theorem tree_Of.calls (a0 : Int) (P1_ : Nat → Prop) (A1 : Option Addr) (c1 : Nat) (l1 : List (S26)) (r1 : Int) (r2 : ByteArray) (r3 : ByteArray) (r4 : Int) (r5 : Int) (r6 : Int) (r7 : Int) (r8 : ByteArray) (r9 : List (S26)) (w : World) (hs1 : Kd.V k26 26 w w.heap.size (fun k_ => P1_ k_) (.slice A1 l1.length c1) l1) (h : tree_Of.f a0 l1 = some (r1, r2, r3, r4, r5, r6, r7, r8, r9)) :
  Calls Tryd.prog 106 #[.int .i64 a0, .slice A1 l1.length c1] w fun e w' => ∃ v8_ : Value, e = .returned (.agg #[.int .i64 r1, .string r2, .string r3, .int .i64 r4, .int .i64 r5, .int .i64 r6, .int .i64 r7, .string r8, v8_]) ∧ Kd.N k26 26 w' w.heap.size (fun k_ => (P1_ k_ ∨ w.heap.size ≤ k_)) v8_ r9 ∧ Below w.heap.size w w' := by
 have hu26 := Tryd.underlying26; have HO1 := am_ (show Kd.V k26 26 w w.heap.size (fun k_ => (P1_ k_ ∨ w.heap.size ≤ k_)) (.slice A1 l1.length c1) l1 from Kd.V_mono hs1 (fun k_ hk => .inl hk)); have HB := am_ (Below.refl w.heap.size w); have H : ((api_Expr.f l1).bind fun t202 => (some (a0, (⟨#[]⟩ : ByteArray), (⟨#[]⟩ : ByteArray), 0, 0, 0, 0, (⟨#[]⟩ : ByteArray), t202))) = some (r1, r2, r3, r4, r5, r6, r7, r8, r9) := h; clear h; replace H := Option.bind_eq_some_iff.mp H; obtain ⟨t202, A30, H⟩ := H; replace H : (some (a0, (⟨#[]⟩ : ByteArray), (⟨#[]⟩ : ByteArray), 0, 0, 0, 0, (⟨#[]⟩ : ByteArray), t202)) = some (r1, r2, r3, r4, r5, r6, r7, r8, r9) := H; have A3 := am_ A30; clear A30; simp only [Option.some.injEq, Prod.mk.injEq] at H; obtain ⟨rfl, rfl, rfl, rfl, rfl, rfl, rfl, rfl, rfl⟩ := H
 go_enter Tryd.func106, Tryd.ntmps106
 go_wp2_with (first | ((with_reducible refine gate_dst (N := 4) rfl ?_); refine box_event ?hg (N := 4) ?hd (cs := #[.int .i64 0, .string (⟨#[]⟩ : ByteArray), .string (⟨#[]⟩ : ByteArray), .int .i64 0, .int .i64 0, .int .i64 0, .int .i64 0, .string (⟨#[]⟩ : ByteArray), .slice none 0 0]) (t := 26) ?hr ?_; (case hd => rfl); (case hg => rfl); (case hr => first | (go_simp; done) | (go_simp; rfl)); intro gb201 hg w4 hbox hb; replace HO1 := am_ (Kd.V_below (Kd.V_elderB (kv_ HO1.out) gb201 (Nat.le_of_eq hg.symm)) hb); have BK201 := am_ (hbox); have GW201 := am_ ((by rw [hg]; exact (below_size (bl_)) : w.heap.size ≤ gb201)); have GE201 := am_ ((by rw [hg]; exact (below_size (bl_)) : w.heap.size ≤ gb201)); replace HB := am_ (below_step (bl_) hb); clear hb hbox hg) | ((with_reducible refine gate_callee (f := 132) rfl ?_); refine goesL_ (some 7) rfl rfl Tryd.func132 (by kernel_rfl) rfl #[.slice A1 l1.length c1] rfl (by (try simp only [List.map_toArray, List.map_cons, List.map_nil]); first | done | rfl | (simp only [List.length_drop, List.length_take]; rfl)) ?_; (with_reducible refine (api_Expr.calls (fun k_ => ((P1_ k_ ∨ w.heap.size ≤ k_) ∧ k_ ≠ gb201)) _ _ l1 t202 _ ?side1 A3.out).mono ?_); (case side1 => exact HO1.out); rintro e w5 ⟨v203, rfl, ho0, hb⟩; refine ⟨_, rfl, ?_⟩; replace HO1 := am_ (Kd.V_elder' (kv_ HO1.out) (Kd.N_base ho0) hb); have HO204 := am_ (Kd.N_lower (Kd.N_mono (ok' := fun k_ => (P1_ k_ ∨ w.heap.size ≤ k_) ∧ k_ ≠ gb201) ho0 (fun k_ hk_ => ⟨Or.elim hk_ (fun hs_ => hs_.1) (fun hn_ => (.inr (Nat.le_trans (below_size (bl_)) hn_))), Or.elim hk_ (fun hs_ => hs_.2) (fun hn_ => (Kd.freshB (g := gb201) (o := .cells #[.int .i64 0, .string (⟨#[]⟩ : ByteArray), .string (⟨#[]⟩ : ByteArray), .int .i64 0, .int .i64 0, .int .i64 0, .int .i64 0, .string (⟨#[]⟩ : ByteArray), .slice none 0 0] 26 (0, 0)) (bk_ BK201.out) k_ hn_))⟩)) (below_size (bl_))); replace BK201 := am_ (blk_below (bk_ BK201.out) hb); replace HB := am_ (below_step (bl_) hb); (try clear hb); (try clear hb2); (try clear hk); (try clear hi); (try clear ho0); obtain ⟨Ao6, co6, eo6⟩ := Kd.N_slice HO204.out; subst eo6; obtain ⟨hcz7_0, hcz7_1, hcz7_2, hcz7_3, hcz7_4, hcz7_5, hcz7_6, hcz7_7, hcz7_8, hfz7_0, hfz7_1, hfz7_2, hfz7_3, hfz7_4, hfz7_5, hfz7_6, hfz7_7, hfz7_8⟩ := bw9_ BK201.out))
 refine bodyPost_ret (results_cell_row rfl _ _ gb201 26 #[.int .i64 a0, .string (⟨#[]⟩ : ByteArray), .string (⟨#[]⟩ : ByteArray), .int .i64 0, .int .i64 0, .int .i64 0, .int .i64 0, .string (⟨#[]⟩ : ByteArray), .slice Ao6 t202.length co6] (0, 0) _ rfl (by refine bp_ ?_; refine blk_put (cs := #[.int .i64 a0, .string (⟨#[]⟩ : ByteArray), .string (⟨#[]⟩ : ByteArray), .int .i64 0, .int .i64 0, .int .i64 0, .int .i64 0, .string (⟨#[]⟩ : ByteArray), .slice none 0 0]) ?_ 8 _ rfl; refine bp_ ?_; refine blk_put (cs := #[.int .i64 a0, .string (⟨#[]⟩ : ByteArray), .string (⟨#[]⟩ : ByteArray), .int .i64 0, .int .i64 0, .int .i64 0, .int .i64 0, .string (⟨#[]⟩ : ByteArray), .slice none 0 0]) ?_ 7 _ rfl; refine bp_ ?_; refine blk_put (cs := #[.int .i64 a0, .string (⟨#[]⟩ : ByteArray), .string (⟨#[]⟩ : ByteArray), .int .i64 0, .int .i64 0, .int .i64 0, .int .i64 0, .string (⟨#[]⟩ : ByteArray), .slice none 0 0]) ?_ 6 _ rfl; refine bp_ ?_; refine blk_put (cs := #[.int .i64 a0, .string (⟨#[]⟩ : ByteArray), .string (⟨#[]⟩ : ByteArray), .int .i64 0, .int .i64 0, .int .i64 0, .int .i64 0, .string (⟨#[]⟩ : ByteArray), .slice none 0 0]) ?_ 5 _ rfl; refine bp_ ?_; refine blk_put (cs := #[.int .i64 a0, .string (⟨#[]⟩ : ByteArray), .string (⟨#[]⟩ : ByteArray), .int .i64 0, .int .i64 0, .int .i64 0, .int .i64 0, .string (⟨#[]⟩ : ByteArray), .slice none 0 0]) ?_ 4 _ rfl; refine bp_ ?_; refine blk_put (cs := #[.int .i64 a0, .string (⟨#[]⟩ : ByteArray), .string (⟨#[]⟩ : ByteArray), .int .i64 0, .int .i64 0, .int .i64 0, .int .i64 0, .string (⟨#[]⟩ : ByteArray), .slice none 0 0]) ?_ 3 _ rfl; refine bp_ ?_; refine blk_put (cs := #[.int .i64 a0, .string (⟨#[]⟩ : ByteArray), .string (⟨#[]⟩ : ByteArray), .int .i64 0, .int .i64 0, .int .i64 0, .int .i64 0, .string (⟨#[]⟩ : ByteArray), .slice none 0 0]) ?_ 2 _ rfl; refine bp_ ?_; refine blk_put (cs := #[.int .i64 a0, .string (⟨#[]⟩ : ByteArray), .string (⟨#[]⟩ : ByteArray), .int .i64 0, .int .i64 0, .int .i64 0, .int .i64 0, .string (⟨#[]⟩ : ByteArray), .slice none 0 0]) ?_ 1 _ rfl; refine bp_ ?_; refine blk_put (cs := #[.int .i64 0, .string (⟨#[]⟩ : ByteArray), .string (⟨#[]⟩ : ByteArray), .int .i64 0, .int .i64 0, .int .i64 0, .int .i64 0, .string (⟨#[]⟩ : ByteArray), .slice none 0 0]) ?_ 0 _ rfl; refine bp_ ?_; exact BK201.out) Tryd.underlying26 rfl (by kernel_rfl)) rfl ?_; exact ⟨_, ew_, by (with_reducible repeat (first | apply Kd.N_alloc | apply Kd.N_drewN | apply Kd.N_drew)); exact Kd.N_mono (Kd.N_far (p := ⟨gb201, 8, none⟩) (Kd.N_far (p := ⟨gb201, 7, none⟩) (Kd.N_far (p := ⟨gb201, 6, none⟩) (Kd.N_far (p := ⟨gb201, 5, none⟩) (Kd.N_far (p := ⟨gb201, 4, none⟩) (Kd.N_far (p := ⟨gb201, 3, none⟩) (Kd.N_far (p := ⟨gb201, 2, none⟩) (Kd.N_far (p := ⟨gb201, 1, none⟩) (Kd.N_far (p := ⟨gb201, 0, none⟩) (Kd.N_mono HO204.out (fun k_ hk => (⟨hk, hk.2⟩ : _ ∧ k_ ≠ gb201))) (fun _ hk => hk.2) (.int .i64 a0)) (fun _ hk => hk.2) (.string (⟨#[]⟩ : ByteArray))) (fun _ hk => hk.2) (.string (⟨#[]⟩ : ByteArray))) (fun _ hk => hk.2) (.int .i64 0)) (fun _ hk => hk.2) (.int .i64 0)) (fun _ hk => hk.2) (.int .i64 0)) (fun _ hk => hk.2) (.int .i64 0)) (fun _ hk => hk.2) (.string (⟨#[]⟩ : ByteArray))) (fun _ hk => hk.2) (.slice Ao6 t202.length co6)) (fun _ hk => hk.1.1), bl_⟩
def parse_opOf.f (a0 : ByteArray) : Option (Int) := if a0.toList = ([111, 114] : List UInt8) then (some 11) else (if a0.toList = ([97, 110, 100] : List UInt8) then (some 10) else (if a0.toList = ([43] : List UInt8) then (some 7) else (if a0.toList = ([45] : List UInt8) then (some 8) else (if a0.toList = ([42] : List UInt8) then (some 9) else (if a0.toList = ([61] : List UInt8) then (some 1) else (if a0.toList = ([60, 62] : List UInt8) then (some 2) else (if a0.toList = ([60] : List UInt8) then (some 3) else (if a0.toList = ([60, 61] : List UInt8) then (some 4) else (if a0.toList = ([62] : List UInt8) then (some 5) else (if a0.toList = ([62, 61] : List UInt8) then (some 6) else (some 0)))))))))))
theorem parse_opOf.calls (a0 : ByteArray) (r : Int) (w : World) (h : parse_opOf.f a0 = some r) :
  Calls Tryd.prog 130 #[.string a0] w fun e w' => e = .returned (.int .i64 r) ∧ Drawn0 w w' := by
 have H : (if a0.toList = ([111, 114] : List UInt8) then (some 11) else (if a0.toList = ([97, 110, 100] : List UInt8) then (some 10) else (if a0.toList = ([43] : List UInt8) then (some 7) else (if a0.toList = ([45] : List UInt8) then (some 8) else (if a0.toList = ([42] : List UInt8) then (some 9) else (if a0.toList = ([61] : List UInt8) then (some 1) else (if a0.toList = ([60, 62] : List UInt8) then (some 2) else (if a0.toList = ([60] : List UInt8) then (some 3) else (if a0.toList = ([60, 61] : List UInt8) then (some 4) else (if a0.toList = ([62] : List UInt8) then (some 5) else (if a0.toList = ([62, 61] : List UInt8) then (some 6) else (some 0)))))))))))) = some r := h; clear h
 by_cases c2 : a0.toList = ([111, 114] : List UInt8)
 ·rw [if_pos c2] at H
  have c2b0 : (a0.toList == ([111, 114] : List UInt8)) = true := beq_iff_eq.mpr c2; have c2b1 : (a0.toList != ([111, 114] : List UInt8)) = false := bne_eq_false_iff_eq.mpr c2; clear c2; obtain rfl := Option.some.inj H
  go_enter Tryd.func130, Tryd.ntmps130
  go_wp2
  go_ret
  exact ⟨rs_, by repeat (first | exact Drawn0.refl _ | apply Drawn0.step)⟩
 ·rw [if_neg c2] at H
  have c2b0 : (a0.toList == ([111, 114] : List UInt8)) = false := beq_eq_false_iff_ne.mpr c2; have c2b1 : (a0.toList != ([111, 114] : List UInt8)) = true := bne_iff_ne.mpr c2
  by_cases c3 : a0.toList = ([97, 110, 100] : List UInt8)
  ·rw [if_pos c3] at H
   have c3b0 : (a0.toList == ([97, 110, 100] : List UInt8)) = true := beq_iff_eq.mpr c3; have c3b1 : (a0.toList != ([97, 110, 100] : List UInt8)) = false := bne_eq_false_iff_eq.mpr c3; clear c3; obtain rfl := Option.some.inj H
   go_enter Tryd.func130, Tryd.ntmps130
   go_wp2
   go_ret
   exact ⟨rs_, by repeat (first | exact Drawn0.refl _ | apply Drawn0.step)⟩
  ·rw [if_neg c3] at H
   have c3b0 : (a0.toList == ([97, 110, 100] : List UInt8)) = false := beq_eq_false_iff_ne.mpr c3; have c3b1 : (a0.toList != ([97, 110, 100] : List UInt8)) = true := bne_iff_ne.mpr c3
   by_cases c4 : a0.toList = ([43] : List UInt8)
   ·rw [if_pos c4] at H
    have c4b0 : (a0.toList == ([43] : List UInt8)) = true := beq_iff_eq.mpr c4; have c4b1 : (a0.toList != ([43] : List UInt8)) = false := bne_eq_false_iff_eq.mpr c4; clear c4; obtain rfl := Option.some.inj H
    go_enter Tryd.func130, Tryd.ntmps130
    go_wp2
    go_ret
    exact ⟨rs_, by repeat (first | exact Drawn0.refl _ | apply Drawn0.step)⟩
   ·rw [if_neg c4] at H
    have c4b0 : (a0.toList == ([43] : List UInt8)) = false := beq_eq_false_iff_ne.mpr c4; have c4b1 : (a0.toList != ([43] : List UInt8)) = true := bne_iff_ne.mpr c4
    by_cases c5 : a0.toList = ([45] : List UInt8)
    ·rw [if_pos c5] at H
     have c5b0 : (a0.toList == ([45] : List UInt8)) = true := beq_iff_eq.mpr c5; have c5b1 : (a0.toList != ([45] : List UInt8)) = false := bne_eq_false_iff_eq.mpr c5; clear c5; obtain rfl := Option.some.inj H
     go_enter Tryd.func130, Tryd.ntmps130
     go_wp2
     go_ret
     exact ⟨rs_, by repeat (first | exact Drawn0.refl _ | apply Drawn0.step)⟩
    ·rw [if_neg c5] at H
     have c5b0 : (a0.toList == ([45] : List UInt8)) = false := beq_eq_false_iff_ne.mpr c5; have c5b1 : (a0.toList != ([45] : List UInt8)) = true := bne_iff_ne.mpr c5
     by_cases c6 : a0.toList = ([42] : List UInt8)
     ·rw [if_pos c6] at H
      have c6b0 : (a0.toList == ([42] : List UInt8)) = true := beq_iff_eq.mpr c6; have c6b1 : (a0.toList != ([42] : List UInt8)) = false := bne_eq_false_iff_eq.mpr c6; clear c6; obtain rfl := Option.some.inj H
      go_enter Tryd.func130, Tryd.ntmps130
      go_wp2
      go_ret
      exact ⟨rs_, by repeat (first | exact Drawn0.refl _ | apply Drawn0.step)⟩
     ·rw [if_neg c6] at H
      have c6b0 : (a0.toList == ([42] : List UInt8)) = false := beq_eq_false_iff_ne.mpr c6; have c6b1 : (a0.toList != ([42] : List UInt8)) = true := bne_iff_ne.mpr c6
      by_cases c7 : a0.toList = ([61] : List UInt8)
      ·rw [if_pos c7] at H
       have c7b0 : (a0.toList == ([61] : List UInt8)) = true := beq_iff_eq.mpr c7; have c7b1 : (a0.toList != ([61] : List UInt8)) = false := bne_eq_false_iff_eq.mpr c7; clear c7; obtain rfl := Option.some.inj H
       go_enter Tryd.func130, Tryd.ntmps130
       go_wp2
       go_ret
       exact ⟨rs_, by repeat (first | exact Drawn0.refl _ | apply Drawn0.step)⟩
      ·rw [if_neg c7] at H
       have c7b0 : (a0.toList == ([61] : List UInt8)) = false := beq_eq_false_iff_ne.mpr c7; have c7b1 : (a0.toList != ([61] : List UInt8)) = true := bne_iff_ne.mpr c7
       by_cases c8 : a0.toList = ([60, 62] : List UInt8)
       ·rw [if_pos c8] at H
        have c8b0 : (a0.toList == ([60, 62] : List UInt8)) = true := beq_iff_eq.mpr c8; have c8b1 : (a0.toList != ([60, 62] : List UInt8)) = false := bne_eq_false_iff_eq.mpr c8; clear c8; obtain rfl := Option.some.inj H
        go_enter Tryd.func130, Tryd.ntmps130
        go_wp2
        go_ret
        exact ⟨rs_, by repeat (first | exact Drawn0.refl _ | apply Drawn0.step)⟩
       ·rw [if_neg c8] at H
        have c8b0 : (a0.toList == ([60, 62] : List UInt8)) = false := beq_eq_false_iff_ne.mpr c8; have c8b1 : (a0.toList != ([60, 62] : List UInt8)) = true := bne_iff_ne.mpr c8
        by_cases c9 : a0.toList = ([60] : List UInt8)
        ·rw [if_pos c9] at H
         have c9b0 : (a0.toList == ([60] : List UInt8)) = true := beq_iff_eq.mpr c9; have c9b1 : (a0.toList != ([60] : List UInt8)) = false := bne_eq_false_iff_eq.mpr c9; clear c9; obtain rfl := Option.some.inj H
         go_enter Tryd.func130, Tryd.ntmps130
         go_wp2
         go_ret
         exact ⟨rs_, by repeat (first | exact Drawn0.refl _ | apply Drawn0.step)⟩
        ·rw [if_neg c9] at H
         have c9b0 : (a0.toList == ([60] : List UInt8)) = false := beq_eq_false_iff_ne.mpr c9; have c9b1 : (a0.toList != ([60] : List UInt8)) = true := bne_iff_ne.mpr c9
         by_cases c10 : a0.toList = ([60, 61] : List UInt8)
         ·rw [if_pos c10] at H
          have c10b0 : (a0.toList == ([60, 61] : List UInt8)) = true := beq_iff_eq.mpr c10; have c10b1 : (a0.toList != ([60, 61] : List UInt8)) = false := bne_eq_false_iff_eq.mpr c10; clear c10; obtain rfl := Option.some.inj H
          go_enter Tryd.func130, Tryd.ntmps130
          go_wp2
          go_ret
          exact ⟨rs_, by repeat (first | exact Drawn0.refl _ | apply Drawn0.step)⟩
         ·rw [if_neg c10] at H
          have c10b0 : (a0.toList == ([60, 61] : List UInt8)) = false := beq_eq_false_iff_ne.mpr c10; have c10b1 : (a0.toList != ([60, 61] : List UInt8)) = true := bne_iff_ne.mpr c10
          by_cases c11 : a0.toList = ([62] : List UInt8)
          ·rw [if_pos c11] at H
           have c11b0 : (a0.toList == ([62] : List UInt8)) = true := beq_iff_eq.mpr c11; have c11b1 : (a0.toList != ([62] : List UInt8)) = false := bne_eq_false_iff_eq.mpr c11; clear c11; obtain rfl := Option.some.inj H
           go_enter Tryd.func130, Tryd.ntmps130
           go_wp2
           go_ret
           exact ⟨rs_, by repeat (first | exact Drawn0.refl _ | apply Drawn0.step)⟩
          ·rw [if_neg c11] at H
           have c11b0 : (a0.toList == ([62] : List UInt8)) = false := beq_eq_false_iff_ne.mpr c11; have c11b1 : (a0.toList != ([62] : List UInt8)) = true := bne_iff_ne.mpr c11
           by_cases c12 : a0.toList = ([62, 61] : List UInt8)
           ·rw [if_pos c12] at H
            have c12b0 : (a0.toList == ([62, 61] : List UInt8)) = true := beq_iff_eq.mpr c12; have c12b1 : (a0.toList != ([62, 61] : List UInt8)) = false := bne_eq_false_iff_eq.mpr c12; clear c12; obtain rfl := Option.some.inj H
            go_enter Tryd.func130, Tryd.ntmps130
            go_wp2
            go_ret
            exact ⟨rs_, by repeat (first | exact Drawn0.refl _ | apply Drawn0.step)⟩
           ·rw [if_neg c12] at H
            have c12b0 : (a0.toList == ([62, 61] : List UInt8)) = false := beq_eq_false_iff_ne.mpr c12; have c12b1 : (a0.toList != ([62, 61] : List UInt8)) = true := bne_iff_ne.mpr c12; obtain rfl := Option.some.inj H
            go_enter Tryd.func130, Tryd.ntmps130
            go_wp2
            go_ret
            exact ⟨rs_, by repeat (first | exact Drawn0.refl _ | apply Drawn0.step)⟩
def parse_parser_fail.f (s0_0 : List (S142)) (s0_1 : Int) (s0_2 : Int) (s0_3 : Int) (a1 : Int) : Option (Int × Int × Int) := if s0_3 = 0 then (some (s0_1, s0_2, a1)) else (some (s0_1, s0_2, s0_3))
theorem parse_parser_fail.calls (g : Nat) (s0_0 : List (S142)) (s0_1 : Int) (s0_2 : Int) (s0_3 : Int) (a1 : Int) (r1 : Int) (r2 : Int) (r3 : Int) (w0 w : World) (hI : IsS84 w0 w g s0_0 s0_1 s0_2 s0_3) (hB : Below w0.heap.size w0 w) (h : parse_parser_fail.f s0_0 s0_1 s0_2 s0_3 a1 = some (r1, r2, r3)) :
  Calls Tryd.prog 105 #[.pointer (some ⟨g, 0, none⟩), .int .i64 a1] w fun e w' => e = .returned (.tuple #[]) ∧ IsS84 w0 w' g s0_0 r1 r2 r3 ∧ Below w0.heap.size w0 w' ∧ KeepBut w w' g none := by
 have HI0 := am_ hI; have HK := am_ (KeepBut.refl w g none); have HL := am_ hB.size; clear hI; have HW0 := am_ hB.size; have HB := am_ hB; clear hB; have H : (if s0_3 = 0 then (some (s0_1, s0_2, a1)) else (some (s0_1, s0_2, s0_3))) = some (r1, r2, r3) := h; clear h
 by_cases c3 : s0_3 = 0
 ·rw [if_pos c3] at H
  have c3b0 : (s0_3 == 0) = true := beq_iff_eq.mpr c3; have c3b1 : (s0_3 != 0) = false := bne_eq_false_iff_eq.mpr c3; clear c3; simp only [Option.some.injEq, Prod.mk.injEq] at H; obtain ⟨rfl, rfl, rfl⟩ := H; obtain ⟨ASz4_0, cSz4_0, HGz4, hgz4, HSz4_0⟩ := HI0.out; have hcz4_0 := cellS84_0 HGz4; have hcz4_1 := cellS84_1 HGz4; have hcz4_2 := cellS84_2 HGz4; have hcz4_3 := cellS84_3 HGz4; have hfz4_1 := blk_frozen HGz4 1; have hfz4_2 := blk_frozen HGz4 2; have hfz4_3 := blk_frozen HGz4 3; clear HGz4 hgz4
  go_enter Tryd.func105, Tryd.ntmps105
  go_wp2
  first | go_end0 | ((try simp only [Exit.inBlock, Exit.then]); refine bodyPost_ret (results_none rfl _ _ _) rfl ?_)
  exact ⟨ew_, by repeat (first | (with_reducible first | exact HI0.out | apply IsS84.alloc | apply IsS84.drewN | apply IsS84.drew | apply IsS84.set_1 | apply IsS84.set_2 | apply IsS84.set_3) | exact HI0.out), by repeat (first | (with_reducible first | exact HB.out | apply below_alloc | apply pw_below_drewN | apply below_drew1 | refine below_set ?_ (IsS84.ge HI0.out)) | exact HB.out), by repeat (first | (with_reducible first | exact HK.out | apply KeepBut.set_ | apply keep_drewN | apply keep_drew | apply keep_alloc) | exact HK.out)⟩
 ·rw [if_neg c3] at H
  have c3b0 : (s0_3 == 0) = false := beq_eq_false_iff_ne.mpr c3; have c3b1 : (s0_3 != 0) = true := bne_iff_ne.mpr c3; simp only [Option.some.injEq, Prod.mk.injEq] at H; obtain ⟨rfl, rfl, rfl⟩ := H; obtain ⟨ASz5_0, cSz5_0, HGz5, hgz5, HSz5_0⟩ := HI0.out; have hcz5_0 := cellS84_0 HGz5; have hcz5_1 := cellS84_1 HGz5; have hcz5_2 := cellS84_2 HGz5; have hcz5_3 := cellS84_3 HGz5; have hfz5_1 := blk_frozen HGz5 1; have hfz5_2 := blk_frozen HGz5 2; have hfz5_3 := blk_frozen HGz5 3; clear HGz5 hgz5
  go_enter Tryd.func105, Tryd.ntmps105
  go_wp2
  first | go_end0 | ((try simp only [Exit.inBlock, Exit.then]); refine bodyPost_ret (results_none rfl _ _ _) rfl ?_)
  exact ⟨ew_, by repeat (first | (with_reducible first | exact HI0.out | apply IsS84.alloc | apply IsS84.drewN | apply IsS84.drew | apply IsS84.set_1 | apply IsS84.set_2 | apply IsS84.set_3) | exact HI0.out), by repeat (first | (with_reducible first | exact HB.out | apply below_alloc | apply pw_below_drewN | apply below_drew1 | refine below_set ?_ (IsS84.ge HI0.out)) | exact HB.out), by repeat (first | (with_reducible first | exact HK.out | apply KeepBut.set_ | apply keep_drewN | apply keep_drew | apply keep_alloc) | exact HK.out)⟩
def tree_Col.f (a0 : ByteArray) (a1 : ByteArray) : Option (Int × ByteArray × ByteArray × Int × Int × Int × Int × ByteArray × (List (S26))) := some (15, a0, a1, 0, 0, 0, 0, (⟨#[]⟩ : ByteArray), ([] : List (S26)))
theorem tree_Col.calls (a0 : ByteArray) (a1 : ByteArray) (r1 : Int) (r2 : ByteArray) (r3 : ByteArray) (r4 : Int) (r5 : Int) (r6 : Int) (r7 : Int) (r8 : ByteArray) (r9 : List (S26)) (w : World) (h : tree_Col.f a0 a1 = some (r1, r2, r3, r4, r5, r6, r7, r8, r9)) :
  Calls Tryd.prog 111 #[.string a0, .string a1] w fun e w' => ∃ v8_ : Value, e = .returned (.agg #[.int .i64 r1, .string r2, .string r3, .int .i64 r4, .int .i64 r5, .int .i64 r6, .int .i64 r7, .string r8, v8_]) ∧ Kd.R k26 26 w' w.heap.size (fun _ => True) v8_ r9 ∧ Below w.heap.size w w' := by
 have hu26 := Tryd.underlying26; have HB := am_ (Below.refl w.heap.size w); have H : (some (15, a0, a1, 0, 0, 0, 0, (⟨#[]⟩ : ByteArray), ([] : List (S26)))) = some (r1, r2, r3, r4, r5, r6, r7, r8, r9) := h; clear h; simp only [Option.some.injEq, Prod.mk.injEq] at H; obtain ⟨rfl, rfl, rfl, rfl, rfl, rfl, rfl, rfl, rfl⟩ := H
 go_enter Tryd.func111, Tryd.ntmps111
 go_wp2_with (first | ((with_reducible refine gate_dst (N := 4) rfl ?_); refine box_event ?hg (N := 4) ?hd (cs := #[.int .i64 0, .string (⟨#[]⟩ : ByteArray), .string (⟨#[]⟩ : ByteArray), .int .i64 0, .int .i64 0, .int .i64 0, .int .i64 0, .string (⟨#[]⟩ : ByteArray), .slice none 0 0]) (t := 26) ?hr ?_; (case hd => rfl); (case hg => rfl); (case hr => first | (go_simp; done) | (go_simp; rfl)); intro gb205 hg w3 hbox hb; have BK205 := am_ (hbox); have GW205 := am_ ((by rw [hg]; exact (below_size (bl_)) : w.heap.size ≤ gb205)); have GE205 := am_ ((by rw [hg]; exact (below_size (bl_)) : w.heap.size ≤ gb205)); replace HB := am_ (below_step (bl_) hb); clear hb hbox hg; obtain ⟨hcz4_0, hcz4_1, hcz4_2, hcz4_3, hcz4_4, hcz4_5, hcz4_6, hcz4_7, hcz4_8, hfz4_0, hfz4_1, hfz4_2, hfz4_3, hfz4_4, hfz4_5, hfz4_6, hfz4_7, hfz4_8⟩ := bw9_ BK205.out))
 refine bodyPost_ret (results_cell_row rfl _ _ gb205 26 #[.int .i64 15, .string a0, .string a1, .int .i64 0, .int .i64 0, .int .i64 0, .int .i64 0, .string (⟨#[]⟩ : ByteArray), .slice none 0 0] (0, 0) _ rfl (by refine bp_ ?_; refine blk_put (cs := #[.int .i64 15, .string a0, .string a1, .int .i64 0, .int .i64 0, .int .i64 0, .int .i64 0, .string (⟨#[]⟩ : ByteArray), .slice none 0 0]) ?_ 8 _ rfl; refine bp_ ?_; refine blk_put (cs := #[.int .i64 15, .string a0, .string a1, .int .i64 0, .int .i64 0, .int .i64 0, .int .i64 0, .string (⟨#[]⟩ : ByteArray), .slice none 0 0]) ?_ 7 _ rfl; refine bp_ ?_; refine blk_put (cs := #[.int .i64 15, .string a0, .string a1, .int .i64 0, .int .i64 0, .int .i64 0, .int .i64 0, .string (⟨#[]⟩ : ByteArray), .slice none 0 0]) ?_ 6 _ rfl; refine bp_ ?_; refine blk_put (cs := #[.int .i64 15, .string a0, .string a1, .int .i64 0, .int .i64 0, .int .i64 0, .int .i64 0, .string (⟨#[]⟩ : ByteArray), .slice none 0 0]) ?_ 5 _ rfl; refine bp_ ?_; refine blk_put (cs := #[.int .i64 15, .string a0, .string a1, .int .i64 0, .int .i64 0, .int .i64 0, .int .i64 0, .string (⟨#[]⟩ : ByteArray), .slice none 0 0]) ?_ 4 _ rfl; refine bp_ ?_; refine blk_put (cs := #[.int .i64 15, .string a0, .string a1, .int .i64 0, .int .i64 0, .int .i64 0, .int .i64 0, .string (⟨#[]⟩ : ByteArray), .slice none 0 0]) ?_ 3 _ rfl; refine bp_ ?_; refine blk_put (cs := #[.int .i64 15, .string a0, .string (⟨#[]⟩ : ByteArray), .int .i64 0, .int .i64 0, .int .i64 0, .int .i64 0, .string (⟨#[]⟩ : ByteArray), .slice none 0 0]) ?_ 2 _ rfl; refine bp_ ?_; refine blk_put (cs := #[.int .i64 15, .string (⟨#[]⟩ : ByteArray), .string (⟨#[]⟩ : ByteArray), .int .i64 0, .int .i64 0, .int .i64 0, .int .i64 0, .string (⟨#[]⟩ : ByteArray), .slice none 0 0]) ?_ 1 _ rfl; refine bp_ ?_; refine blk_put (cs := #[.int .i64 0, .string (⟨#[]⟩ : ByteArray), .string (⟨#[]⟩ : ByteArray), .int .i64 0, .int .i64 0, .int .i64 0, .int .i64 0, .string (⟨#[]⟩ : ByteArray), .slice none 0 0]) ?_ 0 _ rfl; refine bp_ ?_; exact BK205.out) Tryd.underlying26 rfl (by kernel_rfl)) rfl ?_; exact ⟨_, ew_, by first | exact Kd.R_nil _ _ _ _ _ | exact Kd.N_nil _ _ _ _ _ | exact Kd.V_nil _ _ _ _ _ | exact Kd.Q_nil _ _ _ _ _ | exact Kd.S_nil _ _ _ _ _, bl_⟩
end Go.Proofs.YthlepdjjdbpmoaaDoor.PPrintExprs
namespace Go.Proofs.YthlepdjjdbpmoaaDoor.PPrintExprs
open Go.RowKit Go.Proofs.YthlepdjjdbpmoaaDoorW.PrintWords Go.Proofs.YthlepdjjdbpmoaaDoorW.PrintLast Go.Proofs.YthlepdjjdbpmoaaDoorW.PrintMore
attribute [local go_sem] max2_int min2_int max_two min_two max_three min_three max_four min_four
set_option linter.unusedVariables false
set_option maxHeartbeats 8000000
set_option linter.unusedSimpArgs false
set_option maxRecDepth 100000
def val_Null.f  : Option (Int × Int × ByteArray) := some (0, 0, (⟨#[]⟩ : ByteArray))
theorem val_Null.calls  (r1 : Int) (r2 : Int) (r3 : ByteArray) (w : World) (h : val_Null.f  = some (r1, r2, r3)) :
  Calls Tryd.prog 81 #[] w fun e w' => e = .returned (.agg #[.int .i64 r1, .int .i64 r2, .string r3]) ∧ Below w.heap.size w w' := by
 have hu23 := Tryd.underlying23; have HB := am_ (Below.refl w.heap.size w); have H : (some (0, 0, (⟨#[]⟩ : ByteArray))) = some (r1, r2, r3) := h; clear h; simp only [Option.some.injEq, Prod.mk.injEq] at H; obtain ⟨rfl, rfl, rfl⟩ := H
 go_enter Tryd.func81, Tryd.ntmps81
 go_wp2_with (first | ((with_reducible refine gate_dst (N := 0) rfl ?_); refine box_event ?hg (N := 0) ?hd (cs := #[.int .i64 0, .int .i64 0, .string (⟨#[]⟩ : ByteArray)]) (t := 23) ?hr ?_; (case hd => rfl); (case hg => rfl); (case hr => first | (go_simp; done) | (go_simp; rfl)); intro gb207 hg w1 hbox hb; have BK207 := am_ (hbox); have GW207 := am_ ((by rw [hg]; exact (below_size (bl_)) : w.heap.size ≤ gb207)); have GE207 := am_ ((by rw [hg]; exact (below_size (bl_)) : w.heap.size ≤ gb207)); replace HB := am_ (below_step (bl_) hb); clear hb hbox hg; obtain ⟨hcz2_0, hcz2_1, hcz2_2, hfz2_0, hfz2_1, hfz2_2⟩ := bw3_ BK207.out))
 refine bodyPost_ret (results_cell_row rfl _ _ gb207 23 #[.int .i64 0, .int .i64 0, .string (⟨#[]⟩ : ByteArray)] (0, 0) _ rfl (by refine bp_ ?_; refine blk_put (cs := #[.int .i64 0, .int .i64 0, .string (⟨#[]⟩ : ByteArray)]) ?_ 2 _ rfl; refine bp_ ?_; refine blk_put (cs := #[.int .i64 0, .int .i64 0, .string (⟨#[]⟩ : ByteArray)]) ?_ 1 _ rfl; refine bp_ ?_; refine blk_put (cs := #[.int .i64 0, .int .i64 0, .string (⟨#[]⟩ : ByteArray)]) ?_ 0 _ rfl; refine bp_ ?_; exact BK207.out) Tryd.underlying23 rfl (by kernel_rfl)) rfl ?_; exact ⟨ew_, bl_⟩
def val_Text.f (a0 : ByteArray) : Option (Int × Int × ByteArray) := if (a0.size : Int) > 65536 then ((val_Null.f).bind fun bt209 => (some (bt209.1, bt209.2.1, bt209.2.2))) else (some (2, 0, a0))
theorem val_Text.calls (a0 : ByteArray) (r1 : Int) (r2 : Int) (r3 : ByteArray) (w : World) (h : val_Text.f a0 = some (r1, r2, r3)) :
  Calls Tryd.prog 84 #[.string a0] w fun e w' => e = .returned (.agg #[.int .i64 r1, .int .i64 r2, .string r3]) ∧ Below w.heap.size w w' := by
 have hu23 := Tryd.underlying23; have HB := am_ (Below.refl w.heap.size w); have H : (if (a0.size : Int) > 65536 then ((val_Null.f).bind fun bt209 => (some (bt209.1, bt209.2.1, bt209.2.2))) else (some (2, 0, a0))) = some (r1, r2, r3) := h; clear h
 by_cases c2 : (a0.size : Int) > 65536
 ·rw [if_pos c2] at H
  have c2b0 : decide (65536 < (a0.size : Int)) = true := decide_eq_true c2; have c2b1 : decide (65536 < a0.size) = true := decide_eq_true (by omega); clear c2; replace H := Option.bind_eq_some_iff.mp H; obtain ⟨⟨t209, t210, t211⟩, A30, H⟩ := H; replace H : (some (t209, t210, t211)) = some (r1, r2, r3) := H; have A3 := am_ A30; clear A30; simp only [Option.some.injEq, Prod.mk.injEq] at H; obtain ⟨rfl, rfl, rfl⟩ := H
  go_enter Tryd.func84, Tryd.ntmps84
  go_wp2_with (first | ((with_reducible refine gate_dst (N := 2) rfl ?_); refine box_event ?hg (N := 2) ?hd (cs := #[.int .i64 0, .int .i64 0, .string (⟨#[]⟩ : ByteArray)]) (t := 23) ?hr ?_; (case hd => rfl); (case hg => rfl); (case hr => first | (go_simp; done) | (go_simp; rfl)); intro gb208 hg w4 hbox hb; have BK208 := am_ (hbox); have GW208 := am_ ((by rw [hg]; exact (below_size (bl_)) : w.heap.size ≤ gb208)); have GE208 := am_ ((by rw [hg]; exact (below_size (bl_)) : w.heap.size ≤ gb208)); replace HB := am_ (below_step (bl_) hb); clear hb hbox hg) | ((with_reducible refine gate_callee (f := 81) rfl ?_); refine goesL_ (some 6) rfl rfl Tryd.func81 (by kernel_rfl) rfl #[] rfl (by (try simp only [List.map_toArray, List.map_cons, List.map_nil]); first | done | rfl | (simp only [List.length_drop, List.length_take]; rfl)) ?_; (with_reducible refine (val_Null.calls  t209 t210 t211 _ A3.out).mono ?_); rintro e w5 ⟨rfl, hb⟩; refine ⟨_, rfl, ?_⟩; replace BK208 := am_ (blk_below (bk_ BK208.out) hb); replace HB := am_ (below_step (bl_) hb); (try clear hb); (try clear hb2); (try clear hk); (try clear hi); obtain ⟨hcz6_0, hcz6_1, hcz6_2, hfz6_0, hfz6_1, hfz6_2⟩ := bw3_ BK208.out))
  refine bodyPost_ret (results_cell_row rfl _ _ gb208 23 #[.int .i64 t209, .int .i64 t210, .string t211] (0, 0) _ rfl (by refine bp_ ?_; refine blk_put (cs := #[.int .i64 t209, .int .i64 t210, .string (⟨#[]⟩ : ByteArray)]) ?_ 2 _ rfl; refine bp_ ?_; refine blk_put (cs := #[.int .i64 t209, .int .i64 0, .string (⟨#[]⟩ : ByteArray)]) ?_ 1 _ rfl; refine bp_ ?_; refine blk_put (cs := #[.int .i64 0, .int .i64 0, .string (⟨#[]⟩ : ByteArray)]) ?_ 0 _ rfl; refine bp_ ?_; exact BK208.out) Tryd.underlying23 rfl (by kernel_rfl)) rfl ?_; exact ⟨ew_, bl_⟩
 ·rw [if_neg c2] at H
  have c2b0 : decide (65536 < (a0.size : Int)) = false := decide_eq_false c2; have c2b1 : decide (65536 < a0.size) = false := decide_eq_false (by omega); clear c2; simp only [Option.some.injEq, Prod.mk.injEq] at H; obtain ⟨rfl, rfl, rfl⟩ := H
  go_enter Tryd.func84, Tryd.ntmps84
  go_wp2_with (first | ((with_reducible refine gate_dst (N := 2) rfl ?_); refine box_event ?hg (N := 2) ?hd (cs := #[.int .i64 0, .int .i64 0, .string (⟨#[]⟩ : ByteArray)]) (t := 23) ?hr ?_; (case hd => rfl); (case hg => rfl); (case hr => first | (go_simp; done) | (go_simp; rfl)); intro gb208 hg w7 hbox hb; have BK208 := am_ (hbox); have GW208 := am_ ((by rw [hg]; exact (below_size (bl_)) : w.heap.size ≤ gb208)); have GE208 := am_ ((by rw [hg]; exact (below_size (bl_)) : w.heap.size ≤ gb208)); replace HB := am_ (below_step (bl_) hb); clear hb hbox hg; obtain ⟨hcz8_0, hcz8_1, hcz8_2, hfz8_0, hfz8_1, hfz8_2⟩ := bw3_ BK208.out))
  refine bodyPost_ret (results_cell_row rfl _ _ gb208 23 #[.int .i64 2, .int .i64 0, .string a0] (0, 0) _ rfl (by refine bp_ ?_; refine blk_put (cs := #[.int .i64 2, .int .i64 0, .string (⟨#[]⟩ : ByteArray)]) ?_ 2 _ rfl; refine bp_ ?_; refine blk_put (cs := #[.int .i64 2, .int .i64 0, .string (⟨#[]⟩ : ByteArray)]) ?_ 1 _ rfl; refine bp_ ?_; refine blk_put (cs := #[.int .i64 0, .int .i64 0, .string (⟨#[]⟩ : ByteArray)]) ?_ 0 _ rfl; refine bp_ ?_; exact BK208.out) Tryd.underlying23 rfl (by kernel_rfl)) rfl ?_; exact ⟨ew_, bl_⟩
def val_Int.f (a0 : Int) : Option (Int × Int × ByteArray) := some (1, a0, (⟨#[]⟩ : ByteArray))
theorem val_Int.calls (a0 : Int) (r1 : Int) (r2 : Int) (r3 : ByteArray) (w : World) (h : val_Int.f a0 = some (r1, r2, r3)) :
  Calls Tryd.prog 87 #[.int .i64 a0] w fun e w' => e = .returned (.agg #[.int .i64 r1, .int .i64 r2, .string r3]) ∧ Below w.heap.size w w' := by
 have hu23 := Tryd.underlying23; have HB := am_ (Below.refl w.heap.size w); have H : (some (1, a0, (⟨#[]⟩ : ByteArray))) = some (r1, r2, r3) := h; clear h; simp only [Option.some.injEq, Prod.mk.injEq] at H; obtain ⟨rfl, rfl, rfl⟩ := H
 go_enter Tryd.func87, Tryd.ntmps87
 go_wp2_with (first | ((with_reducible refine gate_dst (N := 2) rfl ?_); refine box_event ?hg (N := 2) ?hd (cs := #[.int .i64 0, .int .i64 0, .string (⟨#[]⟩ : ByteArray)]) (t := 23) ?hr ?_; (case hd => rfl); (case hg => rfl); (case hr => first | (go_simp; done) | (go_simp; rfl)); intro gb212 hg w2 hbox hb; have BK212 := am_ (hbox); have GW212 := am_ ((by rw [hg]; exact (below_size (bl_)) : w.heap.size ≤ gb212)); have GE212 := am_ ((by rw [hg]; exact (below_size (bl_)) : w.heap.size ≤ gb212)); replace HB := am_ (below_step (bl_) hb); clear hb hbox hg; obtain ⟨hcz3_0, hcz3_1, hcz3_2, hfz3_0, hfz3_1, hfz3_2⟩ := bw3_ BK212.out))
 refine bodyPost_ret (results_cell_row rfl _ _ gb212 23 #[.int .i64 1, .int .i64 a0, .string (⟨#[]⟩ : ByteArray)] (0, 0) _ rfl (by refine bp_ ?_; refine blk_put (cs := #[.int .i64 1, .int .i64 a0, .string (⟨#[]⟩ : ByteArray)]) ?_ 2 _ rfl; refine bp_ ?_; refine blk_put (cs := #[.int .i64 1, .int .i64 0, .string (⟨#[]⟩ : ByteArray)]) ?_ 1 _ rfl; refine bp_ ?_; refine blk_put (cs := #[.int .i64 0, .int .i64 0, .string (⟨#[]⟩ : ByteArray)]) ?_ 0 _ rfl; refine bp_ ?_; exact BK212.out) Tryd.underlying23 rfl (by kernel_rfl)) rfl ?_; exact ⟨ew_, bl_⟩
def parse_parser_down.f (s0_0 : List (S142)) (s0_1 : Int) (s0_2 : Int) (s0_3 : Int) : Option (Int × Int × Int) := if (wrap64 (s0_2 + 1)) > 50 then ((parse_parser_fail.f s0_0 s0_1 (wrap64 (s0_2 + 1)) s0_3 4).bind fun bt213 => (some (bt213.1, bt213.2.1, bt213.2.2))) else (some (s0_1, wrap64 (s0_2 + 1), s0_3))
theorem parse_parser_down.calls (g : Nat) (s0_0 : List (S142)) (s0_1 : Int) (s0_2 : Int) (s0_3 : Int) (r1 : Int) (r2 : Int) (r3 : Int) (w0 w : World) (hI : IsS84 w0 w g s0_0 s0_1 s0_2 s0_3) (hB : Below w0.heap.size w0 w) (h : parse_parser_down.f s0_0 s0_1 s0_2 s0_3 = some (r1, r2, r3)) :
  Calls Tryd.prog 153 #[.pointer (some ⟨g, 0, none⟩)] w fun e w' => e = .returned (.tuple #[]) ∧ IsS84 w0 w' g s0_0 r1 r2 r3 ∧ Below w0.heap.size w0 w' ∧ KeepBut w w' g none := by
 have HI0 := am_ hI; have HK := am_ (KeepBut.refl w g none); have HL := am_ hB.size; clear hI; have HW0 := am_ hB.size; have HB := am_ hB; clear hB; have H : (if (wrap64 (s0_2 + 1)) > 50 then ((parse_parser_fail.f s0_0 s0_1 (wrap64 (s0_2 + 1)) s0_3 4).bind fun bt213 => (some (bt213.1, bt213.2.1, bt213.2.2))) else (some (s0_1, wrap64 (s0_2 + 1), s0_3))) = some (r1, r2, r3) := h; clear h
 by_cases c2 : (wrap64 (s0_2 + 1)) > 50
 ·rw [if_pos c2] at H
  have c2b0 : decide (50 < (wrap64 (s0_2 + 1))) = true := decide_eq_true c2; clear c2; replace H := Option.bind_eq_some_iff.mp H; obtain ⟨⟨t213, t214, t215⟩, A30, H⟩ := H; replace H : (some (t213, t214, t215)) = some (r1, r2, r3) := H; have A3 := am_ A30; clear A30; simp only [Option.some.injEq, Prod.mk.injEq] at H; obtain ⟨rfl, rfl, rfl⟩ := H; obtain ⟨ASz4_0, cSz4_0, HGz4, hgz4, HSz4_0⟩ := HI0.out; have hcz4_0 := cellS84_0 HGz4; have hcz4_1 := cellS84_1 HGz4; have hcz4_2 := cellS84_2 HGz4; have hcz4_3 := cellS84_3 HGz4; have hfz4_1 := blk_frozen HGz4 1; have hfz4_2 := blk_frozen HGz4 2; have hfz4_3 := blk_frozen HGz4 3; clear HGz4 hgz4
  go_enter Tryd.func153, Tryd.ntmps153
  go_wp2_with (first | ((with_reducible refine gate_callee (f := 105) rfl ?_); refine goesL_ (some 15) rfl rfl Tryd.func105 (by kernel_rfl) rfl #[.pointer (some ⟨g, 0, none⟩), .int .i64 4] rfl (by (try simp only [List.map_toArray, List.map_cons, List.map_nil]); first | done | rfl | (simp only [List.length_drop, List.length_take]; rfl)) ?_; (with_reducible refine (parse_parser_fail.calls g s0_0 s0_1 (wrap64 (s0_2 + 1)) s0_3 4 t213 t214 t215 w0 _ ?side1 ?side2 A3.out).mono ?_); (case side1 => repeat (first | (with_reducible first | exact HI0.out | apply IsS84.alloc | apply IsS84.drewN | apply IsS84.drew | apply IsS84.set_1 | apply IsS84.set_2 | apply IsS84.set_3) | exact HI0.out)); (case side2 => repeat (first | (with_reducible first | exact HB.out | apply below_alloc | apply pw_below_drewN | apply below_drew1 | refine below_set ?_ (IsS84.ge HI0.out)) | exact HB.out)); rintro e w5 ⟨rfl, hi, hb, hk⟩; refine ⟨_, rfl, ?_⟩; replace HK := am_ (KeepBut.trans (by repeat (first | (with_reducible first | exact HK.out | apply KeepBut.set_ | apply keep_drewN | apply keep_drew | apply keep_alloc) | exact HK.out)) hk (.inl rfl)); replace HI0 := am_ (hi); replace HB := am_ (hb); (try clear hb); (try clear hb2); (try clear hk); (try clear hi)))
  first | go_end0 | ((try simp only [Exit.inBlock, Exit.then]); refine bodyPost_ret (results_none rfl _ _ _) rfl ?_)
  exact ⟨ew_, by repeat (first | (with_reducible first | exact HI0.out | apply IsS84.alloc | apply IsS84.drewN | apply IsS84.drew | apply IsS84.set_1 | apply IsS84.set_2 | apply IsS84.set_3) | exact HI0.out), by repeat (first | (with_reducible first | exact HB.out | apply below_alloc | apply pw_below_drewN | apply below_drew1 | refine below_set ?_ (IsS84.ge HI0.out)) | exact HB.out), by repeat (first | (with_reducible first | exact HK.out | apply KeepBut.set_ | apply keep_drewN | apply keep_drew | apply keep_alloc) | exact HK.out)⟩
 ·rw [if_neg c2] at H
  have c2b0 : decide (50 < (wrap64 (s0_2 + 1))) = false := decide_eq_false c2; clear c2; simp only [Option.some.injEq, Prod.mk.injEq] at H; obtain ⟨rfl, rfl, rfl⟩ := H; obtain ⟨ASz6_0, cSz6_0, HGz6, hgz6, HSz6_0⟩ := HI0.out; have hcz6_0 := cellS84_0 HGz6; have hcz6_1 := cellS84_1 HGz6; have hcz6_2 := cellS84_2 HGz6; have hcz6_3 := cellS84_3 HGz6; have hfz6_1 := blk_frozen HGz6 1; have hfz6_2 := blk_frozen HGz6 2; have hfz6_3 := blk_frozen HGz6 3; clear HGz6 hgz6
  go_enter Tryd.func153, Tryd.ntmps153
  go_wp2
  first | go_end0 | ((try simp only [Exit.inBlock, Exit.then]); refine bodyPost_ret (results_none rfl _ _ _) rfl ?_)
  exact ⟨ew_, by repeat (first | (with_reducible first | exact HI0.out | apply IsS84.alloc | apply IsS84.drewN | apply IsS84.drew | apply IsS84.set_1 | apply IsS84.set_2 | apply IsS84.set_3) | exact HI0.out), by repeat (first | (with_reducible first | exact HB.out | apply below_alloc | apply pw_below_drewN | apply below_drew1 | refine below_set ?_ (IsS84.ge HI0.out)) | exact HB.out), by repeat (first | (with_reducible first | exact HK.out | apply KeepBut.set_ | apply keep_drewN | apply keep_drew | apply keep_alloc) | exact HK.out)⟩
def parse_parser_up.f (s0_0 : List (S142)) (s0_1 : Int) (s0_2 : Int) (s0_3 : Int) : Option (Int × Int × Int) := some (s0_1, wrap64 (s0_2 - 1), s0_3)
theorem parse_parser_up.calls (g : Nat) (s0_0 : List (S142)) (s0_1 : Int) (s0_2 : Int) (s0_3 : Int) (r1 : Int) (r2 : Int) (r3 : Int) (w0 w : World) (hI : IsS84 w0 w g s0_0 s0_1 s0_2 s0_3) (hB : Below w0.heap.size w0 w) (h : parse_parser_up.f s0_0 s0_1 s0_2 s0_3 = some (r1, r2, r3)) :
  Calls Tryd.prog 154 #[.pointer (some ⟨g, 0, none⟩)] w fun e w' => e = .returned (.tuple #[]) ∧ IsS84 w0 w' g s0_0 r1 r2 r3 ∧ Below w0.heap.size w0 w' ∧ KeepBut w w' g none := by
 have HI0 := am_ hI; have HK := am_ (KeepBut.refl w g none); have HL := am_ hB.size; clear hI; have HW0 := am_ hB.size; have HB := am_ hB; clear hB; have H : (some (s0_1, wrap64 (s0_2 - 1), s0_3)) = some (r1, r2, r3) := h; clear h; simp only [Option.some.injEq, Prod.mk.injEq] at H; obtain ⟨rfl, rfl, rfl⟩ := H; obtain ⟨ASz2_0, cSz2_0, HGz2, hgz2, HSz2_0⟩ := HI0.out; have hcz2_0 := cellS84_0 HGz2; have hcz2_1 := cellS84_1 HGz2; have hcz2_2 := cellS84_2 HGz2; have hcz2_3 := cellS84_3 HGz2; have hfz2_1 := blk_frozen HGz2 1; have hfz2_2 := blk_frozen HGz2 2; have hfz2_3 := blk_frozen HGz2 3; clear HGz2 hgz2
 go_enter Tryd.func154, Tryd.ntmps154
 go_wp2
 first | go_end0 | ((try simp only [Exit.inBlock, Exit.then]); refine bodyPost_ret (results_none rfl _ _ _) rfl ?_)
 exact ⟨ew_, by repeat (first | (with_reducible first | exact HI0.out | apply IsS84.alloc | apply IsS84.drewN | apply IsS84.drew | apply IsS84.set_1 | apply IsS84.set_2 | apply IsS84.set_3) | exact HI0.out), by repeat (first | (with_reducible first | exact HB.out | apply below_alloc | apply pw_below_drewN | apply below_drew1 | refine below_set ?_ (IsS84.ge HI0.out)) | exact HB.out), by repeat (first | (with_reducible first | exact HK.out | apply KeepBut.set_ | apply keep_drewN | apply keep_drew | apply keep_alloc) | exact HK.out)⟩
def tree_Val.f (a0_0 : Int) (a0_1 : Int) (a0_2 : ByteArray) : Option (Int × ByteArray × ByteArray × Int × Int × Int × Int × ByteArray × (List (S26))) := some (16, (⟨#[]⟩ : ByteArray), (⟨#[]⟩ : ByteArray), 0, 0, a0_0, a0_1, a0_2, ([] : List (S26)))
theorem tree_Val.calls (a0_0 : Int) (a0_1 : Int) (a0_2 : ByteArray) (r1 : Int) (r2 : ByteArray) (r3 : ByteArray) (r4 : Int) (r5 : Int) (r6 : Int) (r7 : Int) (r8 : ByteArray) (r9 : List (S26)) (w : World) (h : tree_Val.f a0_0 a0_1 a0_2 = some (r1, r2, r3, r4, r5, r6, r7, r8, r9)) :
  Calls Tryd.prog 177 #[.agg #[.int .i64 a0_0, .int .i64 a0_1, .string a0_2]] w fun e w' => ∃ v8_ : Value, e = .returned (.agg #[.int .i64 r1, .string r2, .string r3, .int .i64 r4, .int .i64 r5, .int .i64 r6, .int .i64 r7, .string r8, v8_]) ∧ Kd.R k26 26 w' w.heap.size (fun _ => True) v8_ r9 ∧ Below w.heap.size w w' := by
 have hu23 := Tryd.underlying23; have hu26 := Tryd.underlying26; have HB := am_ (Below.refl w.heap.size w); have H : (some (16, (⟨#[]⟩ : ByteArray), (⟨#[]⟩ : ByteArray), 0, 0, a0_0, a0_1, a0_2, ([] : List (S26)))) = some (r1, r2, r3, r4, r5, r6, r7, r8, r9) := h; clear h; simp only [Option.some.injEq, Prod.mk.injEq] at H; obtain ⟨rfl, rfl, rfl, rfl, rfl, rfl, rfl, rfl, rfl⟩ := H
 go_enter Tryd.func177, Tryd.ntmps177
 go_wp2_with (first | ((with_reducible refine gate_dst (N := 1) rfl ?_); refine box_event ?hg (N := 1) ?hd (cs := #[.int .i64 a0_0, .int .i64 a0_1, .string a0_2]) (t := 23) ?hr ?_; (case hd => rfl); (case hg => rfl); (case hr => first | (go_simp; done) | (go_simp; rfl)); intro gb216 hg w2 hbox hb; have BK216 := am_ (hbox); have GW216 := am_ ((by rw [hg]; exact (below_size (bl_)) : w.heap.size ≤ gb216)); have GE216 := am_ ((by rw [hg]; exact (below_size (bl_)) : w.heap.size ≤ gb216)); replace HB := am_ (below_step (bl_) hb); clear hb hbox hg) | ((with_reducible refine gate_dst (N := 2) rfl ?_); refine box_event ?hg (N := 2) ?hd (cs := #[.int .i64 0, .string (⟨#[]⟩ : ByteArray), .string (⟨#[]⟩ : ByteArray), .int .i64 0, .int .i64 0, .int .i64 0, .int .i64 0, .string (⟨#[]⟩ : ByteArray), .slice none 0 0]) (t := 26) ?hr ?_; (case hd => rfl); (case hg => rfl); (case hr => first | (go_simp; done) | (go_simp; rfl)); intro gb217 hg w3 hbox hb; have n0_ := am_ (blk_below (bk_ BK216.out) hb); have n1_ := am_ (below_step (bl_) hb); have n2_ := am_ (hbox); have n3_ := am_ ((by rw [hg]; exact (below_size (bl_)) : w.heap.size ≤ gb217)); have n4_ := am_ ((by rw [hg]; exact (below_size (bl_)) : w.heap.size ≤ gb217)); have n5_ := am_ ((by rw [hg]; exact Nat.ne_of_lt (blk_lt (g := gb216) (o := .cells #[.int .i64 a0_0, .int .i64 a0_1, .string a0_2] 23 (0, 0)) (bk_ BK216.out)) : gb216 ≠ gb217)); have n6_ := am_ ((by rw [hg]; exact Nat.ne_of_gt (blk_lt (g := gb216) (o := .cells #[.int .i64 a0_0, .int .i64 a0_1, .string a0_2] 23 (0, 0)) (bk_ BK216.out)) : gb217 ≠ gb216)); clear BK216; clear HB; have BK216 := n0_; have HB := n1_; have BK217 := n2_; have GW217 := n3_; have GE217 := n4_; have NB216_217 := n5_; have NB217_216 := n6_; clear n0_ n1_ n2_ n3_ n4_ n5_ n6_; clear hb hbox hg; have hnb4 := NB216_217.out; have hnc4 := NB217_216.out; obtain ⟨hcz5_0, hcz5_1, hcz5_2, hfz5_0, hfz5_1, hfz5_2⟩ := bw3_ BK216.out; obtain ⟨hcz6_0, hcz6_1, hcz6_2, hcz6_3, hcz6_4, hcz6_5, hcz6_6, hcz6_7, hcz6_8, hfz6_0, hfz6_1, hfz6_2, hfz6_3, hfz6_4, hfz6_5, hfz6_6, hfz6_7, hfz6_8⟩ := bw9_ BK217.out))
 refine bodyPost_ret (results_cell_row rfl _ _ gb217 26 #[.int .i64 16, .string (⟨#[]⟩ : ByteArray), .string (⟨#[]⟩ : ByteArray), .int .i64 0, .int .i64 0, .int .i64 a0_0, .int .i64 a0_1, .string a0_2, .slice none 0 0] (0, 0) _ rfl (by refine bp_ ?_; refine blk_put (cs := #[.int .i64 16, .string (⟨#[]⟩ : ByteArray), .string (⟨#[]⟩ : ByteArray), .int .i64 0, .int .i64 0, .int .i64 a0_0, .int .i64 a0_1, .string a0_2, .slice none 0 0]) ?_ 8 _ rfl; refine bp_ ?_; refine blk_put (cs := #[.int .i64 16, .string (⟨#[]⟩ : ByteArray), .string (⟨#[]⟩ : ByteArray), .int .i64 0, .int .i64 0, .int .i64 a0_0, .int .i64 a0_1, .string (⟨#[]⟩ : ByteArray), .slice none 0 0]) ?_ 7 _ rfl; refine bp_ ?_; refine blk_put (cs := #[.int .i64 16, .string (⟨#[]⟩ : ByteArray), .string (⟨#[]⟩ : ByteArray), .int .i64 0, .int .i64 0, .int .i64 a0_0, .int .i64 0, .string (⟨#[]⟩ : ByteArray), .slice none 0 0]) ?_ 6 _ rfl; refine bp_ ?_; refine blk_put (cs := #[.int .i64 16, .string (⟨#[]⟩ : ByteArray), .string (⟨#[]⟩ : ByteArray), .int .i64 0, .int .i64 0, .int .i64 0, .int .i64 0, .string (⟨#[]⟩ : ByteArray), .slice none 0 0]) ?_ 5 _ rfl; refine bp_ ?_; refine blk_put (cs := #[.int .i64 16, .string (⟨#[]⟩ : ByteArray), .string (⟨#[]⟩ : ByteArray), .int .i64 0, .int .i64 0, .int .i64 0, .int .i64 0, .string (⟨#[]⟩ : ByteArray), .slice none 0 0]) ?_ 4 _ rfl; refine bp_ ?_; refine blk_put (cs := #[.int .i64 16, .string (⟨#[]⟩ : ByteArray), .string (⟨#[]⟩ : ByteArray), .int .i64 0, .int .i64 0, .int .i64 0, .int .i64 0, .string (⟨#[]⟩ : ByteArray), .slice none 0 0]) ?_ 3 _ rfl; refine bp_ ?_; refine blk_put (cs := #[.int .i64 16, .string (⟨#[]⟩ : ByteArray), .string (⟨#[]⟩ : ByteArray), .int .i64 0, .int .i64 0, .int .i64 0, .int .i64 0, .string (⟨#[]⟩ : ByteArray), .slice none 0 0]) ?_ 2 _ rfl; refine bp_ ?_; refine blk_put (cs := #[.int .i64 16, .string (⟨#[]⟩ : ByteArray), .string (⟨#[]⟩ : ByteArray), .int .i64 0, .int .i64 0, .int .i64 0, .int .i64 0, .string (⟨#[]⟩ : ByteArray), .slice none 0 0]) ?_ 1 _ rfl; refine bp_ ?_; refine blk_put (cs := #[.int .i64 0, .string (⟨#[]⟩ : ByteArray), .string (⟨#[]⟩ : ByteArray), .int .i64 0, .int .i64 0, .int .i64 0, .int .i64 0, .string (⟨#[]⟩ : ByteArray), .slice none 0 0]) ?_ 0 _ rfl; refine bp_ ?_; exact BK217.out) Tryd.underlying26 rfl (by kernel_rfl)) rfl ?_; exact ⟨_, ew_, by first | exact Kd.R_nil _ _ _ _ _ | exact Kd.N_nil _ _ _ _ _ | exact Kd.V_nil _ _ _ _ _ | exact Kd.Q_nil _ _ _ _ _ | exact Kd.S_nil _ _ _ _ _, bl_⟩
def w10_code.f (a0 : Int) : Option (Int) := some a0
theorem w10_code.calls (a0 : Int) (r : Int) (w : World) (h : w10_code.f a0 = some r) :
  Calls Tryd.prog 22 #[.int .i64 a0] w fun e w' => e = .returned (.int .i64 r) ∧ Drawn0 w w' := by
 have H : (some a0) = some r := h; clear h; obtain rfl := Option.some.inj H
 go_enter Tryd.func22, Tryd.ntmps22
 go_wp2
 go_ret
 exact ⟨rs_, by repeat (first | exact Drawn0.refl _ | apply Drawn0.step)⟩
end Go.Proofs.YthlepdjjdbpmoaaDoor.PPrintExprs
