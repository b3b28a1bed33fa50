-- Written by wip/pack.py, a program of mine: the texts that this law stands on, as far as it uses them; Lean checks it.
import Derived.Test.YtcfgjaggccnoaaaProg
import Derived.Below
import Derived.Deep.Draws
import Derived.Deep.AppendLies
import Derived.Maps.AppendAt
import Derived.OwnWalk
import Derived.Laws.BytesArg
import Derived.Laws.MakeOwn
import Derived.Laws.OwnMore
import Derived.Deep.OwnRows
import Derived.Tactics
import Derived.Lib.ConvBytes
import Derived.Laws.Slices
import Derived.WalkKit
import Derived.KernelRfl
import Derived.RowKit3
import Derived.Deep.LoopGhost
import Derived.Deep.QuietTactic
import Derived.BigQuiet
import Derived.WideLaws
import Derived.Deep.DeepCutAuto
import Derived.Deep.CutBlock
import Derived.Deep.RegionHeld3
import Derived.Laws.Rows
import Derived.Lib.AppendStr
import Derived.ArgAppend
import Derived.Laws.IdiomCopy
import Derived.RowKit
import Derived.OrdersHeld
import Derived.Laws.BitsLemmas
import Derived.Laws.StructEq
import Derived.Laws.DeepStrings4
import Derived.Laws.RangeAny
import Derived.Laws.RangeString
import Derived.Lib.Hide
import Derived.LoopTactic
import Derived.Lib.SliceRun
import Derived.StillTailTactics
import Derived.Outline
import Derived.Defers
import Derived.Test.YtcfgjaggccnoaaaZParseExprs2
namespace Go.Proofs.Ytcfgjaggccnoaaa.PParseSmall
open Go.RowKit Go.Proofs.YtcfgjaggccnoaaaW.PrintWords Go.Proofs.YtcfgjaggccnoaaaW.PrintLast Go.Proofs.YtcfgjaggccnoaaaW.PrintMore
attribute [local go_sem] max2_int min2_int max_two min_two max_three min_three max_four min_four
set_option linter.unusedVariables false
set_option linter.unusedSimpArgs false
set_option maxRecDepth 100000
set_option maxHeartbeats 4000000
def Ps (W : World) (g : Nat) (A : Option Addr) (n c : Nat) (i d e : Int) : Prop := W.heap[g]? = some (.cells #[.slice A n c, .int .i64 i, .int .i64 d, .int .i64 e] 89 (0, 0))
def Chg (g : Nat) (w w' : World) : Prop := Below g w w' ∧ KeepBut w w' g none
theorem Chg.refl (g : Nat) (w : World) : Chg g w w := ⟨Below.refl g w, KeepBut.refl w g none⟩
theorem Chg.trans {g : Nat} {w w1 w2 : World} (h : Chg g w w1) (k : Chg g w1 w2) : Chg g w w2 := ⟨h.1.trans k.1, h.2.trans k.2 (.inl rfl)⟩
theorem Chg.below {g : Nat} {w w1 : World} (hg : g < w.heap.size) (h : Below w.heap.size w w1) : Chg g w w1 := ⟨h.mono (Nat.le_of_lt hg), KeepBut.of_below h g none⟩
theorem Chg.set {g : Nat} {w w1 : World} (h : Chg g w w1) (j : Nat) (u : Value) : Chg g w (w1.setCell ⟨g, j, none⟩ u) := ⟨h.1.setCell (Nat.le_refl _) _, h.2.set_ j u⟩
theorem Chg.alloc {g : Nat} {w w1 : World} (hg : g < w.heap.size) (h : Chg g w w1) (o : Obj) : Chg g w (w1.alloc o) := ⟨h.1.alloc (Nat.le_trans (Nat.le_of_lt hg) h.2.1) o, keep_alloc h.2 o⟩
theorem Chg.drewN {g : Nat} {w w1 : World} (h : Chg g w w1) (n : Nat) : Chg g w (w1.drewN n) := ⟨pw_below_drewN h.1 n, h.2⟩
theorem Chg.size {g : Nat} {w w1 : World} (h : Chg g w w1) : w.heap.size ≤ w1.heap.size := h.2.1
theorem Chg.blk {g : Nat} {w w1 : World} (h : Chg g w w1) {b : Nat} {o : Obj} (hb : w.heap[b]? = some o) (hn : b ≠ g) : w1.heap[b]? = some o := h.2.blk hb hn (by simp)
theorem Ps.lt {w : World} {g : Nat} {A : Option Addr} {n c : Nat} {i d e : Int} (h : Ps w g A n c i d e) : g < w.heap.size := blk_lt h
theorem Ps.alloc {w : World} {g : Nat} {A : Option Addr} {n c : Nat} {i d e : Int} (h : Ps w g A n c i d e) (o : Obj) : Ps (w.alloc o) g A n c i d e := blk_alloc h o
theorem Ps.drewN {w : World} {g : Nat} {A : Option Addr} {n c : Nat} {i d e : Int} (h : Ps w g A n c i d e) (m : Nat) : Ps (w.drewN m) g A n c i d e := h
theorem Ps.below {w w1 : World} {g : Nat} {A : Option Addr} {n c : Nat} {i d e : Int} (h : Ps w g A n c i d e) (hb : Below w.heap.size w w1) : Ps w1 g A n c i d e := (hb.block g h.lt).trans h
theorem Ps.far {w : World} {g : Nat} {A : Option Addr} {n c : Nat} {i d e : Int} (h : Ps w g A n c i d e) {p : Addr} (hp : p.block ≠ g) (u : Value) : Ps (w.setCell p u) g A n c i d e := (Below.heap_setCell w p u g (fun q => hp q.symm)).trans h
theorem Ps.at_ {w : World} {g : Nat} {A : Option Addr} {n c : Nat} {i d e : Int} (h : Ps w g A n c i d e) (x : Int) : Ps (w.setCell ⟨g, 1, none⟩ (.int .i64 x)) g A n c x d e := blk_put (cs := #[.slice A n c, .int .i64 i, .int .i64 d, .int .i64 e]) h 1 _ rfl
theorem Ps.deep {w : World} {g : Nat} {A : Option Addr} {n c : Nat} {i d e : Int} (h : Ps w g A n c i d e) (x : Int) : Ps (w.setCell ⟨g, 2, none⟩ (.int .i64 x)) g A n c i x e := blk_put (cs := #[.slice A n c, .int .i64 i, .int .i64 d, .int .i64 e]) h 2 _ rfl
theorem Ps.err {w : World} {g : Nat} {A : Option Addr} {n c : Nat} {i d e : Int} (h : Ps w g A n c i d e) (x : Int) : Ps (w.setCell ⟨g, 3, none⟩ (.int .i64 x)) g A n c i d x := blk_put (cs := #[.slice A n c, .int .i64 i, .int .i64 d, .int .i64 e]) h 3 _ rfl
def flE (e x : Int) : Int := if e = 0 then x else e
def dnE (d e : Int) : Int := if d + 1 > 50 ∧ e = 0 then 4 else e
theorem ok_any {g : Nat} {A : Option Addr} {n c : Nat} {i d e : Int} {w : World} (h : Ps w g A n c i d e) :
    Calls Try.prog 43 #[.pointer (some ⟨g, 0, none⟩)] w fun r w' => r = .returned (.bool (e == 0)) ∧ w' = w := by
  obtain ⟨c0, c1, c2, c3, f0, f1, f2, f3⟩ := bw4_ h
  go_enter Try.func43, Try.ntmps43
  go_wp2
  go_ret
  exact ⟨rfl, rfl⟩
theorem ok_no {g : Nat} {A : Option Addr} {n c : Nat} {i d e : Int} {w : World} (h : Ps w g A n c i d e) (he : e ≠ 0) :
    Calls Try.prog 43 #[.pointer (some ⟨g, 0, none⟩)] w fun r w' => r = .returned (.bool false) ∧ w' = w := (ok_any h).mono fun r w' ⟨a, b⟩ => ⟨by rw [a, beq_eq_false_iff_ne.2 he], b⟩
theorem ok_yes {g : Nat} {A : Option Addr} {n c : Nat} {i d : Int} {w : World} (h : Ps w g A n c i d 0) :
    Calls Try.prog 43 #[.pointer (some ⟨g, 0, none⟩)] w fun r w' => r = .returned (.bool true) ∧ w' = w := (ok_any h).mono fun r w' ⟨a, b⟩ => ⟨a, b⟩
theorem fail_any {g : Nat} {A : Option Addr} {n c : Nat} {i d e : Int} {w : World} (h : Ps w g A n c i d e) (x : Int) :
    Calls Try.prog 82 #[.pointer (some ⟨g, 0, none⟩), .int .i64 x] w fun r w' => r = .returned (.tuple #[]) ∧ Ps w' g A n c i d (flE e x) ∧ Chg g w w' := by
  obtain ⟨c0, c1, c2, c3, f0, f1, f2, f3⟩ := bw4_ h
  by_cases he : e = 0
  · subst he
    have H := Lib.hid h; clear h
    go_enter Try.func82, Try.ntmps82
    go_wp2
    go_end0
    exact ⟨rfl, H.out.err x, (Chg.refl g w).set 3 _⟩
  · have hf : flE e x = e := if_neg he
    rw [hf]
    clear hf
    have H := Lib.hid h; clear h
    have hb : (e == 0) = false := beq_eq_false_iff_ne.2 he
    go_enter Try.func82, Try.ntmps82
    go_wp2
    go_end0
    exact ⟨rfl, H.out, Chg.refl g w⟩
theorem down_any {g : Nat} {A : Option Addr} {n c : Nat} {i d e : Int} {w : World} (h : Ps w g A n c i d e) (h0 : -1000 ≤ d) (h1 : d ≤ 1000) :
    Calls Try.prog 151 #[.pointer (some ⟨g, 0, none⟩)] w fun r w' => r = .returned (.tuple #[]) ∧ Ps w' g A n c i (d + 1) (dnE d e) ∧ Chg g w w' := by
  obtain ⟨c0, c1, c2, c3, f0, f1, f2, f3⟩ := bw4_ h
  have h2 := h.deep (d + 1)
  have H := Lib.hid h; clear h
  have H2 := Lib.hid h2; clear h2
  obtain ⟨b0, b1, b2, b3, g0, g1, g2, g3⟩ := bw4_ H2.out
  by_cases hd : d + 1 > 50
  · have hd2 : decide (50 < d + 1) = true := decide_eq_true hd
    go_enter Try.func151, Try.ntmps151
    go_wp2_with (go_at_call 82; refine (fail_any H2.out 4).mono ?_; rintro r w' ⟨rfl, hp, hc⟩)
    go_end0
    refine ⟨rfl, ?_, ((Chg.refl g w).set 2 _).trans hc⟩
    unfold dnE
    unfold flE at hp
    by_cases he : e = 0
    · rw [if_pos ⟨hd, he⟩]
      rw [if_pos he] at hp
      exact hp
    · rw [if_neg (fun q => he q.2)]
      rw [if_neg he] at hp
      exact hp
  · have hd2 : decide (50 < d + 1) = false := decide_eq_false hd
    go_enter Try.func151, Try.ntmps151
    go_wp2
    go_end0
    refine ⟨rfl, ?_, (Chg.refl g w).set 2 _⟩
    unfold dnE
    rw [if_neg (fun q => absurd q.1 (by omega))]
    exact H2.out
end Go.Proofs.Ytcfgjaggccnoaaa.PParseSmall
namespace Go.Proofs.Ytcfgjaggccnoaaa.PParseSmall
open Go.RowKit Go.Proofs.YtcfgjaggccnoaaaW.PrintWords Go.Proofs.YtcfgjaggccnoaaaW.PrintLast Go.Proofs.YtcfgjaggccnoaaaW.PrintMore
attribute [local go_sem] max2_int min2_int max_two min_two max_three min_three max_four min_four
set_option linter.unusedVariables false
set_option linter.unusedSimpArgs false
set_option maxRecDepth 100000
set_option maxHeartbeats 4000000
def tokP (l : List S91) (i e : Int) : S91 := if e = 0 ∧ i < l.length then rd_T91 l i else ⟨0, ⟨#[]⟩, 0, 0⟩
abbrev tkV (t : S91) : Value := .agg #[.int .i64 t.f0, .string t.f1, .int .i64 t.f2, .int .i64 t.f3]
theorem put4_ {W : World} {gb t : Nat} {c0 c1 c2 c3 v0 v1 v2 v3 : Value} (hb : W.heap[gb]? = some (.cells #[c0, c1, c2, c3] t (0, 0))) : ((((W.setCell ⟨gb, 0, none⟩ v0).setCell ⟨gb, 1, none⟩ v1).setCell ⟨gb, 2, none⟩ v2).setCell ⟨gb, 3, none⟩ v3).heap[gb]? = some (.cells #[v0, v1, v2, v3] t (0, 0)) := by
  replace hb := blk_put (cs := #[c0, c1, c2, c3]) (cs' := #[v0, c1, c2, c3]) hb 0 v0 rfl
  replace hb := blk_put (cs := #[v0, c1, c2, c3]) (cs' := #[v0, v1, c2, c3]) hb 1 v1 rfl
  replace hb := blk_put (cs := #[v0, v1, c2, c3]) (cs' := #[v0, v1, v2, c3]) hb 2 v2 rfl
  replace hb := blk_put (cs := #[v0, v1, v2, c3]) (cs' := #[v0, v1, v2, v3]) hb 3 v3 rfl
  exact hb
theorem put9_ {W : World} {gb t : Nat} {c0 c1 c2 c3 c4 c5 c6 c7 c8 v0 v1 v2 v3 v4 v5 v6 v7 v8 : Value} (hb : W.heap[gb]? = some (.cells #[c0, c1, c2, c3, c4, c5, c6, c7, c8] t (0, 0))) : (((((((((W.setCell ⟨gb, 0, none⟩ v0).setCell ⟨gb, 1, none⟩ v1).setCell ⟨gb, 2, none⟩ v2).setCell ⟨gb, 3, none⟩ v3).setCell ⟨gb, 4, none⟩ v4).setCell ⟨gb, 5, none⟩ v5).setCell ⟨gb, 6, none⟩ v6).setCell ⟨gb, 7, none⟩ v7).setCell ⟨gb, 8, none⟩ v8).heap[gb]? = some (.cells #[v0, v1, v2, v3, v4, v5, v6, v7, v8] t (0, 0)) := by
  replace hb := blk_put (cs := #[c0, c1, c2, c3, c4, c5, c6, c7, c8]) (cs' := #[v0, c1, c2, c3, c4, c5, c6, c7, c8]) hb 0 v0 rfl
  replace hb := blk_put (cs := #[v0, c1, c2, c3, c4, c5, c6, c7, c8]) (cs' := #[v0, v1, c2, c3, c4, c5, c6, c7, c8]) hb 1 v1 rfl
  replace hb := blk_put (cs := #[v0, v1, c2, c3, c4, c5, c6, c7, c8]) (cs' := #[v0, v1, v2, c3, c4, c5, c6, c7, c8]) hb 2 v2 rfl
  replace hb := blk_put (cs := #[v0, v1, v2, c3, c4, c5, c6, c7, c8]) (cs' := #[v0, v1, v2, v3, c4, c5, c6, c7, c8]) hb 3 v3 rfl
  replace hb := blk_put (cs := #[v0, v1, v2, v3, c4, c5, c6, c7, c8]) (cs' := #[v0, v1, v2, v3, v4, c5, c6, c7, c8]) hb 4 v4 rfl
  replace hb := blk_put (cs := #[v0, v1, v2, v3, v4, c5, c6, c7, c8]) (cs' := #[v0, v1, v2, v3, v4, v5, c6, c7, c8]) hb 5 v5 rfl
  replace hb := blk_put (cs := #[v0, v1, v2, v3, v4, v5, c6, c7, c8]) (cs' := #[v0, v1, v2, v3, v4, v5, v6, c7, c8]) hb 6 v6 rfl
  replace hb := blk_put (cs := #[v0, v1, v2, v3, v4, v5, v6, c7, c8]) (cs' := #[v0, v1, v2, v3, v4, v5, v6, v7, c8]) hb 7 v7 rfl
  replace hb := blk_put (cs := #[v0, v1, v2, v3, v4, v5, v6, v7, c8]) (cs' := #[v0, v1, v2, v3, v4, v5, v6, v7, v8]) hb 8 v8 rfl
  exact hb
theorem Kd.C_old {α : Type} {d : Kd α} {w W : World} {A : Option Addr} {n : Nat} {xs : List α} (h : Kd.C d w A n xs) (hb : Below w.heap.size w W) : Kd.C d W A n xs := Kd.C_below h hb
end Go.Proofs.Ytcfgjaggccnoaaa.PParseSmall
namespace Go.Proofs.Ytcfgjaggccnoaaa.PParseSmall
open Go.RowKit Go.Proofs.YtcfgjaggccnoaaaW.PrintWords Go.Proofs.YtcfgjaggccnoaaaW.PrintLast Go.Proofs.YtcfgjaggccnoaaaW.PrintMore
attribute [local go_sem] max2_int min2_int max_two min_two max_three min_three max_four min_four
set_option linter.unusedVariables false
set_option linter.unusedSimpArgs false
set_option maxRecDepth 100000
set_option maxHeartbeats 4000000
theorem tok_err {g : Nat} {A : Option Addr} {n c : Nat} {i d e : Int} {w : World} (h : Ps w g A n c i d e) (he : e ≠ 0) :
    Calls Try.prog 81 #[.pointer (some ⟨g, 0, none⟩)] w fun r w' => r = .returned (tkV ⟨0, ⟨#[]⟩, 0, 0⟩) ∧ Below w.heap.size w w' := by
  have HE := Lib.hid he; clear he
  have H := Lib.hid h; clear h
  go_enter Try.func81, Try.ntmps81
  go_wp2_with (((with_reducible refine gate_dst (N := 2) rfl ?_); refine box_event ?hg (N := 2) ?hd (cs := #[.int .i64 0, .string (⟨#[]⟩ : ByteArray), .int .i64 0, .int .i64 0]) (t := 91) ?hr ?_; (case hd => rfl); (case hg => rfl); (case hr => first | (go_simp; done) | (go_simp; rfl)); intro gb hg_ w1 hb_ hl_; have BKgb := am_ hb_; have HLgb := am_ hl_; have HGgb := am_ (Nat.le_of_eq hg_.symm); obtain ⟨zgb_0, zgb_1, zgb_2, zgb_3, ygb_0, ygb_1, ygb_2, ygb_3⟩ := bw4_ hb_; clear hb_ hl_ hg_; simp only [Act.put, sa_, sz_, ss_]))
  have H1 := Lib.hid (H.out.below HLgb.out); have HL := HLgb
  obtain ⟨c0, c1, c2, c3, f0, f1, f2, f3⟩ := bw4_ H1.out
  have HG := HGgb
  go_quiet ((go_at_call 43; exact Calls.quiet_of_same (ok_no (H1.out.drewN _) HE.out)))
  go_wp2
  exact bodyPost_ret (results_cell_row rfl _ _ gb 91 #[.int .i64 0, .string (⟨#[]⟩ : ByteArray), .int .i64 0, .int .i64 0] (0, 0) _ rfl (put4_ BKgb.out) Try.underlying91 rfl (by kernel_rfl)) rfl ⟨rfl, by repeat (first | (with_reducible exact HL.out) | refine below_set ?_ HG.out | apply pw_below_drewN)⟩
theorem tok_end {g : Nat} {A : Option Addr} {n c : Nat} {i d : Int} {w : World} (h : Ps w g A n c i d 0) (hi : (n : Int) ≤ i) :
    Calls Try.prog 81 #[.pointer (some ⟨g, 0, none⟩)] w fun r w' => r = .returned (tkV ⟨0, ⟨#[]⟩, 0, 0⟩) ∧ Below w.heap.size w w' := by
  have hd : decide ((n : Int) ≤ i) = true := decide_eq_true hi
  have H := Lib.hid h; clear h
  go_enter Try.func81, Try.ntmps81
  go_wp2_with (((with_reducible refine gate_dst (N := 2) rfl ?_); refine box_event ?hg (N := 2) ?hd (cs := #[.int .i64 0, .string (⟨#[]⟩ : ByteArray), .int .i64 0, .int .i64 0]) (t := 91) ?hr ?_; (case hd => rfl); (case hg => rfl); (case hr => first | (go_simp; done) | (go_simp; rfl)); intro gb hg_ w1 hb_ hl_; have BKgb := am_ hb_; have HLgb := am_ hl_; have HGgb := am_ (Nat.le_of_eq hg_.symm); obtain ⟨zgb_0, zgb_1, zgb_2, zgb_3, ygb_0, ygb_1, ygb_2, ygb_3⟩ := bw4_ hb_; clear hb_ hl_ hg_; simp only [Act.put, sa_, sz_, ss_]))
  have H1 := Lib.hid (H.out.below HLgb.out); have HL := HLgb
  obtain ⟨c0, c1, c2, c3, f0, f1, f2, f3⟩ := bw4_ H1.out
  have HG := HGgb
  go_quiet ((go_at_call 43; exact Calls.quiet_of_same (ok_yes (H1.out.drewN _))))
  go_wp2
  exact bodyPost_ret (results_cell_row rfl _ _ gb 91 #[.int .i64 0, .string (⟨#[]⟩ : ByteArray), .int .i64 0, .int .i64 0] (0, 0) _ rfl (put4_ BKgb.out) Try.underlying91 rfl (by kernel_rfl)) rfl ⟨rfl, by repeat (first | (with_reducible exact HL.out) | refine below_set ?_ HG.out | apply pw_below_drewN)⟩
theorem tok_in {g n : Nat} {A : Option Addr} {c : Nat} {i d : Int} {w : World} {l : List S91} (h : Ps w g A n c i d 0) (hC : Kd.C k91 w A n l) (h0 : 0 ≤ i) (hi : i < (n : Int)) :
    Calls Try.prog 81 #[.pointer (some ⟨g, 0, none⟩)] w fun r w' => r = .returned (tkV (rd_T91 l i)) ∧ Below w.heap.size w w' := by
  have hd : decide ((n : Int) ≤ i) = false := decide_eq_false (by omega)
  have H := Lib.hid h; have HC := Lib.hid hC; clear h hC
  go_enter Try.func81, Try.ntmps81
  go_wp2_with (((with_reducible refine gate_dst (N := 2) rfl ?_); refine box_event ?hg (N := 2) ?hd (cs := #[.int .i64 0, .string (⟨#[]⟩ : ByteArray), .int .i64 0, .int .i64 0]) (t := 91) ?hr ?_; (case hd => rfl); (case hg => rfl); (case hr => first | (go_simp; done) | (go_simp; rfl)); intro gb hg_ w1 hb_ hl_; have BKgb := am_ hb_; have HLgb := am_ hl_; have HGgb := am_ (Nat.le_of_eq hg_.symm); obtain ⟨zgb_0, zgb_1, zgb_2, zgb_3, ygb_0, ygb_1, ygb_2, ygb_3⟩ := bw4_ hb_; clear hb_ hl_ hg_; simp only [Act.put, sa_, sz_, ss_]))
  have H1 := Lib.hid (H.out.below HLgb.out)
  obtain ⟨ad, rfl, t0, t1, t2, t3⟩ := at_T91 (Kd.C_old HC.out HLgb.out) i h0 hi
  have HL := HLgb
  obtain ⟨c0, c1, c2, c3, f0, f1, f2, f3⟩ := bw4_ H1.out
  have HG := HGgb
  go_quiet ((go_at_call 43; exact Calls.quiet_of_same (ok_yes (H1.out.drewN _))))
  go_wp2
  have H2 := H1.out.drewN nq; have HL2 := pw_below_drewN HL.out nq; have B2 := blk_drewN BKgb.out nq
  obtain ⟨ad2, e2, t0', t1', t2', t3'⟩ := at_T91 (Kd.C_old HC.out HL2) i h0 hi
  obtain rfl : ad = ad2 := by injection e2
  clear c0 c1 c2 c3 f0 f1 f2 f3 zgb_0 zgb_1 zgb_2 zgb_3 ygb_0 ygb_1 ygb_2 ygb_3 t0 t1 t2 t3 H1 HL BKgb HLgb e2
  generalize w1.drewN nq = w2 at *
  have H3 := Lib.hid H2; have HL3 := Lib.hid HL2; clear H2 HL2
  obtain ⟨c0, c1, c2, c3, f0, f1, f2, f3⟩ := bw4_ H3.out
  obtain ⟨b0, b1, b2, b3, k0, k1, k2, k3⟩ := bw4_ B2
  go_still_tail 10, (by kernel_rfl)
  change wpList _ _ _ _ _ w2.drew
  go_wp2
  exact bodyPost_ret (results_cell_row rfl _ _ gb 91 #[.int .i64 (rd_T91 l i).f0, .string (rd_T91 l i).f1, .int .i64 (rd_T91 l i).f2, .int .i64 (rd_T91 l i).f3] (0, 0) _ rfl (put4_ (blk_drew B2)) Try.underlying91 rfl (by kernel_rfl)) rfl ⟨rfl, by repeat (first | (with_reducible exact HL3.out) | refine below_set ?_ HG.out | apply pw_below_drewN | refine Below.drew ?_)⟩
theorem tok_any {g : Nat} {A : Option Addr} {c : Nat} {i d e : Int} {w : World} {l : List S91} (h : Ps w g A l.length c i d e) (hC : Kd.C k91 w A l.length l) (h0 : 0 ≤ i) :
    Calls Try.prog 81 #[.pointer (some ⟨g, 0, none⟩)] w fun r w' => r = .returned (tkV (tokP l i e)) ∧ Below w.heap.size w w' := by
  unfold tokP
  by_cases he : e = 0
  · subst he
    by_cases hi : i < l.length
    · rw [if_pos ⟨rfl, hi⟩]
      exact tok_in h hC h0 hi
    · rw [if_neg (fun q => hi q.2)]
      exact tok_end h (by omega)
  · rw [if_neg (fun q => he q.1)]
    exact tok_err h he
end Go.Proofs.Ytcfgjaggccnoaaa.PParseSmall
namespace Go.Proofs.Ytcfgjaggccnoaaa.PParseSmall
open Go.RowKit Go.Proofs.YtcfgjaggccnoaaaW.PrintWords Go.Proofs.YtcfgjaggccnoaaaW.PrintLast Go.Proofs.YtcfgjaggccnoaaaW.PrintMore
attribute [local go_sem] max2_int min2_int max_two min_two max_three min_three max_four min_four
set_option linter.unusedVariables false
set_option linter.unusedSimpArgs false
set_option maxRecDepth 100000
set_option maxHeartbeats 4000000
def isT (t : S91) (s : ByteArray) : Bool := (t.f0 == 2 || t.f0 == 5) && (t.f1.toList == s.toList)
def isP (l : List S91) (i e : Int) (s : ByteArray) : Bool := e == 0 && isT (tokP l i e) s
theorem ne_of_le {a b c : Nat} (h : a < b) (k : b ≤ c) : c ≠ a := by omega
theorem is_any {g : Nat} {A : Option Addr} {c : Nat} {i d e : Int} {w : World} {l : List S91} (h : Ps w g A l.length c i d e) (hC : Kd.C k91 w A l.length l) (h0 : 0 ≤ i) (s : ByteArray) :
    Calls Try.prog 148 #[.pointer (some ⟨g, 0, none⟩), .string s] w fun r w' => r = .returned (.bool (isP l i e s)) ∧ Below w.heap.size w w' := by
  have T := Lib.hid (tok_any h hC h0)
  unfold isP
  generalize tokP l i e = t at *
  have H := Lib.hid h; clear h hC h0
  by_cases he : e = 0
  · subst he
    by_cases k2 : t.f0 = 2
    · have q2 : (t.f0 == 2) = true := beq_iff_eq.2 k2
      have r2 : isT t s = (t.f1.toList == s.toList) := by unfold isT; rw [q2]; rfl
      have R := am_ r2; clear r2 k2
      go_enter Try.func148, Try.ntmps148
      go_wp2_with (first | ((with_reducible refine gate_callee (f := 81) rfl ?_); refine goesL_ (some 7) rfl rfl Try.func81 (by kernel_rfl) rfl #[.pointer (some ⟨g, 0, none⟩)] rfl (by (try simp only [List.map_toArray, List.map_cons, List.map_nil]); first | done | rfl) ?_; refine (T.out).mono ?_; rintro r' w1 ⟨rfl, hb1⟩; refine ⟨_, rfl, ?_⟩; simp only [Act.put, sa_, sz_, ss_]) | (((with_reducible refine gate_dst (N := 5) rfl ?_); refine box_event ?hg (N := 5) ?hd (cs := #[.int .i64 0, .string (⟨#[]⟩ : ByteArray), .int .i64 0, .int .i64 0]) (t := 91) ?hr ?_; (case hd => rfl); (case hg => rfl); (case hr => first | (go_simp; done) | (go_simp; rfl)); intro gb hg_ w2 hb_ hl_; have BKgb := am_ hb_; have HLgb := am_ hl_; have HGgb := am_ (Nat.le_of_eq hg_.symm); obtain ⟨zgb_0, zgb_1, zgb_2, zgb_3, ygb_0, ygb_1, ygb_2, ygb_3⟩ := bw4_ hb_; clear hb_ hl_ hg_; simp only [Act.put, sa_, sz_, ss_])) | (go_at_call 43; have H1 := H.out.below hb1; have HN := am_ (ne_of_le H1.lt HGgb.out); have H2 := am_ (H1.below HLgb.out); refine (ok_yes (A := A) (n := l.length) (c := c) (i := i) (d := d) ?hp).mono ?_; (case hp => repeat (first | (with_reducible exact H2.out) | refine Ps.far ?_ HN.out _)); rintro r' w4 ⟨rfl, rfl⟩))
      have HX := am_ (hb1.trans (HLgb.out.mono hb1.size)); have HY := am_ (Nat.le_trans hb1.size HGgb.out)
      go_ret
      exact ⟨by rw [R.out]; rfl, by repeat (first | (with_reducible exact HX.out) | refine below_set ?_ HY.out)⟩
    · have q2 : (t.f0 == 2) = false := beq_eq_false_iff_ne.2 k2
      by_cases k5 : t.f0 = 5
      · have q5 : (t.f0 == 5) = true := beq_iff_eq.2 k5
        have r2 : isT t s = (t.f1.toList == s.toList) := by unfold isT; rw [q2, q5]; rfl
        have R := am_ r2; clear r2 k2 k5
        go_enter Try.func148, Try.ntmps148
        go_wp2_with (first | ((with_reducible refine gate_callee (f := 81) rfl ?_); refine goesL_ (some 7) rfl rfl Try.func81 (by kernel_rfl) rfl #[.pointer (some ⟨g, 0, none⟩)] rfl (by (try simp only [List.map_toArray, List.map_cons, List.map_nil]); first | done | rfl) ?_; refine (T.out).mono ?_; rintro r' w1 ⟨rfl, hb1⟩; refine ⟨_, rfl, ?_⟩; simp only [Act.put, sa_, sz_, ss_]) | (((with_reducible refine gate_dst (N := 5) rfl ?_); refine box_event ?hg (N := 5) ?hd (cs := #[.int .i64 0, .string (⟨#[]⟩ : ByteArray), .int .i64 0, .int .i64 0]) (t := 91) ?hr ?_; (case hd => rfl); (case hg => rfl); (case hr => first | (go_simp; done) | (go_simp; rfl)); intro gb hg_ w2 hb_ hl_; have BKgb := am_ hb_; have HLgb := am_ hl_; have HGgb := am_ (Nat.le_of_eq hg_.symm); obtain ⟨zgb_0, zgb_1, zgb_2, zgb_3, ygb_0, ygb_1, ygb_2, ygb_3⟩ := bw4_ hb_; clear hb_ hl_ hg_; simp only [Act.put, sa_, sz_, ss_])) | (go_at_call 43; have H1 := H.out.below hb1; have HN := am_ (ne_of_le H1.lt HGgb.out); have H2 := am_ (H1.below HLgb.out); refine (ok_yes (A := A) (n := l.length) (c := c) (i := i) (d := d) ?hp).mono ?_; (case hp => repeat (first | (with_reducible exact H2.out) | refine Ps.far ?_ HN.out _)); rintro r' w4 ⟨rfl, rfl⟩))
        have HX := am_ (hb1.trans (HLgb.out.mono hb1.size)); have HY := am_ (Nat.le_trans hb1.size HGgb.out)
        go_ret
        exact ⟨by rw [R.out]; rfl, by repeat (first | (with_reducible exact HX.out) | refine below_set ?_ HY.out)⟩
      · have q5 : (t.f0 == 5) = false := beq_eq_false_iff_ne.2 k5
        have r2 : isT t s = false := by unfold isT; rw [q2, q5]; rfl
        have R := am_ r2; clear r2 k2 k5
        go_enter Try.func148, Try.ntmps148
        go_wp2_with (first | ((with_reducible refine gate_callee (f := 81) rfl ?_); refine goesL_ (some 7) rfl rfl Try.func81 (by kernel_rfl) rfl #[.pointer (some ⟨g, 0, none⟩)] rfl (by (try simp only [List.map_toArray, List.map_cons, List.map_nil]); first | done | rfl) ?_; refine (T.out).mono ?_; rintro r' w1 ⟨rfl, hb1⟩; refine ⟨_, rfl, ?_⟩; simp only [Act.put, sa_, sz_, ss_]) | (((with_reducible refine gate_dst (N := 5) rfl ?_); refine box_event ?hg (N := 5) ?hd (cs := #[.int .i64 0, .string (⟨#[]⟩ : ByteArray), .int .i64 0, .int .i64 0]) (t := 91) ?hr ?_; (case hd => rfl); (case hg => rfl); (case hr => first | (go_simp; done) | (go_simp; rfl)); intro gb hg_ w2 hb_ hl_; have BKgb := am_ hb_; have HLgb := am_ hl_; have HGgb := am_ (Nat.le_of_eq hg_.symm); obtain ⟨zgb_0, zgb_1, zgb_2, zgb_3, ygb_0, ygb_1, ygb_2, ygb_3⟩ := bw4_ hb_; clear hb_ hl_ hg_; simp only [Act.put, sa_, sz_, ss_])) | (go_at_call 43; have H1 := H.out.below hb1; have HN := am_ (ne_of_le H1.lt HGgb.out); have H2 := am_ (H1.below HLgb.out); refine (ok_yes (A := A) (n := l.length) (c := c) (i := i) (d := d) ?hp).mono ?_; (case hp => repeat (first | (with_reducible exact H2.out) | refine Ps.far ?_ HN.out _)); rintro r' w4 ⟨rfl, rfl⟩))
        have HX := am_ (hb1.trans (HLgb.out.mono hb1.size)); have HY := am_ (Nat.le_trans hb1.size HGgb.out)
        go_ret
        exact ⟨by rw [R.out]; rfl, by repeat (first | (with_reducible exact HX.out) | refine below_set ?_ HY.out)⟩
  · have HE := am_ he
    have r2 : (e == 0 && isT t s) = false := by rw [beq_eq_false_iff_ne.2 he]; rfl
    have R := am_ r2; clear r2 he
    go_enter Try.func148, Try.ntmps148
    go_wp2_with (first | ((with_reducible refine gate_callee (f := 81) rfl ?_); refine goesL_ (some 7) rfl rfl Try.func81 (by kernel_rfl) rfl #[.pointer (some ⟨g, 0, none⟩)] rfl (by (try simp only [List.map_toArray, List.map_cons, List.map_nil]); first | done | rfl) ?_; refine (T.out).mono ?_; rintro r' w1 ⟨rfl, hb1⟩; refine ⟨_, rfl, ?_⟩; simp only [Act.put, sa_, sz_, ss_]) | (((with_reducible refine gate_dst (N := 5) rfl ?_); refine box_event ?hg (N := 5) ?hd (cs := #[.int .i64 0, .string (⟨#[]⟩ : ByteArray), .int .i64 0, .int .i64 0]) (t := 91) ?hr ?_; (case hd => rfl); (case hg => rfl); (case hr => first | (go_simp; done) | (go_simp; rfl)); intro gb hg_ w2 hb_ hl_; have BKgb := am_ hb_; have HLgb := am_ hl_; have HGgb := am_ (Nat.le_of_eq hg_.symm); obtain ⟨zgb_0, zgb_1, zgb_2, zgb_3, ygb_0, ygb_1, ygb_2, ygb_3⟩ := bw4_ hb_; clear hb_ hl_ hg_; simp only [Act.put, sa_, sz_, ss_])) | (go_at_call 43; have H1 := H.out.below hb1; have HN := am_ (ne_of_le H1.lt HGgb.out); have H2 := am_ (H1.below HLgb.out); refine (ok_no (A := A) (n := l.length) (c := c) (i := i) (d := d) (e := e) ?hp HE.out).mono ?_; (case hp => repeat (first | (with_reducible exact H2.out) | refine Ps.far ?_ HN.out _)); rintro r' w4 ⟨rfl, rfl⟩))
    have HX := am_ (hb1.trans (HLgb.out.mono hb1.size)); have HY := am_ (Nat.le_trans hb1.size HGgb.out)
    go_ret
    exact ⟨by rw [R.out]; rfl, by repeat (first | (with_reducible exact HX.out) | refine below_set ?_ HY.out)⟩
theorem take_yes {g : Nat} {A : Option Addr} {c : Nat} {i d e : Int} {w : World} {l : List S91} (h : Ps w g A l.length c i d e) (hC : Kd.C k91 w A l.length l) (h0 : 0 ≤ i) (h1 : i ≤ l.length) (hl : l.length ≤ 1000000) (s : ByteArray) (hs : isP l i e s = true) :
    Calls Try.prog 121 #[.pointer (some ⟨g, 0, none⟩), .string s] w fun r w' => r = .returned (.bool true) ∧ Ps w' g A l.length c (i + 1) d e ∧ Chg g w w' := by
  have T := Lib.hid (is_any h hC h0 s); rw [hs] at T
  have HL := Lib.hid (show g < w.heap.size from h.lt)
  have H := Lib.hid h; have h2 : i ≤ 1000000 := by omega
  clear h hC hs h1 hl
  go_enter Try.func121, Try.ntmps121
  go_wp2_with (((with_reducible refine gate_callee (f := 148) rfl ?_); refine goesL_ (some 7) rfl rfl Try.func148 (by kernel_rfl) rfl #[.pointer (some ⟨g, 0, none⟩), .string s] rfl (by (try simp only [List.map_toArray, List.map_cons, List.map_nil]); first | done | rfl) ?_; refine (T.out).mono ?_; rintro r' w1 ⟨rfl, hb1⟩; refine ⟨_, rfl, ?_⟩; simp only [Act.put, sa_, sz_, ss_]; have H1 := H.out.below hb1; have HB := Lib.hid hb1; clear hb1; obtain ⟨c0, c1, c2, c3, f0, f1, f2, f3⟩ := bw4_ H1; have H2 := Lib.hid (H1.at_ (i + 1)); clear H1))
  go_ret
  exact ⟨rfl, H2.out, (Chg.below HL.out HB.out).set 1 _⟩
theorem take_no {g : Nat} {A : Option Addr} {c : Nat} {i d e : Int} {w : World} {l : List S91} (h : Ps w g A l.length c i d e) (hC : Kd.C k91 w A l.length l) (h0 : 0 ≤ i) (s : ByteArray) (hs : isP l i e s = false) :
    Calls Try.prog 121 #[.pointer (some ⟨g, 0, none⟩), .string s] w fun r w' => r = .returned (.bool false) ∧ Ps w' g A l.length c i d e ∧ Chg g w w' := by
  have T := Lib.hid (is_any h hC h0 s); rw [hs] at T
  have HL := Lib.hid (show g < w.heap.size from h.lt)
  have H := Lib.hid h; clear h hC hs
  go_enter Try.func121, Try.ntmps121
  go_wp2_with (((with_reducible refine gate_callee (f := 148) rfl ?_); refine goesL_ (some 7) rfl rfl Try.func148 (by kernel_rfl) rfl #[.pointer (some ⟨g, 0, none⟩), .string s] rfl (by (try simp only [List.map_toArray, List.map_cons, List.map_nil]); first | done | rfl) ?_; refine (T.out).mono ?_; rintro r' w1 ⟨rfl, hb1⟩; refine ⟨_, rfl, ?_⟩; simp only [Act.put, sa_, sz_, ss_]))
  go_wp2
  go_ret
  exact ⟨rfl, H.out.below hb1, Chg.below HL.out hb1⟩
theorem must_yes {g : Nat} {A : Option Addr} {c : Nat} {i d e : Int} {w : World} {l : List S91} (h : Ps w g A l.length c i d e) (hC : Kd.C k91 w A l.length l) (h0 : 0 ≤ i) (h1 : i ≤ l.length) (hl : l.length ≤ 1000000) (s : ByteArray) (hs : isP l i e s = true) :
    Calls Try.prog 160 #[.pointer (some ⟨g, 0, none⟩), .string s] w fun r w' => r = .returned (.tuple #[]) ∧ Ps w' g A l.length c (i + 1) d e ∧ Chg g w w' := by
  have T := Lib.hid (take_yes h hC h0 h1 hl s hs); clear h hC hs
  go_enter Try.func160, Try.ntmps160
  go_wp2_with (((with_reducible refine gate_callee (f := 121) rfl ?_); refine goesL_ (some 6) rfl rfl Try.func121 (by kernel_rfl) rfl #[.pointer (some ⟨g, 0, none⟩), .string s] rfl (by (try simp only [List.map_toArray, List.map_cons, List.map_nil]); first | done | rfl) ?_; refine (T.out).mono ?_; rintro r' w1 ⟨rfl, hp, hc⟩; refine ⟨_, rfl, ?_⟩; simp only [Act.put, sa_, sz_, ss_]))
  go_wp2
  go_end0
  exact ⟨rfl, hp, hc⟩
theorem must_no {g : Nat} {A : Option Addr} {c : Nat} {i d e : Int} {w : World} {l : List S91} (h : Ps w g A l.length c i d e) (hC : Kd.C k91 w A l.length l) (h0 : 0 ≤ i) (s : ByteArray) (hs : isP l i e s = false) :
    Calls Try.prog 160 #[.pointer (some ⟨g, 0, none⟩), .string s] w fun r w' => r = .returned (.tuple #[]) ∧ Ps w' g A l.length c i d (flE e 1) ∧ Chg g w w' := by
  have T := Lib.hid (take_no h hC h0 s hs); clear h hC hs
  go_enter Try.func160, Try.ntmps160
  go_wp2_with (first | ((with_reducible refine gate_callee (f := 121) rfl ?_); refine goesL_ (some 6) rfl rfl Try.func121 (by kernel_rfl) rfl #[.pointer (some ⟨g, 0, none⟩), .string s] rfl (by (try simp only [List.map_toArray, List.map_cons, List.map_nil]); first | done | rfl) ?_; refine (T.out).mono ?_; rintro r' w1 ⟨rfl, hp, hc⟩; refine ⟨_, rfl, ?_⟩; simp only [Act.put, sa_, sz_, ss_]) | (go_at_call 82; refine (fail_any hp 1).mono ?_; rintro r' w2 ⟨rfl, hp2, hc2⟩))
  go_end0
  exact ⟨rfl, hp2, hc.trans hc2⟩
end Go.Proofs.Ytcfgjaggccnoaaa.PParseSmall
namespace Go.Proofs.Ytcfgjaggccnoaaa.PParseSmall
open Go.RowKit Go.Proofs.YtcfgjaggccnoaaaW.PrintWords Go.Proofs.YtcfgjaggccnoaaaW.PrintLast Go.Proofs.YtcfgjaggccnoaaaW.PrintMore
attribute [local go_sem] max2_int min2_int max_two min_two max_three min_three max_four min_four
set_option linter.unusedVariables false
set_option linter.unusedSimpArgs false
set_option maxRecDepth 100000
set_option maxHeartbeats 4000000
theorem Chg.far {g b : Nat} {w w1 : World} (h : Chg g w w1) (hp : w.heap.size ≤ b) (hg : g ≤ b) (j : Nat) (u : Value) : Chg g w (w1.setCell ⟨b, j, none⟩ u) := ⟨h.1.setCell hg _, keep_far h.2 hp u⟩
theorem name_yes {g : Nat} {A : Option Addr} {c : Nat} {i d e : Int} {w : World} {l : List S91} (h : Ps w g A l.length c i d e) (hC : Kd.C k91 w A l.length l) (h0 : 0 ≤ i) (h1 : i ≤ l.length) (hl : l.length ≤ 1000000) (hk : (tokP l i e).f0 = 1) :
    Calls Try.prog 194 #[.pointer (some ⟨g, 0, none⟩)] w fun r w' => r = .returned (.string (tokP l i e).f1) ∧ Ps w' g A l.length c (i + 1) d e ∧ Chg g w w' := by
  have T := Lib.hid (tok_any h hC h0)
  have HL := Lib.hid (show g < w.heap.size from h.lt)
  have H := Lib.hid h; have h2 : i ≤ 1000000 := by omega
  clear h hC h1 hl
  generalize tokP l i e = t at *
  have q1 : (t.f0 == 1) = true := beq_iff_eq.2 hk
  have q2 : (t.f0 != 1) = false := by rw [hk]; rfl
  clear hk
  go_enter Try.func194, Try.ntmps194
  go_wp2_with (first | ((with_reducible refine gate_callee (f := 81) rfl ?_); refine goesL_ (some 5) rfl rfl Try.func81 (by kernel_rfl) rfl #[.pointer (some ⟨g, 0, none⟩)] rfl (by (try simp only [List.map_toArray, List.map_cons, List.map_nil]); first | done | rfl) ?_; refine (T.out).mono ?_; rintro r' w1 ⟨rfl, hb1⟩; refine ⟨_, rfl, ?_⟩; simp only [Act.put, sa_, sz_, ss_]; have H1 := Lib.hid (H.out.below hb1); have HB := Lib.hid hb1; clear hb1) | (((with_reducible refine gate_dst (N := 3) rfl ?_); refine box_event ?hg (N := 3) ?hd (cs := #[.int .i64 0, .string (⟨#[]⟩ : ByteArray), .int .i64 0, .int .i64 0]) (t := 91) ?hr ?_; (case hd => rfl); (case hg => rfl); (case hr => first | (go_simp; done) | (go_simp; rfl)); intro gb hg_ w2 hb_ hl_; have BKgb := am_ hb_; have HLgb := am_ hl_; have HGgb := am_ (Nat.le_of_eq hg_.symm); obtain ⟨zgb_0, zgb_1, zgb_2, zgb_3, ygb_0, ygb_1, ygb_2, ygb_3⟩ := bw4_ hb_; clear hb_ hl_ hg_; simp only [Act.put, sa_, sz_, ss_]); have H2 := H1.out.below HLgb.out; obtain ⟨c0, c1, c2, c3, f0, f1, f2, f3⟩ := bw4_ H2; have HN := ne_of_le H1.out.lt HGgb.out; have HM := HN.symm; have H3 := Lib.hid H2; clear H2))
  have HY := am_ (Nat.le_trans HB.out.size HGgb.out); have HZ := am_ (Nat.le_trans (Nat.le_of_lt HL.out) HY.out)
  have HQ := am_ ((Chg.below HL.out HB.out).trans (Chg.below H1.out.lt HLgb.out))
  go_ret
  refine ⟨rfl, ?_, ?_⟩
  · refine Ps.at_ (i := i) ?_ _
    repeat (first | (with_reducible exact H3.out) | refine Ps.far ?_ HN _)
  · repeat (first | (with_reducible exact HQ.out) | refine Chg.set ?_ _ _ | refine Chg.far ?_ HY.out HZ.out _ _)
theorem name_no {g : Nat} {A : Option Addr} {c : Nat} {i d e : Int} {w : World} {l : List S91} (h : Ps w g A l.length c i d e) (hC : Kd.C k91 w A l.length l) (h0 : 0 ≤ i) (hk : (tokP l i e).f0 ≠ 1) :
    Calls Try.prog 194 #[.pointer (some ⟨g, 0, none⟩)] w fun r w' => r = .returned (.string ⟨#[]⟩) ∧ Ps w' g A l.length c i d (flE e 1) ∧ Chg g w w' := by
  have T := Lib.hid (tok_any h hC h0)
  have HL := Lib.hid (show g < w.heap.size from h.lt)
  have H := Lib.hid h
  clear h hC
  generalize tokP l i e = t at *
  have q2 : (t.f0 != 1) = true := bne_iff_ne.2 hk
  clear hk
  go_enter Try.func194, Try.ntmps194
  go_wp2_with (first | ((with_reducible refine gate_callee (f := 81) rfl ?_); refine goesL_ (some 5) rfl rfl Try.func81 (by kernel_rfl) rfl #[.pointer (some ⟨g, 0, none⟩)] rfl (by (try simp only [List.map_toArray, List.map_cons, List.map_nil]); first | done | rfl) ?_; refine (T.out).mono ?_; rintro r' w1 ⟨rfl, hb1⟩; refine ⟨_, rfl, ?_⟩; simp only [Act.put, sa_, sz_, ss_]; have H1 := Lib.hid (H.out.below hb1); have HB := Lib.hid hb1; clear hb1) | (((with_reducible refine gate_dst (N := 3) rfl ?_); refine box_event ?hg (N := 3) ?hd (cs := #[.int .i64 0, .string (⟨#[]⟩ : ByteArray), .int .i64 0, .int .i64 0]) (t := 91) ?hr ?_; (case hd => rfl); (case hg => rfl); (case hr => first | (go_simp; done) | (go_simp; rfl)); intro gb hg_ w2 hb_ hl_; have BKgb := am_ hb_; have HLgb := am_ hl_; have HGgb := am_ (Nat.le_of_eq hg_.symm); obtain ⟨zgb_0, zgb_1, zgb_2, zgb_3, ygb_0, ygb_1, ygb_2, ygb_3⟩ := bw4_ hb_; clear hb_ hl_ hg_; simp only [Act.put, sa_, sz_, ss_]); have HN := am_ (ne_of_le H1.out.lt HGgb.out); have H3 := Lib.hid (H1.out.below HLgb.out)) | (go_at_call 82; refine (fail_any (A := A) (n := l.length) (c := c) (i := i) (d := d) (e := e) ?hp 1).mono ?_; (case hp => repeat (first | (with_reducible exact H3.out) | refine Ps.far ?_ HN.out _)); rintro r' w3 ⟨rfl, hp3, hc3⟩))
  have HY := am_ (Nat.le_trans HB.out.size HGgb.out); have HZ := am_ (Nat.le_trans (Nat.le_of_lt HL.out) HY.out)
  have HQ := am_ ((Chg.below HL.out HB.out).trans (Chg.below H1.out.lt HLgb.out))
  go_ret
  refine ⟨rfl, hp3, Chg.trans ?_ hc3⟩
  repeat (first | (with_reducible exact HQ.out) | refine Chg.far ?_ HY.out HZ.out _ _)
theorem field91 (w : World) (x y z : Int) (s : ByteArray) : (Instr.field 91 (.agg #[.int .i64 x, .string s, .int .i64 y, .int .i64 z]) 0).run Try.prog w = .ok (.int .i64 x) w := by kernel_rfl
theorem tok_agg {g : Nat} {A : Option Addr} {c : Nat} {i d e : Int} {w : World} {l : List S91} (h : Ps w g A l.length c i d e) (hC : Kd.C k91 w A l.length l) (h0 : 0 ≤ i) (t : S91) (ht : tokP l i e = t) :
    Calls Try.prog 81 #[.pointer (some ⟨g, 0, none⟩)] w fun r w' => r = .returned (.agg #[.int .i64 t.f0, .string t.f1, .int .i64 t.f2, .int .i64 t.f3]) ∧ Below w.heap.size w w' := ht ▸ tok_any h hC h0
theorem end_err {g : Nat} {A : Option Addr} {n c : Nat} {i d e : Int} {w : World} (h : Ps w g A n c i d e) (he : e ≠ 0) :
    Calls Try.prog 42 #[.pointer (some ⟨g, 0, none⟩)] w fun r w' => r = .returned (.tuple #[]) ∧ Ps w' g A n c i d e ∧ Chg g w w' := by
  have HE := Lib.hid he; have H := Lib.hid h; clear he h
  go_enter Try.func42, Try.ntmps42
  go_wp2_with (go_at_call 43; refine (ok_no H.out HE.out).mono ?_; rintro r' w4 ⟨rfl, rfl⟩)
  go_end0
  exact ⟨rfl, H.out, Chg.refl _ _⟩
theorem end_ok {g : Nat} {A : Option Addr} {c : Nat} {i d : Int} {w : World} {l : List S91} (h : Ps w g A l.length c i d 0) (hC : Kd.C k91 w A l.length l) (h0 : 0 ≤ i) (hk : (tokP l i 0).f0 = 0) :
    Calls Try.prog 42 #[.pointer (some ⟨g, 0, none⟩)] w fun r w' => r = .returned (.tuple #[]) ∧ Ps w' g A l.length c i d 0 ∧ Chg g w w' := by
  obtain ⟨t, ht⟩ : ∃ t, tokP l i 0 = t := ⟨_, rfl⟩
  have T := Lib.hid (tok_agg h hC h0 t ht)
  rw [ht] at hk
  have HL := Lib.hid (show g < w.heap.size from h.lt)
  have H := Lib.hid h
  have q2 : (t.f0 != 0) = false := by rw [hk]; rfl
  clear h hC ht hk
  have hu91 := field91
  go_enter Try.func42, Try.ntmps42
  go_wp2_with (first | (go_at_call 43; refine (ok_yes H.out).mono ?_; rintro r' w4 ⟨rfl, rfl⟩) | (go_at_call 81; refine T.out.mono ?_; rintro r' w1 ⟨rfl, hb1⟩; have H1 := Lib.hid (H.out.below hb1); have HB := Lib.hid hb1; clear hb1))
  go_end0
  exact ⟨rfl, H1.out, Chg.below HL.out HB.out⟩
theorem end_no {g : Nat} {A : Option Addr} {c : Nat} {i d : Int} {w : World} {l : List S91} (h : Ps w g A l.length c i d 0) (hC : Kd.C k91 w A l.length l) (h0 : 0 ≤ i) (hk : (tokP l i 0).f0 ≠ 0) :
    Calls Try.prog 42 #[.pointer (some ⟨g, 0, none⟩)] w fun r w' => r = .returned (.tuple #[]) ∧ Ps w' g A l.length c i d 1 ∧ Chg g w w' := by
  obtain ⟨t, ht⟩ : ∃ t, tokP l i 0 = t := ⟨_, rfl⟩
  have T := Lib.hid (tok_agg h hC h0 t ht)
  rw [ht] at hk
  have HL := Lib.hid (show g < w.heap.size from h.lt)
  have H := Lib.hid h
  have q2 : (t.f0 != 0) = true := bne_iff_ne.2 hk
  clear h hC ht hk
  have hu91 := field91
  go_enter Try.func42, Try.ntmps42
  go_wp2_with (first | (go_at_call 43; refine (ok_yes H.out).mono ?_; rintro r' w4 ⟨rfl, rfl⟩) | (go_at_call 81; refine T.out.mono ?_; rintro r' w1 ⟨rfl, hb1⟩; have H1 := Lib.hid (H.out.below hb1); have HB := Lib.hid hb1; clear hb1) | (go_at_call 82; refine (fail_any H1.out 1).mono ?_; rintro r' w2 ⟨rfl, hp2, hc2⟩))
  go_end0
  exact ⟨rfl, hp2, (Chg.below HL.out HB.out).trans hc2⟩
end Go.Proofs.Ytcfgjaggccnoaaa.PParseSmall
namespace Go.Proofs.Ytcfgjaggccnoaaa.PParseSmall
open Go.RowKit Go.Proofs.YtcfgjaggccnoaaaW.PrintWords Go.Proofs.YtcfgjaggccnoaaaW.PrintLast Go.Proofs.YtcfgjaggccnoaaaW.PrintMore
attribute [local go_sem] max2_int min2_int max_two min_two max_three min_three max_four min_four
set_option linter.unusedVariables false
set_option linter.unusedSimpArgs false
set_option maxRecDepth 100000
set_option maxHeartbeats 4000000
def exV (x : S27) (A : Option Addr) (c : Nat) : Value := .agg #[.int .i64 x.f0, .string x.f1, .string x.f2, .int .i64 x.f3, .int .i64 x.f4, .int .i64 x.f5.f0, .int .i64 x.f5.f1, .string x.f5.f2, .slice A x.f6.length c]
def Tr (W : World) (ok : Nat → Prop) (x : S27) (A : Option Addr) (c : Nat) : Prop := x.f6.length ≤ c ∧ Kd.F k27 W ok A x.f6.length x.f6
section
variable {W W1 w : World} {ok ok' : Nat → Prop} {x y : S27} {A A' : Option Addr} {c c' g b e : Nat}
theorem Tr.step (h : Tr W ok x A c) (hm : ∀ k, ok k → k < W.heap.size → W1.heap[k]? = W.heap[k]?) : Tr W1 ok x A c := ⟨h.1, Kd.F_step h.2 hm⟩
theorem Tr.mono (h : Tr W ok x A c) (hm : ∀ k, k < W.heap.size → ok k → ok' k) : Tr W ok' x A c := ⟨h.1, Kd.F_mono (Kd.F_bound h.2) (fun k hk => hm k hk.2 hk.1)⟩
theorem Tr.chg (h : Tr W ok x A c) (k : Chg g W W1) (hg : ¬ ok g) : Tr W1 ok x A c := h.step fun q hq hl => k.2.2 q hl (fun e => hg (e ▸ hq)) (by simp)
theorem Tr.below (h : Tr W ok x A c) (k : Below W.heap.size W W1) : Tr W1 ok x A c := h.step fun q hq hl => k.block q hl
theorem Tr.to_FK (h : Tr W ok x A c) : Kd.FK k27 W ok x [.int .i64 x.f0, .string x.f1, .string x.f2, .int .i64 x.f3, .int .i64 x.f4, .int .i64 x.f5.f0, .int .i64 x.f5.f1, .string x.f5.f2, .slice A x.f6.length c] := k27_mkF W ok x h.1 h.2
theorem Tr.empty {ws : Value} (h : Kd.R k27 e w b ok' ws []) (hx : x.f6 = []) : ∃ A c, ws = .slice A x.f6.length c ∧ ∀ W ok, Tr W ok x A c := by
  obtain ⟨A, c, he, hl, hr⟩ := Kd.R_reads h
  refine ⟨A, c, by rw [hx]; exact he, fun W ok => ⟨by rw [hx]; exact Nat.zero_le _, ?_⟩⟩
  rw [hx]
  exact fun W' _ => ⟨rfl, by simp, fun q => absurd q (Nat.lt_irrefl 0)⟩
theorem reps2 (h : Tr W ok x A c) (k : Tr W ok y A' c') : Reps (Kd.FK k27 W ok) 9 [x, y] [.int .i64 x.f0, .string x.f1, .string x.f2, .int .i64 x.f3, .int .i64 x.f4, .int .i64 x.f5.f0, .int .i64 x.f5.f1, .string x.f5.f2, .slice A x.f6.length c, .int .i64 y.f0, .string y.f1, .string y.f2, .int .i64 y.f3, .int .i64 y.f4, .int .i64 y.f5.f0, .int .i64 y.f5.f1, .string y.f5.f2, .slice A' y.f6.length c'] := Reps.c9 h.to_FK (Reps.c9 k.to_FK (Reps.none _ _))
theorem reps1 (h : Tr W ok x A c) : Reps (Kd.FK k27 W ok) 9 [x] [.int .i64 x.f0, .string x.f1, .string x.f2, .int .i64 x.f3, .int .i64 x.f4, .int .i64 x.f5.f0, .int .i64 x.f5.f1, .string x.f5.f2, .slice A x.f6.length c] := Reps.c9 h.to_FK (Reps.none _ _)
end
def ofP (op : Int) (l : List S27) : S27 := ⟨op, ⟨#[]⟩, ⟨#[]⟩, 0, 0, ⟨0, 0, ⟨#[]⟩⟩, l⟩
def colP (a b : ByteArray) : S27 := ⟨15, a, b, 0, 0, ⟨0, 0, ⟨#[]⟩⟩, []⟩
def valP (a b : Int) (s : ByteArray) : S27 := ⟨16, ⟨#[]⟩, ⟨#[]⟩, 0, 0, ⟨a, b, s⟩, []⟩
theorem ofP_f (op : Int) (l : List S27) (hs : l.length ≤ 100) : tree_Of.f op l = some (op, ⟨#[]⟩, ⟨#[]⟩, 0, 0, 0, 0, ⟨#[]⟩, l) := by
  unfold tree_Of.f api_Expr.f
  rw [Option.bind_some, if_pos (by rw [List.length_nil]; omega), Option.bind_some, List.nil_append]
theorem of_any (op : Int) (l : List S27) (hs : l.length ≤ 100) {A : Option Addr} {c b : Nat} {P : Nat → Prop} {w : World} (h : Kd.V k27 27 w b P (.slice A l.length c) l) :
    Calls Try.prog 122 #[.int .i64 op, .slice A l.length c] w fun r w' => ∃ vA vc, r = .returned (exV (ofP op l) vA vc) ∧ Tr w' (fun k => P k ∨ w.heap.size ≤ k) (ofP op l) vA vc ∧ Below w.heap.size w w' := by
  refine (tree_Of.calls op P A c l _ _ _ _ _ _ _ _ _ w h (ofP_f op l hs)).mono ?_
  rintro r w' ⟨v, hr, hn, hb⟩
  obtain ⟨A1, c1, e1, l1, f1⟩ := Kd.N_V (base' := 0) hn
  subst e1
  exact ⟨A1, c1, hr, ⟨l1, f1⟩, hb⟩
theorem col_any (a b : ByteArray) (w : World) :
    Calls Try.prog 195 #[.string a, .string b] w fun r w' => ∃ vA vc, r = .returned (exV (colP a b) vA vc) ∧ (∀ W ok, Tr W ok (colP a b) vA vc) ∧ Below w.heap.size w w' := by
  refine (tree_Col.calls a b _ _ _ _ _ _ _ _ _ w (by unfold tree_Col.f; rfl)).mono ?_
  rintro r w' ⟨v, hr, hn, hb⟩
  obtain ⟨A1, c1, e1, q⟩ := Tr.empty (x := colP a b) hn rfl
  subst e1
  exact ⟨A1, c1, hr, q, hb⟩
theorem val_any (x : Int) (y : Int) (s : ByteArray) (w : World) :
    Calls Try.prog 187 #[.agg #[.int .i64 x, .int .i64 y, .string s]] w fun r w' => ∃ vA vc, r = .returned (exV (valP x y s) vA vc) ∧ (∀ W ok, Tr W ok (valP x y s) vA vc) ∧ Below w.heap.size w w' := by
  refine (tree_Val.calls x y s _ _ _ _ _ _ _ _ _ w (by unfold tree_Val.f; rfl)).mono ?_
  rintro r w' ⟨v, hr, hn, hb⟩
  obtain ⟨A1, c1, e1, q⟩ := Tr.empty (x := valP x y s) hn rfl
  subst e1
  exact ⟨A1, c1, hr, q, hb⟩
end Go.Proofs.Ytcfgjaggccnoaaa.PParseSmall
namespace Go.Proofs.Ytcfgjaggccnoaaa.PParseSmall
open Go.RowKit Go.Proofs.YtcfgjaggccnoaaaW.PrintWords Go.Proofs.YtcfgjaggccnoaaaW.PrintLast Go.Proofs.YtcfgjaggccnoaaaW.PrintMore
attribute [local go_sem] max2_int min2_int max_two min_two max_three min_three max_four min_four
set_option linter.unusedVariables false
set_option linter.unusedSimpArgs false
set_option maxRecDepth 100000
set_option maxHeartbeats 4000000
def Tok (w : World) (g : Nat) (A : Option Addr) (l : List S91) : Prop := ∃ wB, Kd.C k91 wB A l.length l ∧ Below wB.heap.size wB w ∧ wB.heap.size ≤ g
structure St (w : World) (g : Nat) (A : Option Addr) (c : Nat) (l : List S91) (i d e : Int) : Prop where
  ps : Ps w g A l.length c i d e
  tk : Tok w g A l
  i0 : 0 ≤ i
  i1 : i ≤ l.length
  hl : l.length ≤ 1000000
theorem Tok.now {w : World} {g : Nat} {A : Option Addr} {l : List S91} (h : Tok w g A l) : Kd.C k91 w A l.length l := by
  obtain ⟨wB, hc, hb, _⟩ := h
  exact Kd.C_below hc hb
theorem Tok.chg {w w' : World} {g : Nat} {A : Option Addr} {l : List S91} (h : Tok w g A l) (k : Chg g w w') : Tok w' g A l := by
  obtain ⟨wB, hc, hb, hg⟩ := h
  exact ⟨wB, hc, hb.trans (k.1.mono hg), hg⟩
theorem St.lt {w : World} {g : Nat} {A : Option Addr} {c : Nat} {l : List S91} {i d e : Int} (h : St w g A c l i d e) : g < w.heap.size := h.ps.lt
theorem St.go {w w' : World} {g : Nat} {A : Option Addr} {c : Nat} {l : List S91} {i d e i' d' e' : Int} (h : St w g A c l i d e) (k : Chg g w w') (p : Ps w' g A l.length c i' d' e') (h0 : 0 ≤ i') (h1 : i' ≤ l.length) : St w' g A c l i' d' e' := ⟨p, h.tk.chg k, h0, h1, h.hl⟩
theorem St.below {w w' : World} {g : Nat} {A : Option Addr} {c : Nat} {l : List S91} {i d e : Int} (h : St w g A c l i d e) (k : Below w.heap.size w w') : St w' g A c l i d e := h.go (Chg.below h.lt k) (h.ps.below k) h.i0 h.i1
theorem tok_le (l : List S91) (i e : Int) (h : (tokP l i e).f0 ≠ 0) : e = 0 ∧ i < l.length := by
  unfold tokP at h
  split at h
  · assumption
  · exact absurd rfl h
theorem isP_le (l : List S91) (i e : Int) (s : ByteArray) (h : isP l i e s = true) : e = 0 ∧ i < l.length := by
  unfold isP isT at h
  simp only [Bool.and_eq_true, Bool.or_eq_true, beq_iff_eq] at h
  refine tok_le l i e ?_
  rcases h.2.1 with q | q <;> rw [q] <;> decide
def nmI (l : List S91) (i e : Int) : Int := if (tokP l i e).f0 = 1 then i + 1 else i
def nmE (l : List S91) (i e : Int) : Int := if (tokP l i e).f0 = 1 then e else flE e 1
def nmS (l : List S91) (i e : Int) : ByteArray := if (tokP l i e).f0 = 1 then (tokP l i e).f1 else ⟨#[]⟩
theorem name_st {w : World} {g : Nat} {A : Option Addr} {c : Nat} {l : List S91} {i d e : Int} (h : St w g A c l i d e) :
    Calls Try.prog 194 #[.pointer (some ⟨g, 0, none⟩)] w fun r w' => r = .returned (.string (nmS l i e)) ∧ St w' g A c l (nmI l i e) d (nmE l i e) ∧ Chg g w w' := by
  have h0 := h.i0; have h1 := h.i1
  unfold nmS nmI nmE
  by_cases k : (tokP l i e).f0 = 1
  · rw [if_pos k, if_pos k, if_pos k]
    have q := tok_le l i e (by rw [k]; decide)
    refine (name_yes h.ps h.tk.now h.i0 h.i1 h.hl k).mono ?_
    rintro r w' ⟨hr, hp, hc⟩
    exact ⟨hr, h.go hc hp (by omega) (by omega), hc⟩
  · rw [if_neg k, if_neg k, if_neg k]
    refine (name_no h.ps h.tk.now h.i0 k).mono ?_
    rintro r w' ⟨hr, hp, hc⟩
    exact ⟨hr, h.go hc hp h0 h1, hc⟩
theorem take_yes_st {w : World} {g : Nat} {A : Option Addr} {c : Nat} {l : List S91} {i d e : Int} (h : St w g A c l i d e) (s : ByteArray) (hs : isP l i e s = true) :
    Calls Try.prog 121 #[.pointer (some ⟨g, 0, none⟩), .string s] w fun r w' => r = .returned (.bool true) ∧ St w' g A c l (i + 1) d e ∧ Chg g w w' := by
  have h0 := h.i0; have q := isP_le l i e s hs
  refine (take_yes h.ps h.tk.now h.i0 h.i1 h.hl s hs).mono ?_
  rintro r w' ⟨hr, hp, hc⟩
  exact ⟨hr, h.go hc hp (by omega) (by omega), hc⟩
theorem take_no_st {w : World} {g : Nat} {A : Option Addr} {c : Nat} {l : List S91} {i d e : Int} (h : St w g A c l i d e) (s : ByteArray) (hs : isP l i e s = false) :
    Calls Try.prog 121 #[.pointer (some ⟨g, 0, none⟩), .string s] w fun r w' => r = .returned (.bool false) ∧ St w' g A c l i d e ∧ Chg g w w' := by
  refine (take_no h.ps h.tk.now h.i0 s hs).mono ?_
  rintro r w' ⟨hr, hp, hc⟩
  exact ⟨hr, h.go hc hp h.i0 h.i1, hc⟩
theorem is_st {w : World} {g : Nat} {A : Option Addr} {c : Nat} {l : List S91} {i d e : Int} (h : St w g A c l i d e) (s : ByteArray) (b : Bool) (hs : isP l i e s = b) :
    Calls Try.prog 148 #[.pointer (some ⟨g, 0, none⟩), .string s] w fun r w' => r = .returned (.bool b) ∧ St w' g A c l i d e ∧ Chg g w w' := by
  refine (is_any h.ps h.tk.now h.i0 s).mono ?_
  rintro r w' ⟨hr, hb⟩
  exact ⟨by rw [hr, hs], h.below hb, Chg.below h.lt hb⟩
def muI (l : List S91) (i e : Int) (s : ByteArray) : Int := if isP l i e s = true then i + 1 else i
def muE (l : List S91) (i e : Int) (s : ByteArray) : Int := if isP l i e s = true then e else flE e 1
theorem must_st {w : World} {g : Nat} {A : Option Addr} {c : Nat} {l : List S91} {i d e : Int} (h : St w g A c l i d e) (s : ByteArray) :
    Calls Try.prog 160 #[.pointer (some ⟨g, 0, none⟩), .string s] w fun r w' => r = .returned (.tuple #[]) ∧ St w' g A c l (muI l i e s) d (muE l i e s) ∧ Chg g w w' := by
  have h0 := h.i0; have h1 := h.i1
  unfold muI muE
  cases hs : isP l i e s with
  | true =>
    rw [if_pos rfl, if_pos rfl]
    have q := isP_le l i e s hs
    refine (must_yes h.ps h.tk.now h.i0 h.i1 h.hl s hs).mono ?_
    rintro r w' ⟨hr, hp, hc⟩
    exact ⟨hr, h.go hc hp (by omega) (by omega), hc⟩
  | false =>
    rw [if_neg (by decide), if_neg (by decide)]
    refine (must_no h.ps h.tk.now h.i0 s hs).mono ?_
    rintro r w' ⟨hr, hp, hc⟩
    exact ⟨hr, h.go hc hp h0 h1, hc⟩
theorem tok_st {w : World} {g : Nat} {A : Option Addr} {c : Nat} {l : List S91} {i d e : Int} (h : St w g A c l i d e) (t : S91) (ht : tokP l i e = t) :
    Calls Try.prog 81 #[.pointer (some ⟨g, 0, none⟩)] w fun r w' => r = .returned (.agg #[.int .i64 t.f0, .string t.f1, .int .i64 t.f2, .int .i64 t.f3]) ∧ St w' g A c l i d e ∧ Below w.heap.size w w' :=
  (tok_agg h.ps h.tk.now h.i0 t ht).mono fun r w' ⟨hr, hb⟩ => ⟨hr, h.below hb, hb⟩
theorem down_st {w : World} {g : Nat} {A : Option Addr} {c : Nat} {l : List S91} {i d e : Int} (h : St w g A c l i d e) (h0 : -1000 ≤ d) (h1 : d ≤ 1000) :
    Calls Try.prog 151 #[.pointer (some ⟨g, 0, none⟩)] w fun r w' => r = .returned (.tuple #[]) ∧ St w' g A c l i (d + 1) (dnE d e) ∧ Chg g w w' :=
  (down_any h.ps h0 h1).mono fun r w' ⟨hr, hp, hc⟩ => ⟨hr, h.go hc hp h.i0 h.i1, hc⟩
theorem Chg.box {g gb : Nat} {w w' : World} (h : Chg g w w') {o : Obj} (hb : w.heap[gb]? = some o) (hn : gb ≠ g) : w'.heap[gb]? = some o := h.blk hb hn
theorem St.box {w w' : World} {g gb : Nat} {A : Option Addr} {c : Nat} {l : List S91} {i d e : Int} (h : St w g A c l i d e) (k : Chg gb w w') (hg : g < gb) : St w' g A c l i d e := by
  obtain ⟨wB, hc, hb, hB⟩ := h.tk
  exact ⟨k.blk h.ps (by omega), ⟨wB, hc, hb.trans (k.1.mono (by omega)), hB⟩, h.i0, h.i1, h.hl⟩
end Go.Proofs.Ytcfgjaggccnoaaa.PParseSmall
namespace Go.Proofs.Ytcfgjaggccnoaaa.PParseSmall
open Go.RowKit Go.Proofs.YtcfgjaggccnoaaaW.PrintWords Go.Proofs.YtcfgjaggccnoaaaW.PrintLast Go.Proofs.YtcfgjaggccnoaaaW.PrintMore
attribute [local go_sem] max2_int min2_int max_two min_two max_three min_three max_four min_four
set_option linter.unusedVariables false
set_option linter.unusedSimpArgs false
set_option maxRecDepth 100000
set_option maxHeartbeats 4000000
theorem chg9_ {gb : Nat} {W : World} {v0 v1 v2 v3 v4 v5 v6 v7 v8 : Value} : Chg gb W (((((((((W.setCell ⟨gb, 0, none⟩ v0).setCell ⟨gb, 1, none⟩ v1).setCell ⟨gb, 2, none⟩ v2).setCell ⟨gb, 3, none⟩ v3).setCell ⟨gb, 4, none⟩ v4).setCell ⟨gb, 5, none⟩ v5).setCell ⟨gb, 6, none⟩ v6).setCell ⟨gb, 7, none⟩ v7).setCell ⟨gb, 8, none⟩ v8) := (((((((((Chg.refl gb W).set 0 v0).set 1 v1).set 2 v2).set 3 v3).set 4 v4).set 5 v5).set 6 v6).set 7 v7).set 8 v8
theorem Chg.own {g gb : Nat} {w W W1 : World} (h : Chg g w W) (k : Chg gb W W1) (hp : w.heap.size ≤ gb) (hg : g ≤ gb) : Chg g w W1 := ⟨h.1.trans (k.1.mono hg), Nat.le_trans h.2.1 k.2.1, fun i hi hn _ => (k.2.2 i (Nat.lt_of_lt_of_le hi h.2.1) (by omega) (by simp)).trans (h.2.2 i hi hn (by simp))⟩
def coX (l : List S91) (i e : Int) : S27 := if isP l (nmI l i e) (nmE l i e) ⟨#[46]⟩ = true then colP (nmS l i e) (nmS l (nmI l i e + 1) (nmE l i e)) else colP ⟨#[]⟩ (nmS l i e)
def coI (l : List S91) (i e : Int) : Int := if isP l (nmI l i e) (nmE l i e) ⟨#[46]⟩ = true then nmI l (nmI l i e + 1) (nmE l i e) else nmI l i e
def coE (l : List S91) (i e : Int) : Int := if isP l (nmI l i e) (nmE l i e) ⟨#[46]⟩ = true then nmE l (nmI l i e + 1) (nmE l i e) else nmE l i e
theorem col_no {w : World} {g : Nat} {A : Option Addr} {c : Nat} {l : List S91} {i d e : Int} (h : St w g A c l i d e) (hs : isP l (nmI l i e) (nmE l i e) ⟨#[46]⟩ = false) :
    Calls Try.prog 191 #[.pointer (some ⟨g, 0, none⟩)] w fun r w' => ∃ vA vc, r = .returned (exV (colP ⟨#[]⟩ (nmS l i e)) vA vc) ∧ St w' g A c l (nmI l i e) d (nmE l i e) ∧ Chg g w w' ∧ ∀ W ok, Tr W ok (colP ⟨#[]⟩ (nmS l i e)) vA vc := by
  have HS := Lib.hid hs; clear hs
  have H := Lib.hid h; clear h
  go_enter Try.func191, Try.ntmps191
  go_wp2_with (first
    | (((with_reducible refine gate_dst (N := 2) rfl ?_); refine box_event ?hg (N := 2) ?hd (cs := #[.int .i64 0, .string (⟨#[]⟩ : ByteArray), .string (⟨#[]⟩ : ByteArray), .int .i64 0, .int .i64 0, .int .i64 0, .int .i64 0, .string (⟨#[]⟩ : ByteArray), .slice none 0 0]) (t := 27) ?hr ?_; (case hd => rfl); (case hg => rfl); (case hr => first | (go_simp; done) | (go_simp; rfl)); intro gb hg_ w1 hb_ hl_; have BKgb := am_ hb_; have HLgb := am_ hl_; have HGgb := am_ (Nat.le_of_eq hg_.symm); obtain ⟨zgb_0, zgb_1, zgb_2, zgb_3, zgb_4, zgb_5, zgb_6, zgb_7, zgb_8, ygb_0, ygb_1, ygb_2, ygb_3, ygb_4, ygb_5, ygb_6, ygb_7, ygb_8⟩ := bw9_ hb_; clear hb_ hl_ hg_; simp only [Act.put, sa_, sz_, ss_]); have H1 := Lib.hid (H.out.below HLgb.out); have HG := Lib.hid (Nat.lt_of_lt_of_le H.out.lt HGgb.out); have HN := Lib.hid (ne_of_le H.out.lt HGgb.out); clear zgb_0 zgb_1 zgb_2 zgb_3 zgb_4 zgb_5 zgb_6 zgb_7 zgb_8 ygb_0 ygb_1 ygb_2 ygb_3 ygb_4 ygb_5 ygb_6 ygb_7 ygb_8)
    | ((with_reducible refine gate_callee (f := 194) rfl ?_); refine goesL_ (some 5) rfl rfl Try.func194 (by kernel_rfl) rfl #[.pointer (some ⟨g, 0, none⟩)] rfl (by (try simp only [List.map_toArray, List.map_cons, List.map_nil]); first | done | rfl) ?_; refine (name_st H1.out).mono ?_; rintro r' w2 ⟨rfl, h2, c2⟩; refine ⟨_, rfl, ?_⟩; simp only [Act.put, sa_, sz_, ss_]; have H2 := Lib.hid h2; have C2 := Lib.hid c2; clear h2 c2)
    | ((with_reducible refine gate_callee (f := 121) rfl ?_); refine goesL_ (some 7) rfl rfl Try.func121 (by kernel_rfl) rfl #[.pointer (some ⟨g, 0, none⟩), .string ⟨#[46]⟩] rfl (by (try simp only [List.map_toArray, List.map_cons, List.map_nil]); first | done | rfl) ?_; refine (take_no_st H2.out _ HS.out).mono ?_; rintro r' w3 ⟨rfl, h3, c3⟩; refine ⟨_, rfl, ?_⟩; simp only [Act.put, sa_, sz_, ss_]; have H3 := Lib.hid h3; have C3 := Lib.hid c3; clear h3 c3)
    | ((with_reducible refine gate_callee (f := 195) rfl ?_); refine goesL_ (some 10) rfl rfl Try.func195 (by kernel_rfl) rfl #[.string ⟨#[]⟩, .string (nmS l i e)] rfl (by (try simp only [List.map_toArray, List.map_cons, List.map_nil]); first | done | rfl) ?_; refine (col_any ⟨#[]⟩ (nmS l i e) w3).mono ?_; rintro r' w4 ⟨vA, vc, rfl, ht, hb4⟩; refine ⟨_, rfl, ?_⟩; simp only [Act.put, sa_, sz_, ss_]; simp only [exV, colP, List.length_nil]; have HB4 := Lib.hid hb4; have HT := Lib.hid ht; clear hb4 ht; have BK4 := Lib.hid (blk_below (C3.out.box (C2.out.box BKgb.out HN.out) HN.out) HB4.out); obtain ⟨s0, s1, s2, s3, s4, s5, s6, s7, s8, r0, r1, r2, r3, r4, r5, r6, r7, r8⟩ := bw9_ BK4.out))
  exact bodyPost_ret (results_cell_row rfl _ _ gb 27 #[.int .i64 15, .string ⟨#[]⟩, .string (nmS l i e), .int .i64 0, .int .i64 0, .int .i64 0, .int .i64 0, .string ⟨#[]⟩, .slice vA 0 vc] (0, 0) _ rfl (put9_ BK4.out) Try.underlying27 rfl (by kernel_rfl)) rfl ⟨vA, vc, rfl, (H3.out.below HB4.out).box chg9_ HG.out, ((((Chg.below H.out.lt HLgb.out).trans C2.out).trans C3.out).trans (Chg.below H3.out.lt HB4.out)).own chg9_ HGgb.out (Nat.le_of_lt HG.out), HT.out⟩
theorem col_yes {w : World} {g : Nat} {A : Option Addr} {c : Nat} {l : List S91} {i d e : Int} (h : St w g A c l i d e) (hs : isP l (nmI l i e) (nmE l i e) ⟨#[46]⟩ = true) :
    Calls Try.prog 191 #[.pointer (some ⟨g, 0, none⟩)] w fun r w' => ∃ vA vc, r = .returned (exV (colP (nmS l i e) (nmS l (nmI l i e + 1) (nmE l i e))) vA vc) ∧ St w' g A c l (nmI l (nmI l i e + 1) (nmE l i e)) d (nmE l (nmI l i e + 1) (nmE l i e)) ∧ Chg g w w' ∧ ∀ W ok, Tr W ok (colP (nmS l i e) (nmS l (nmI l i e + 1) (nmE l i e))) vA vc := by
  have HS := Lib.hid hs; clear hs
  have H := Lib.hid h; clear h
  go_enter Try.func191, Try.ntmps191
  go_wp2_with (first
    | (((with_reducible refine gate_dst (N := 2) rfl ?_); refine box_event ?hg (N := 2) ?hd (cs := #[.int .i64 0, .string (⟨#[]⟩ : ByteArray), .string (⟨#[]⟩ : ByteArray), .int .i64 0, .int .i64 0, .int .i64 0, .int .i64 0, .string (⟨#[]⟩ : ByteArray), .slice none 0 0]) (t := 27) ?hr ?_; (case hd => rfl); (case hg => rfl); (case hr => first | (go_simp; done) | (go_simp; rfl)); intro gb hg_ w1 hb_ hl_; have BKgb := am_ hb_; have HLgb := am_ hl_; have HGgb := am_ (Nat.le_of_eq hg_.symm); obtain ⟨zgb_0, zgb_1, zgb_2, zgb_3, zgb_4, zgb_5, zgb_6, zgb_7, zgb_8, ygb_0, ygb_1, ygb_2, ygb_3, ygb_4, ygb_5, ygb_6, ygb_7, ygb_8⟩ := bw9_ hb_; clear hb_ hl_ hg_; simp only [Act.put, sa_, sz_, ss_]); have H1 := Lib.hid (H.out.below HLgb.out); have HG := Lib.hid (Nat.lt_of_lt_of_le H.out.lt HGgb.out); have HN := Lib.hid (ne_of_le H.out.lt HGgb.out); clear zgb_0 zgb_1 zgb_2 zgb_3 zgb_4 zgb_5 zgb_6 zgb_7 zgb_8 ygb_0 ygb_1 ygb_2 ygb_3 ygb_4 ygb_5 ygb_6 ygb_7 ygb_8; have K1 : True := trivial)
    | (have _t := K1; ((with_reducible refine gate_callee (f := 194) rfl ?_); refine goesL_ (some 5) rfl rfl Try.func194 (by kernel_rfl) rfl #[.pointer (some ⟨g, 0, none⟩)] rfl (by (try simp only [List.map_toArray, List.map_cons, List.map_nil]); first | done | rfl) ?_; refine (name_st H1.out).mono ?_; rintro r' w2 ⟨rfl, h2, c2⟩; refine ⟨_, rfl, ?_⟩; simp only [Act.put, sa_, sz_, ss_]; have H2 := Lib.hid h2; have C2 := Lib.hid c2; clear h2 c2; clear K1))
    | ((with_reducible refine gate_callee (f := 121) rfl ?_); refine goesL_ (some 7) rfl rfl Try.func121 (by kernel_rfl) rfl #[.pointer (some ⟨g, 0, none⟩), .string ⟨#[46]⟩] rfl (by (try simp only [List.map_toArray, List.map_cons, List.map_nil]); first | done | rfl) ?_; refine (take_yes_st H2.out _ HS.out).mono ?_; rintro r' w3 ⟨rfl, h3, c3⟩; refine ⟨_, rfl, ?_⟩; simp only [Act.put, sa_, sz_, ss_]; have H3 := Lib.hid h3; have C3 := Lib.hid c3; clear h3 c3)
    | ((with_reducible refine gate_callee (f := 194) rfl ?_); refine goesL_ (some 13) rfl rfl Try.func194 (by kernel_rfl) rfl #[.pointer (some ⟨g, 0, none⟩)] rfl (by (try simp only [List.map_toArray, List.map_cons, List.map_nil]); first | done | rfl) ?_; refine (name_st H3.out).mono ?_; rintro r' w5 ⟨rfl, h5, c5⟩; refine ⟨_, rfl, ?_⟩; simp only [Act.put, sa_, sz_, ss_]; have H5 := Lib.hid h5; have C5 := Lib.hid c5; clear h5 c5)
    | ((with_reducible refine gate_callee (f := 195) rfl ?_); refine goesL_ (some 14) rfl rfl Try.func195 (by kernel_rfl) rfl #[.string (nmS l i e), .string (nmS l (nmI l i e + 1) (nmE l i e))] rfl (by (try simp only [List.map_toArray, List.map_cons, List.map_nil]); first | done | rfl) ?_; refine (col_any (nmS l i e) (nmS l (nmI l i e + 1) (nmE l i e)) w5).mono ?_; rintro r' w4 ⟨vA, vc, rfl, ht, hb4⟩; refine ⟨_, rfl, ?_⟩; simp only [Act.put, sa_, sz_, ss_]; simp only [exV, colP, List.length_nil]; have HB4 := Lib.hid hb4; have HT := Lib.hid ht; clear hb4 ht; have BK4 := Lib.hid (blk_below (C5.out.box (C3.out.box (C2.out.box BKgb.out HN.out) HN.out) HN.out) HB4.out); obtain ⟨s0, s1, s2, s3, s4, s5, s6, s7, s8, r0, r1, r2, r3, r4, r5, r6, r7, r8⟩ := bw9_ BK4.out))
  exact bodyPost_ret (results_cell_row rfl _ _ gb 27 #[.int .i64 15, .string (nmS l i e), .string (nmS l (nmI l i e + 1) (nmE l i e)), .int .i64 0, .int .i64 0, .int .i64 0, .int .i64 0, .string ⟨#[]⟩, .slice vA 0 vc] (0, 0) _ rfl (put9_ BK4.out) Try.underlying27 rfl (by kernel_rfl)) rfl ⟨vA, vc, rfl, (H5.out.below HB4.out).box chg9_ HG.out, (((((Chg.below H.out.lt HLgb.out).trans C2.out).trans C3.out).trans C5.out).trans (Chg.below H5.out.lt HB4.out)).own chg9_ HGgb.out (Nat.le_of_lt HG.out), HT.out⟩
theorem col_st {w : World} {g : Nat} {A : Option Addr} {c : Nat} {l : List S91} {i d e : Int} (h : St w g A c l i d e) :
    Calls Try.prog 191 #[.pointer (some ⟨g, 0, none⟩)] w fun r w' => ∃ vA vc, r = .returned (exV (coX l i e) vA vc) ∧ St w' g A c l (coI l i e) d (coE l i e) ∧ Chg g w w' ∧ ∀ W ok, Tr W ok (coX l i e) vA vc := by
  unfold coX coI coE
  cases hs : isP l (nmI l i e) (nmE l i e) ⟨#[46]⟩ with
  | true => exact col_yes h hs
  | false => exact col_no h hs
end Go.Proofs.Ytcfgjaggccnoaaa.PParseSmall
namespace Go.Proofs.Ytcfgjaggccnoaaa.PParseSmall
open Go.RowKit Go.Proofs.YtcfgjaggccnoaaaW.PrintWords Go.Proofs.YtcfgjaggccnoaaaW.PrintLast Go.Proofs.YtcfgjaggccnoaaaW.PrintMore
attribute [local go_sem] max2_int min2_int max_two min_two max_three min_three max_four min_four
set_option linter.unusedVariables false
set_option linter.unusedSimpArgs false
set_option maxRecDepth 100000
set_option maxHeartbeats 4000000
inductive Gr where
  | or | and | not | test | sum | prod | atom
def Gr.num : Gr → Nat
  | .or => 41 | .and => 80 | .not => 124 | .test => 150 | .sum => 159 | .prod => 167 | .atom => 179
inductive Go where
  | f (p : Gr)
  | ch (p : Gr) (ss : List ByteArray) (x : S27)
structure Re where
  i : Int
  d : Int
  e : Int
  x : S27
def wOr : ByteArray := ⟨#[111, 114]⟩
def wAnd : ByteArray := ⟨#[97, 110, 100]⟩
def wNot : ByteArray := ⟨#[110, 111, 116]⟩
def wIs : ByteArray := ⟨#[105, 115]⟩
def wNull : ByteArray := ⟨#[110, 117, 108, 108]⟩
def wPlus : ByteArray := ⟨#[43]⟩
def wMinus : ByteArray := ⟨#[45]⟩
def wStar : ByteArray := ⟨#[42]⟩
def wOpen : ByteArray := ⟨#[40]⟩
def wShut : ByteArray := ⟨#[41]⟩
def six : List ByteArray := [⟨#[61]⟩, ⟨#[60, 62]⟩, ⟨#[60]⟩, ⟨#[60, 61]⟩, ⟨#[62]⟩, ⟨#[62, 61]⟩]
def opP (s : ByteArray) : Int := (parse_opOf.f s).getD 0
def txP (s : ByteArray) : S27 := if (s.size : Int) > 65536 then valP 0 0 ⟨#[]⟩ else valP 2 0 s
def isI (l : List S91) (i e : Int) (s : ByteArray) : Int := if isP l i e s = true then i + 1 else i
def tst (l : List S91) (r : Re) : Re :=
  if isP l r.i r.e wIs = true then
    (if isP l (r.i + 1) r.e wNot = true then ⟨muI l (r.i + 1 + 1) r.e wNull, r.d, muE l (r.i + 1 + 1) r.e wNull, ofP 14 [r.x]⟩
     else ⟨muI l (r.i + 1) r.e wNull, r.d, muE l (r.i + 1) r.e wNull, ofP 13 [r.x]⟩)
  else r
def pr (l : List S91) : Nat → Go → Int → Int → Int → Option Re
  | 0, _, _, _, _ => none
  | k + 1, .ch p ss x, i, d, e => if e = 0 then (match ss.find? (fun s => isP l i e s) with
      | none => some ⟨i, d, e, x⟩
      | some s => (pr l k (.f p) (i + 1) d e).bind fun r => pr l k (.ch p ss (ofP (opP s) [x, r.x])) r.i r.d r.e) else some ⟨i, d, e, x⟩
  | k + 1, .f .or, i, d, e => (pr l k (.f .and) i d e).bind fun r => pr l k (.ch .and [wOr] r.x) r.i r.d r.e
  | k + 1, .f .and, i, d, e => (pr l k (.f .not) i d e).bind fun r => pr l k (.ch .not [wAnd] r.x) r.i r.d r.e
  | k + 1, .f .sum, i, d, e => (pr l k (.f .prod) i d e).bind fun r => pr l k (.ch .prod [wPlus, wMinus] r.x) r.i r.d r.e
  | k + 1, .f .prod, i, d, e => (pr l k (.f .atom) i d e).bind fun r => pr l k (.ch .atom [wStar] r.x) r.i r.d r.e
  | k + 1, .f .not, i, d, e => if isP l i e wNot = true then
      (if 0 ≤ d ∧ d ≤ 100 then (pr l k (.f .not) (isI l i (dnE d e) wNot) (d + 1) (dnE d e)).bind fun r => if 0 ≤ r.d ∧ r.d ≤ 200 then some ⟨r.i, r.d - 1, r.e, ofP 12 [r.x]⟩ else none else none)
      else pr l k (.f .test) i d e
  | k + 1, .f .test, i, d, e => (pr l k (.f .sum) i d e).bind fun r => match six.find? (fun s => isP l r.i r.e s) with
      | some s => (pr l k (.f .sum) (r.i + 1) r.d r.e).bind fun q => some ⟨q.i, q.d, q.e, ofP (opP s) [r.x, q.x]⟩
      | none => some (tst l r)
  | k + 1, .f .atom, i, d, e =>
      if (tokP l i e).f0 = 3 then some ⟨i + 1, d, e, valP 1 (tokP l i e).f2 ⟨#[]⟩⟩
      else if (tokP l i e).f0 = 4 then some ⟨i + 1, d, e, txP (tokP l i e).f1⟩
      else if isP l i e wNull = true then some ⟨i + 1, d, e, valP 0 0 ⟨#[]⟩⟩
      else if isP l i e wOpen = true then
        (if 0 ≤ d ∧ d ≤ 100 then (pr l k (.f .or) (isI l i (dnE d e) wOpen) (d + 1) (dnE d e)).bind fun r => if 0 ≤ r.d ∧ r.d ≤ 200 then some ⟨muI l r.i r.e wShut, r.d - 1, muE l r.i r.e wShut, r.x⟩ else none else none)
      else some ⟨coI l i e, d, coE l i e, coX l i e⟩
def Done (w : World) (g : Nat) (A : Option Addr) (c : Nat) (l : List S91) (r : Re) (ret : Ending) (w' : World) : Prop :=
  ∃ vA vc, ret = .returned (exV r.x vA vc) ∧ St w' g A c l r.i r.d r.e ∧ Chg g w w' ∧ Tr w' (fun k => w.heap.size ≤ k) r.x vA vc
def GOK (k : Nat) (p : Gr) : Prop := ∀ (w : World) (g : Nat) (A : Option Addr) (c : Nat) (l : List S91) (i d e : Int) (r : Re), St w g A c l i d e → pr l k (.f p) i d e = some r → Calls Try.prog p.num #[.pointer (some ⟨g, 0, none⟩)] w (Done w g A c l r)
theorem up_d (g : Nat) (A : Option Addr) (n c : Nat) (i d e : Int) (w : World) (u : FrameMode) (h : Ps w g A n c i d e) (h0 : -1000 ≤ d) (h1 : d ≤ 1000) :
    CallsD Try.prog 152 #[.pointer (some ⟨g, 0, none⟩)] u w fun r u' w' => u' = u ∧ r = .returned (.tuple #[]) ∧ w' = w.setCell ⟨g, 2, none⟩ (.int .i64 (d - 1)) := by
  obtain ⟨c0, c1, c2, c3, f0, f1, f2, f3⟩ := bw4_ h
  clear h
  go_enter_d Try.func152, Try.ntmps152
  go_wp2
  go_end0
  exact ⟨rfl, rfl⟩
end Go.Proofs.Ytcfgjaggccnoaaa.PParseSmall
namespace Go.Proofs.Ytcfgjaggccnoaaa.PParseSmall
open Go.RowKit Go.Proofs.YtcfgjaggccnoaaaW.PrintWords Go.Proofs.YtcfgjaggccnoaaaW.PrintLast Go.Proofs.YtcfgjaggccnoaaaW.PrintMore
attribute [local go_sem] max2_int min2_int max_two min_two max_three min_three max_four min_four
set_option linter.unusedVariables false
set_option linter.unusedSimpArgs false
set_option maxRecDepth 100000
set_option maxHeartbeats 4000000
theorem pr_mono (l : List S91) (k : Nat) : ∀ (p : Go) (i d e : Int) (r : Re), pr l k p i d e = some r → pr l (k + 1) p i d e = some r := by
  induction k with
  | zero => intro p i d e r h; simp [pr] at h
  | succ k ih =>
    intro p i d e r h
    cases p with
    | ch p ss x =>
      simp only [pr] at h
      rw [pr]
      by_cases he : e = 0
      · rw [if_pos he] at h ⊢
        cases hf : ss.find? (fun s => isP l i e s) with
        | none => rw [hf] at h; exact h
        | some s =>
          rw [hf] at h
          obtain ⟨q, hq, h⟩ := Option.bind_eq_some_iff.1 h
          show Option.bind _ _ = _
          rw [ih _ _ _ _ _ hq, Option.bind_some]
          exact ih _ _ _ _ _ h
      · rw [if_neg he] at h ⊢
        exact h
    | f p =>
      cases p
      case or | and | sum | prod =>
        simp only [pr] at h
        rw [pr]
        obtain ⟨q, hq, h⟩ := Option.bind_eq_some_iff.1 h
        rw [ih _ _ _ _ _ hq, Option.bind_some]
        exact ih _ _ _ _ _ h
      case not =>
        simp only [pr] at h
        rw [pr]
        by_cases g : isP l i e wNot = true
        · rw [if_pos g] at h ⊢
          by_cases hd : 0 ≤ d ∧ d ≤ 100
          · rw [if_pos hd] at h ⊢
            obtain ⟨q, hq, h⟩ := Option.bind_eq_some_iff.1 h
            rw [ih _ _ _ _ _ hq, Option.bind_some]
            exact h
          · rw [if_neg hd] at h; exact absurd h (by simp)
        · rw [if_neg g] at h ⊢
          exact ih _ _ _ _ _ h
      case test =>
        simp only [pr] at h
        rw [pr]
        obtain ⟨q, hq, h⟩ := Option.bind_eq_some_iff.1 h
        rw [ih _ _ _ _ _ hq, Option.bind_some]
        cases hf : six.find? (fun s => isP l q.i q.e s) with
        | none => rw [hf] at h; exact h
        | some s =>
          rw [hf] at h
          obtain ⟨q2, hq2, h⟩ := Option.bind_eq_some_iff.1 h
          show Option.bind _ _ = _
          rw [ih _ _ _ _ _ hq2, Option.bind_some]
          exact h
      case atom =>
        simp only [pr] at h
        rw [pr]
        by_cases g1 : (tokP l i e).f0 = 3
        · rw [if_pos g1] at h ⊢; exact h
        rw [if_neg g1] at h ⊢
        by_cases g2 : (tokP l i e).f0 = 4
        · rw [if_pos g2] at h ⊢; exact h
        rw [if_neg g2] at h ⊢
        by_cases g3 : isP l i e wNull = true
        · rw [if_pos g3] at h ⊢; exact h
        rw [if_neg g3] at h ⊢
        by_cases g4 : isP l i e wOpen = true
        · rw [if_pos g4] at h ⊢
          by_cases hd : 0 ≤ d ∧ d ≤ 100
          · rw [if_pos hd] at h ⊢
            obtain ⟨q, hq, h⟩ := Option.bind_eq_some_iff.1 h
            rw [ih _ _ _ _ _ hq, Option.bind_some]
            exact h
          · rw [if_neg hd] at h; exact absurd h (by simp)
        · rw [if_neg g4] at h ⊢; exact h
theorem pr_le {l : List S91} {k k' : Nat} {p : Go} {i d e : Int} {r : Re} (h : pr l k p i d e = some r) (hk : k ≤ k') : pr l k' p i d e = some r := by
  obtain ⟨m, rfl⟩ : ∃ m, k' = k + m := ⟨k' - k, by omega⟩
  clear hk
  induction m with
  | zero => exact h
  | succ m ih => exact pr_mono _ _ _ _ _ _ _ ih
def Ans (l : List S91) (p : Go) (i d e : Int) (r : Re) : Prop := ∃ k, pr l k p i d e = some r
mutual
def nodes : S27 → Nat
  | ⟨_, _, _, _, _, _, l⟩ => nodesL l + 1
def nodesL : List S27 → Nat
  | [] => 0
  | x :: l => nodes x + nodesL l
end
end Go.Proofs.Ytcfgjaggccnoaaa.PParseSmall
namespace Go.Proofs.Ytcfgjaggccnoaaa.PParseSmall
open Go.RowKit Go.Proofs.YtcfgjaggccnoaaaW.PrintWords Go.Proofs.YtcfgjaggccnoaaaW.PrintLast Go.Proofs.YtcfgjaggccnoaaaW.PrintMore
attribute [local go_sem] max2_int min2_int max_two min_two max_three min_three max_four min_four
set_option linter.unusedVariables false
set_option linter.unusedSimpArgs false
set_option maxRecDepth 100000
set_option maxHeartbeats 4000000
def Gd (l : List S91) (i d e : Int) : Prop := 0 ≤ i ∧ i ≤ l.length ∧ 0 ≤ d ∧ d ≤ 51 ∧ (e = 0 → d ≤ 50) ∧ (e = 0 ∨ e = 1 ∨ e = 4)
def ms (l : List S91) (i e : Int) : Nat := if e = 0 then (l.length - i).toNat + 1 else 0
def Rs (l : List S91) (i d e : Int) (r : Re) (b : Nat) : Prop := Gd l r.i r.d r.e ∧ r.d = d ∧ i ≤ r.i ∧ (e ≠ 0 → r.e = e ∧ r.i = i) ∧ (r.e = 0 → (nodes r.x : Int) + i ≤ r.i + b)
theorem ms_le {l : List S91} {i e i' e' : Int} (h : i ≤ i') (he : e ≠ 0 → e' ≠ 0) : ms l i' e' ≤ ms l i e := by
  unfold ms
  by_cases c : e' = 0
  · rw [if_pos c, if_pos (Decidable.byContradiction fun q => he q c)]
    omega
  · rw [if_neg c]
    omega
theorem Rs.ms {l : List S91} {i d e : Int} {r : Re} {b : Nat} (h : Rs l i d e r b) : ms l r.i r.e ≤ ms l i e := ms_le h.2.2.1 fun q c => q ((h.2.2.2.1 q).1 ▸ c)
theorem ms_lt {l : List S91} {i : Int} (h : i < l.length) : Go.Proofs.Ytcfgjaggccnoaaa.PParseSmall.ms l (i + 1) 0 < Go.Proofs.Ytcfgjaggccnoaaa.PParseSmall.ms l i 0 := by
  unfold Go.Proofs.Ytcfgjaggccnoaaa.PParseSmall.ms
  rw [if_pos rfl, if_pos rfl]
  omega
def OKf (l : List S91) (M : Nat) (p : Gr) : Prop := ∀ i d e, ms l i e ≤ M → Gd l i d e → ∃ r, Ans l (.f p) i d e r ∧ Rs l i d e r 0
def OKc (l : List S91) (M : Nat) (p : Gr) (ss : List ByteArray) : Prop := ∀ i d e x, ms l i e ≤ M → Gd l i d e → ∃ r, Ans l (.ch p ss x) i d e r ∧ Rs l i d e r (nodes x)
theorem nodes_of2 (op : Int) (x y : S27) : nodes (ofP op [x, y]) = nodes x + nodes y + 1 := by simp [ofP, nodes, nodesL]
theorem nodes_of1 (op : Int) (x : S27) : nodes (ofP op [x]) = nodes x + 1 := by simp [ofP, nodes, nodesL]
theorem chain_an (l : List S91) (p : Gr) (ss : List ByteArray) (M : Nat) (hp : ∀ M', M' < M → OKf l M' p) : OKc l M p ss := by
  induction M with
  | zero =>
    intro i d e x hm hg
    have he : e ≠ 0 := fun q => by subst q; unfold ms at hm; rw [if_pos rfl] at hm; omega
    exact ⟨⟨i, d, e, x⟩, ⟨1, by simp only [pr]; rw [if_neg he]⟩, hg, rfl, Int.le_refl i, fun _ => ⟨rfl, rfl⟩, fun q => absurd q he⟩
  | succ M ih =>
    intro i d e x hm hg
    by_cases he : e = 0
    · subst he
      cases hf : ss.find? (fun s => isP l i 0 s) with
      | none => exact ⟨⟨i, d, 0, x⟩, ⟨1, by simp only [pr]; rw [if_pos trivial, hf]⟩, hg, rfl, Int.le_refl i, fun q => absurd rfl q, fun _ => by simp only; omega⟩
      | some s =>
        have hs : isP l i 0 s = true := by have := List.find?_some hf; simpa using this
        have hi := (isP_le l i 0 s hs).2
        have hlt := ms_lt hi
        obtain ⟨g1, g2, g3, g4, g5, g6⟩ := hg
        obtain ⟨r1, ⟨k1, a1⟩, q1⟩ := hp M (Nat.lt_succ_self M) (i + 1) d 0 (by omega) ⟨by omega, by omega, g3, g4, g5, g6⟩
        have m1 := q1.ms
        obtain ⟨r2, ⟨k2, a2⟩, q2⟩ := ih (fun M' h => hp M' (by omega)) r1.i r1.d r1.e (ofP (opP s) [x, r1.x]) (by omega) q1.1
        refine ⟨r2, ⟨max k1 k2 + 1, ?_⟩, ?_⟩
        · simp only [pr]
          rw [if_pos trivial, hf]
          show Option.bind _ _ = _
          rw [pr_le a1 (Nat.le_max_left k1 k2), Option.bind_some]
          exact pr_le a2 (Nat.le_max_right k1 k2)
        · obtain ⟨u1, u2, u3, u4, u5⟩ := q1
          obtain ⟨v1, v2, v3, v4, v5⟩ := q2
          refine ⟨v1, by omega, by omega, fun q => absurd rfl q, fun c => ?_⟩
          have c1 : r1.e = 0 := Decidable.byContradiction fun q => q ((v4 q).1 ▸ c)
          have w1 := u5 c1; have w2 := v5 c
          rw [nodes_of2] at w2
          omega
    · exact ⟨⟨i, d, e, x⟩, ⟨1, by simp only [pr]; rw [if_neg he]⟩, hg, rfl, Int.le_refl i, fun _ => ⟨rfl, rfl⟩, fun q => absurd q he⟩
theorem link_an {l : List S91} {p : Gr} {ss : List ByteArray} {M : Nat} (h1 : OKf l M p) (h2 : OKc l M p ss) {i d e : Int} (hm : ms l i e ≤ M) (hg : Gd l i d e) : ∃ k r0 r, pr l k (.f p) i d e = some r0 ∧ pr l k (.ch p ss r0.x) r0.i r0.d r0.e = some r ∧ Rs l i d e r 0 := by
  obtain ⟨r0, ⟨k1, a1⟩, q1⟩ := h1 i d e hm hg
  have m1 := q1.ms
  obtain ⟨r, ⟨k2, a2⟩, q2⟩ := h2 r0.i r0.d r0.e r0.x (by omega) q1.1
  refine ⟨max k1 k2, r0, r, pr_le a1 (Nat.le_max_left k1 k2), pr_le a2 (Nat.le_max_right k1 k2), ?_⟩
  obtain ⟨u1, u2, u3, u4, u5⟩ := q1
  obtain ⟨v1, v2, v3, v4, v5⟩ := q2
  refine ⟨v1, by omega, by omega, fun q => ?_, fun c => ?_⟩
  · have w := u4 q
    have w2 := v4 (by rw [w.1]; exact q)
    exact ⟨w2.1.trans w.1, w2.2.trans w.2⟩
  · have c1 : r0.e = 0 := Decidable.byContradiction fun q => q ((v4 q).1 ▸ c)
    have w1 := u5 c1; have w2 := v5 c
    omega
end Go.Proofs.Ytcfgjaggccnoaaa.PParseSmall
namespace Go.Proofs.Ytcfgjaggccnoaaa.PParseSmall
open Go.RowKit Go.Proofs.YtcfgjaggccnoaaaW.PrintWords Go.Proofs.YtcfgjaggccnoaaaW.PrintLast Go.Proofs.YtcfgjaggccnoaaaW.PrintMore
attribute [local go_sem] max2_int min2_int max_two min_two max_three min_three max_four min_four
set_option linter.unusedVariables false
set_option linter.unusedSimpArgs false
set_option maxRecDepth 100000
set_option maxHeartbeats 4000000
theorem fl_ne (e : Int) : flE e 1 ≠ 0 := by unfold flE; split <;> omega
theorem fl_e {e : Int} (h : e ≠ 0) : flE e 1 = e := by unfold flE; rw [if_neg h]
theorem fl_ok {e : Int} (h : e = 0 ∨ e = 1 ∨ e = 4) : flE e 1 = 0 ∨ flE e 1 = 1 ∨ flE e 1 = 4 := by unfold flE; split <;> omega
theorem tok_off {l : List S91} {i e : Int} (h : e ≠ 0) : (tokP l i e).f0 = 0 := by
  unfold tokP
  rw [if_neg (fun q => h q.1)]
theorem isP_off {l : List S91} {i e : Int} {s : ByteArray} (h : e ≠ 0) : isP l i e s = false := by
  cases c : isP l i e s with
  | false => rfl
  | true => exact absurd (isP_le l i e s c).1 h
theorem mu_rs {l : List S91} {i d e : Int} (s : ByteArray) (hg : Gd l i d e) : Gd l (muI l i e s) d (muE l i e s) ∧ i ≤ muI l i e s ∧ (e ≠ 0 → muE l i e s = e ∧ muI l i e s = i) ∧ (muE l i e s = 0 → e = 0 ∧ muI l i e s = i + 1) := by
  obtain ⟨g1, g2, g3, g4, g5, g6⟩ := hg
  unfold muI muE
  cases c : isP l i e s with
  | true =>
    have q := isP_le l i e s c
    rw [if_pos rfl, if_pos rfl]
    exact ⟨⟨by omega, by omega, g3, g4, g5, g6⟩, by omega, fun h => absurd q.1 h, fun h => ⟨h, rfl⟩⟩
  | false =>
    rw [if_neg (by decide), if_neg (by decide)]
    exact ⟨⟨g1, g2, g3, g4, fun h => absurd h (fl_ne e), fl_ok g6⟩, Int.le_refl i, fun h => ⟨fl_e h, rfl⟩, fun h => absurd h (fl_ne e)⟩
theorem nm_rs {l : List S91} {i d e : Int} (hg : Gd l i d e) : Gd l (nmI l i e) d (nmE l i e) ∧ i ≤ nmI l i e ∧ (e ≠ 0 → nmE l i e = e ∧ nmI l i e = i) ∧ (nmE l i e = 0 → e = 0 ∧ nmI l i e = i + 1) := by
  obtain ⟨g1, g2, g3, g4, g5, g6⟩ := hg
  unfold nmI nmE
  by_cases c : (tokP l i e).f0 = 1
  · have q := tok_le l i e (by rw [c]; decide)
    rw [if_pos c, if_pos c]
    exact ⟨⟨by omega, by omega, g3, g4, g5, g6⟩, by omega, fun h => absurd q.1 h, fun h => ⟨h, rfl⟩⟩
  · rw [if_neg c, if_neg c]
    exact ⟨⟨g1, g2, g3, g4, fun h => absurd h (fl_ne e), fl_ok g6⟩, Int.le_refl i, fun h => ⟨fl_e h, rfl⟩, fun h => absurd h (fl_ne e)⟩
theorem co_rs {l : List S91} {i d e : Int} (hg : Gd l i d e) : Rs l i d e ⟨coI l i e, d, coE l i e, coX l i e⟩ 0 := by
  obtain ⟨a1, a2, a3, a4⟩ := nm_rs hg
  have hn : nodes (coX l i e) = 1 := by unfold coX colP; split <;> simp [nodes, nodesL]
  unfold Rs
  simp only [hn]
  unfold coI coE
  cases c : isP l (nmI l i e) (nmE l i e) ⟨#[46]⟩ with
  | true =>
    have q := isP_le _ _ _ _ c
    rw [if_pos rfl, if_pos rfl]
    obtain ⟨g1, g2, g3, g4, g5, g6⟩ := a1
    obtain ⟨b1, b2, b3, b4⟩ := nm_rs (l := l) (i := nmI l i e + 1) (d := d) (e := nmE l i e) ⟨by omega, by omega, g3, g4, g5, g6⟩
    have e0 := a4 q.1
    exact ⟨b1, trivial, by omega, fun h => absurd e0.1 h, fun h => by have := b4 h; omega⟩
  | false =>
    rw [if_neg (by decide), if_neg (by decide)]
    exact ⟨a1, trivial, a2, a3, fun h => by have := a4 h; omega⟩
theorem leaf_rs {l : List S91} {i d e : Int} {x : S27} (hg : Gd l i d e) (he : e = 0) (hi : i < l.length) (hn : nodes x = 1) : Rs l i d e ⟨i + 1, d, e, x⟩ 0 := by
  obtain ⟨g1, g2, g3, g4, g5, g6⟩ := hg
  exact ⟨⟨by show (0 : Int) ≤ i + 1; omega, by show i + 1 ≤ (l.length : Int); omega, g3, g4, g5, g6⟩, rfl, by show i ≤ i + 1; omega, fun q => absurd he q, fun _ => by simp only [hn]; omega⟩
theorem val_nodes (a b : Int) (s : ByteArray) : nodes (valP a b s) = 1 := by simp [valP, nodes, nodesL]
theorem tx_nodes (s : ByteArray) : nodes (txP s) = 1 := by unfold txP; split <;> exact val_nodes _ _ _
theorem dn_rs {l : List S91} {i d : Int} {s : ByteArray} (hg : Gd l i d 0) (hs : isP l i 0 s = true) : Gd l (isI l i (dnE d 0) s) (d + 1) (dnE d 0) ∧ ms l (isI l i (dnE d 0) s) (dnE d 0) < ms l i 0 ∧ i ≤ isI l i (dnE d 0) s ∧ (dnE d 0 = 0 → isI l i (dnE d 0) s = i + 1) := by
  obtain ⟨g1, g2, g3, g4, g5, g6⟩ := hg
  have q := isP_le l i 0 s hs
  have g5' := g5 rfl
  by_cases c : d + 1 > 50
  · have z : dnE d 0 = 4 := by unfold dnE; rw [if_pos ⟨c, rfl⟩]
    have z2 : isP l i 4 s = false := isP_off (by decide)
    unfold isI
    rw [z, z2, if_neg (by decide)]
    refine ⟨⟨g1, g2, by omega, by omega, fun h => absurd h (by decide), .inr (.inr rfl)⟩, ?_, Int.le_refl i, fun h => absurd h (by decide)⟩
    unfold ms
    rw [if_neg (by decide), if_pos rfl]
    omega
  · have z : dnE d 0 = 0 := by unfold dnE; rw [if_neg (fun q => c q.1)]
    unfold isI
    rw [z, hs, if_pos rfl]
    exact ⟨⟨by omega, by omega, by omega, by omega, fun _ => by omega, .inl rfl⟩, ms_lt q.2, by omega, fun _ => rfl⟩
theorem not_an (l : List S91) (M : Nat) (hn : ∀ M', M' < M → OKf l M' .not) (ht : OKf l M .test) : OKf l M .not := by
  intro i d e hm hg
  cases c : isP l i e wNot with
  | false =>
    obtain ⟨r, ⟨k, a⟩, q⟩ := ht i d e hm hg
    exact ⟨r, ⟨k + 1, by simp only [pr]; rw [c, if_neg (by decide)]; exact a⟩, q⟩
  | true =>
    obtain rfl := (isP_le l i e wNot c).1
    obtain ⟨b1, b2, b3, b4⟩ := dn_rs hg c
    obtain ⟨r, ⟨k, a⟩, q1, q2, q3, q4, q5⟩ := hn (M - 1) (by omega) _ _ _ (by omega) b1
    obtain ⟨g1, g2, g3, g4, g5, g6⟩ := hg
    have g5' := g5 rfl
    obtain ⟨h1, h2, h3, h4, h5, h6⟩ := q1
    refine ⟨⟨r.i, r.d - 1, r.e, ofP 12 [r.x]⟩, ⟨k + 1, ?_⟩, ⟨h1, h2, by simp only; omega, by simp only; omega, fun _ => by simp only; omega, h6⟩, by simp only; omega, by simp only; omega, fun q => absurd rfl q, fun z => ?_⟩
    · simp only [pr]
      rw [c, if_pos rfl, if_pos ⟨g3, by omega⟩, a, Option.bind_some, if_pos ⟨by omega, by omega⟩]
    · have z0 : dnE d 0 = 0 := Decidable.byContradiction fun u => u ((q4 u).1 ▸ z)
      have w1 := q5 z; have w2 := b4 z0
      simp only [nodes_of1]
      omega
theorem atom_an (l : List S91) (M : Nat) (ho : ∀ M', M' < M → OKf l M' .or) : OKf l M .atom := by
  intro i d e hm hg
  by_cases c1 : (tokP l i e).f0 = 3
  · have q := tok_le l i e (by rw [c1]; decide)
    exact ⟨_, ⟨1, by simp only [pr]; rw [if_pos c1]⟩, leaf_rs hg q.1 q.2 (val_nodes _ _ _)⟩
  by_cases c2 : (tokP l i e).f0 = 4
  · have q := tok_le l i e (by rw [c2]; decide)
    exact ⟨_, ⟨1, by simp only [pr]; rw [if_neg c1, if_pos c2]⟩, leaf_rs hg q.1 q.2 (tx_nodes _)⟩
  cases c3 : isP l i e wNull with
  | true =>
    have q := isP_le l i e wNull c3
    exact ⟨_, ⟨1, by simp only [pr]; rw [if_neg c1, if_neg c2, c3, if_pos rfl]⟩, leaf_rs hg q.1 q.2 (val_nodes _ _ _)⟩
  | false =>
    cases c4 : isP l i e wOpen with
    | false => exact ⟨_, ⟨1, by simp only [pr]; rw [if_neg c1, if_neg c2, c3, if_neg (by decide), c4, if_neg (by decide)]⟩, co_rs hg⟩
    | true =>
      obtain rfl := (isP_le l i e wOpen c4).1
      obtain ⟨b1, b2, b3, b4⟩ := dn_rs hg c4
      obtain ⟨r, ⟨k, a⟩, q1, q2, q3, q4, q5⟩ := ho (M - 1) (by omega) _ _ _ (by omega) b1
      obtain ⟨m1, m2, m3, m4⟩ := mu_rs wShut q1
      obtain ⟨g1, g2, g3, g4, g5, g6⟩ := hg
      have g5' := g5 rfl
      obtain ⟨h1, h2, h3, h4, h5, h6⟩ := m1
      refine ⟨⟨muI l r.i r.e wShut, r.d - 1, muE l r.i r.e wShut, r.x⟩, ⟨k + 1, ?_⟩, ⟨h1, h2, by simp only; omega, by simp only; omega, fun _ => by simp only; omega, h6⟩, by simp only; omega, by simp only; omega, fun q => absurd rfl q, fun z => ?_⟩
      · simp only [pr]
        rw [if_neg c1, if_neg c2, c3, if_neg (by decide), c4, if_pos rfl, if_pos ⟨g3, by omega⟩, a, Option.bind_some, if_pos ⟨by omega, by omega⟩]
      · have w0 := m4 z
        have z0 : dnE d 0 = 0 := Decidable.byContradiction fun u => u ((q4 u).1 ▸ w0.1)
        have w1 := q5 w0.1; have w2 := b4 z0
        simp only
        omega
theorem test_an (l : List S91) (M : Nat) (hs : OKf l M .sum) : OKf l M .test := by
  intro i d e hm hg
  obtain ⟨r, ⟨k, a⟩, q⟩ := hs i d e hm hg
  have qm := q.ms
  obtain ⟨q1, q2, q3, q4, q5⟩ := q
  cases hf : six.find? (fun s => isP l r.i r.e s) with
  | some s =>
    have hs1 : isP l r.i r.e s = true := by have := List.find?_some hf; simpa using this
    have hi := isP_le l r.i r.e s hs1
    have hlt := ms_lt hi.2
    obtain ⟨g1, g2, g3, g4, g5, g6⟩ := q1
    rw [hi.1] at qm
    obtain ⟨r2, ⟨k2, a2⟩, v1, v2, v3, v4, v5⟩ := hs (r.i + 1) r.d r.e (by rw [hi.1]; omega) ⟨by omega, by omega, g3, g4, g5, g6⟩
    refine ⟨⟨r2.i, r2.d, r2.e, ofP (opP s) [r.x, r2.x]⟩, ⟨max k k2 + 1, ?_⟩, v1, by simp only; omega, by simp only; omega, fun u => absurd (q4 u).1 (by rw [hi.1]; exact fun h => u h.symm), fun z => ?_⟩
    · simp only [pr]
      rw [pr_le a (Nat.le_max_left k k2), Option.bind_some, hf]
      show Option.bind _ _ = _
      rw [pr_le a2 (Nat.le_max_right k k2), Option.bind_some]
    · have w1 := q5 hi.1; have w2 := v5 z
      simp only [nodes_of2]
      omega
  | none =>
    refine ⟨tst l r, ⟨k + 1, by simp only [pr]; rw [a, Option.bind_some, hf]⟩, ?_⟩
    unfold tst
    cases c1 : isP l r.i r.e wIs with
    | false => rw [if_neg (by decide)]; exact ⟨q1, q2, q3, q4, q5⟩
    | true =>
      rw [if_pos rfl]
      have hi := isP_le l r.i r.e wIs c1
      obtain ⟨g1, g2, g3, g4, g5, g6⟩ := q1
      cases c2 : isP l (r.i + 1) r.e wNot with
      | true =>
        rw [if_pos rfl]
        have hj := isP_le l (r.i + 1) r.e wNot c2
        obtain ⟨m1, m2, m3, m4⟩ := mu_rs (l := l) (i := r.i + 1 + 1) (d := r.d) (e := r.e) wNull ⟨by omega, by omega, g3, g4, g5, g6⟩
        refine ⟨m1, q2, by simp only; omega, fun u => absurd (q4 u).1 (by rw [hi.1]; exact fun h => u h.symm), fun z => ?_⟩
        have w1 := q5 hi.1
        simp only [nodes_of1]
        omega
      | false =>
        rw [if_neg (by decide)]
        obtain ⟨m1, m2, m3, m4⟩ := mu_rs (l := l) (i := r.i + 1) (d := r.d) (e := r.e) wNull ⟨by omega, by omega, g3, g4, g5, g6⟩
        refine ⟨m1, q2, by simp only; omega, fun u => absurd (q4 u).1 (by rw [hi.1]; exact fun h => u h.symm), fun z => ?_⟩
        have w1 := q5 hi.1
        simp only [nodes_of1]
        omega
theorem link_f {l : List S91} {M : Nat} {p q : Gr} {ss : List ByteArray} (hpr : ∀ k i d e, pr l (k + 1) (.f p) i d e = (pr l k (.f q) i d e).bind fun r => pr l k (.ch q ss r.x) r.i r.d r.e) (h : OKf l M q) (hs : ∀ M', M' < M → OKf l M' q) : OKf l M p := by
  intro i d e hm hg
  obtain ⟨k, r0, r, a1, a2, q⟩ := link_an h (chain_an l q ss M hs) hm hg
  exact ⟨r, ⟨k + 1, by rw [hpr, a1, Option.bind_some]; exact a2⟩, q⟩
theorem all_an (l : List S91) (M : Nat) : ∀ M', M' ≤ M → ∀ p, OKf l M' p := by
  induction M using Nat.strongRecOn with
  | ind M ih =>
    intro M' hM
    rcases Nat.lt_or_ge M' M with h | h
    · exact ih M' h M' (Nat.le_refl M')
    · obtain rfl : M' = M := by omega
      have lo : ∀ p, ∀ N, N < M' → OKf l N p := fun p N hN => ih N hN N (Nat.le_refl N) p
      have h1 : OKf l M' .atom := atom_an l M' (lo .or)
      have h2 : OKf l M' .prod := link_f (q := .atom) (ss := [wStar]) (fun k i d e => by simp only [pr]) h1 (lo .atom)
      have h3 : OKf l M' .sum := link_f (q := .prod) (ss := [wPlus, wMinus]) (fun k i d e => by simp only [pr]) h2 (lo .prod)
      have h4 : OKf l M' .test := test_an l M' h3
      have h5 : OKf l M' .not := not_an l M' (lo .not) h4
      have h6 : OKf l M' .and := link_f (q := .not) (ss := [wAnd]) (fun k i d e => by simp only [pr]) h5 (lo .not)
      have h7 : OKf l M' .or := link_f (q := .and) (ss := [wOr]) (fun k i d e => by simp only [pr]) h6 (lo .and)
      intro p
      cases p <;> assumption
theorem pr_an (l : List S91) (e : Int) (he : e = 0 ∨ e = 1 ∨ e = 4) : ∃ r k, pr l k (.f .or) 0 0 e = some r ∧ Rs l 0 0 e r 0 := by
  obtain ⟨r, ⟨k, a⟩, q⟩ := all_an l (ms l 0 e) _ (Nat.le_refl _) .or 0 0 e (Nat.le_refl _) ⟨Int.le_refl 0, Int.natCast_nonneg _, Int.le_refl 0, by decide, fun _ => by decide, he⟩
  exact ⟨r, k, a, q⟩
end Go.Proofs.Ytcfgjaggccnoaaa.PParseSmall
namespace Go.Proofs.Ytcfgjaggccnoaaa.PParseSmall
open Go.RowKit Go.Proofs.YtcfgjaggccnoaaaW.PrintWords Go.Proofs.YtcfgjaggccnoaaaW.PrintLast Go.Proofs.YtcfgjaggccnoaaaW.PrintMore
attribute [local go_sem] max2_int min2_int max_two min_two max_three min_three max_four min_four
set_option linter.unusedVariables false
set_option linter.unusedSimpArgs false
set_option maxRecDepth 100000
set_option maxHeartbeats 4000000
theorem take_st {w : World} {g : Nat} {A : Option Addr} {c : Nat} {l : List S91} {i d e : Int} (h : St w g A c l i d e) (s : ByteArray) :
    Calls Try.prog 121 #[.pointer (some ⟨g, 0, none⟩), .string s] w fun r w' => r = .returned (.bool (isP l i e s)) ∧ St w' g A c l (isI l i e s) d e ∧ Chg g w w' := by
  unfold isI
  cases hs : isP l i e s with
  | true => rw [if_pos rfl]; exact take_yes_st h s hs
  | false => rw [if_neg (by decide)]; exact take_no_st h s hs
theorem lit1 {P : Program} {ops : Array Oper} {Q : Exit → Act → World → Prop} {o : Oper} {rest : List Oper} {a : Act} {W : World} {x : S27} {A : Option Addr} {c : Nat} {ok : Nat → Prop} {N' : Tmp} (hgd : o.guard = none) (hd : o.dst = some N') (hT : Tr W ok x A c) (hf : ok W.heap.size)
    (hrun : (execOp a.eval o).run P W = .ok (.value (.slice (some ⟨W.heap.size, 0, none⟩) 1 1)) (W.alloc (.cells #[.int .i64 x.f0, .string x.f1, .string x.f2, .int .i64 x.f3, .int .i64 x.f4, .int .i64 x.f5.f0, .int .i64 x.f5.f1, .string x.f5.f2, .slice A x.f6.length c] 27)))
    (h : ∀ A1 c1 w1, Kd.V k27 27 w1 0 ok (.slice A1 1 c1) [x] → Below W.heap.size W w1 → wpList P ops Q rest (a.put o.dst (.slice A1 1 c1)) w1) : wpList P ops Q (o :: rest) a W := by
  refine Kd.N_lit k27 W.heap.size 27 hgd hd (xs := [x]) (ok := ok) (okp := ok) hrun (reps1 hT) (fun _ q => q) hf (Below.refl _ _) (Nat.le_refl _) (by simp) ?_
  intro v1 w1 hn hb _ _
  obtain ⟨A1, c1, rfl, hl, hF⟩ := Kd.N_V (base' := 0) hn
  exact h A1 c1 w1 ⟨A1, c1, rfl, hl, hF⟩ hb
theorem leave_up {fn : Func} {tmps : Array Value} {w W : World} {g gb : Nat} {A vA : Option Addr} {c vc : Nat} {l : List S91} {i d e : Int} {x : S27}
    (hres : ∀ W', W'.heap[gb]? = some (.cells #[.int .i64 x.f0, .string x.f1, .string x.f2, .int .i64 x.f3, .int .i64 x.f4, .int .i64 x.f5.f0, .int .i64 x.f5.f1, .string x.f5.f2, .slice vA x.f6.length vc] 27 (0, 0)) → (results fn tmps).run Try.prog W' = .ok (exV x vA vc) W')
    (S : St W g A c l i d e) (B : W.heap[gb]? = some (.cells #[.int .i64 x.f0, .string x.f1, .string x.f2, .int .i64 x.f3, .int .i64 x.f4, .int .i64 x.f5.f0, .int .i64 x.f5.f1, .string x.f5.f2, .slice vA x.f6.length vc] 27 (0, 0))) (C : Chg g w W) (T : Tr W (fun k => w.heap.size ≤ k) x vA vc) (hn : gb ≠ g) (hg : g < w.heap.size) (h0 : -1000 ≤ d) (h1 : d ≤ 1000) :
    Leaves Try.prog fn tmps (Done w g A c l ⟨i, d - 1, e, x⟩) [{ target := .fn (.func 152) #[], args := #[.pointer (some ⟨g, 0, none⟩)] }] .returning W := by
  refine leaves_cons (f := 152) (args := #[.pointer (some ⟨g, 0, none⟩)]) (by simp) (by simp [go_sem]) ?_
  refine (up_d g A l.length c i d e _ _ S.ps h0 h1).mono ?_
  rintro e1 u1 w1 ⟨rfl, rfl, rfl⟩
  have K : Chg g W (W.setCell ⟨g, 2, none⟩ (.int .i64 (d - 1))) := (Chg.refl g W).set 2 _
  exact ⟨_, hres _ (K.box B hn), vA, vc, rfl, S.go K (S.ps.deep _) S.i0 S.i1, C.trans K, T.chg K (by omega)⟩
theorem not_no {k : Nat} (hT : GOK k .test) {w : World} {g : Nat} {A : Option Addr} {c : Nat} {l : List S91} {i d e : Int} {r : Re} (h : St w g A c l i d e) (hs : isP l i e wNot = false) (hr : pr l k (.f .test) i d e = some r) :
    Calls Try.prog 124 #[.pointer (some ⟨g, 0, none⟩)] w (Done w g A c l r) := by
  have HS := Lib.hid hs; clear hs
  have H := Lib.hid h; clear h
  have HR := Lib.hid hr; clear hr
  have HT := Lib.hid hT; clear hT
  go_enter_defers Try.func124, Try.ntmps124
  go_wp2_with (first
    | (((with_reducible refine gate_dst (N := 2) rfl ?_); refine box_event ?hg (N := 2) ?hd (cs := #[.int .i64 0, .string (⟨#[]⟩ : ByteArray), .string (⟨#[]⟩ : ByteArray), .int .i64 0, .int .i64 0, .int .i64 0, .int .i64 0, .string (⟨#[]⟩ : ByteArray), .slice none 0 0]) (t := 27) ?hr ?_; (case hd => rfl); (case hg => rfl); (case hr => first | (go_simp; done) | (go_simp; rfl)); intro gb hg_ w1 hb_ hl_; have BKgb := am_ hb_; have HLgb := am_ hl_; have HGgb := am_ (Nat.le_of_eq hg_.symm); obtain ⟨zgb_0, zgb_1, zgb_2, zgb_3, zgb_4, zgb_5, zgb_6, zgb_7, zgb_8, ygb_0, ygb_1, ygb_2, ygb_3, ygb_4, ygb_5, ygb_6, ygb_7, ygb_8⟩ := bw9_ hb_; clear hb_ hl_ hg_; simp only [Act.put, sa_, sz_, ss_]); have H1 := Lib.hid (H.out.below HLgb.out); have HG := Lib.hid (Nat.lt_of_lt_of_le H.out.lt HGgb.out); have HN := Lib.hid (ne_of_le H.out.lt HGgb.out); clear zgb_0 zgb_1 zgb_2 zgb_3 zgb_4 zgb_5 zgb_6 zgb_7 zgb_8 ygb_0 ygb_1 ygb_2 ygb_3 ygb_4 ygb_5 ygb_6 ygb_7 ygb_8)
    | ((with_reducible refine gate_callee (f := 148) rfl ?_); refine goesL_ (some 4) rfl rfl Try.func148 (by kernel_rfl) rfl #[.pointer (some ⟨g, 0, none⟩), .string wNot] rfl (by (try simp only [List.map_toArray, List.map_cons, List.map_nil]); first | done | rfl) ?_; refine (is_st H1.out _ _ HS.out).mono ?_; rintro r' w2 ⟨rfl, h2, c2⟩; refine ⟨_, rfl, ?_⟩; simp only [Act.put, sa_, sz_, ss_]; have H2 := Lib.hid h2; have C2 := Lib.hid c2; clear h2 c2)
    | ((with_reducible refine gate_callee (f := 150) rfl ?_); refine goesL_ (some 7) rfl rfl Try.func150 (by kernel_rfl) rfl #[.pointer (some ⟨g, 0, none⟩)] rfl (by (try simp only [List.map_toArray, List.map_cons, List.map_nil]); first | done | rfl) ?_; refine (HT.out _ _ _ _ _ _ _ _ _ H2.out HR.out).mono ?_; rintro r' w4 ⟨vA, vc, rfl, h4, c4, t4⟩; refine ⟨_, rfl, ?_⟩; simp only [Act.put, sa_, sz_, ss_]; simp only [exV]; have H4 := Lib.hid h4; have C4 := Lib.hid c4; have T4 := Lib.hid t4; clear h4 c4 t4; have BK4 := Lib.hid (C4.out.box (C2.out.box BKgb.out HN.out) HN.out); obtain ⟨s0, s1, s2, s3, s4, s5, s6, s7, s8, r0, r1, r2, r3, r4, r5, r6, r7, r8⟩ := bw9_ BK4.out))
  refine ⟨_, results_cell_row rfl _ _ gb 27 #[.int .i64 r.x.f0, .string r.x.f1, .string r.x.f2, .int .i64 r.x.f3, .int .i64 r.x.f4, .int .i64 r.x.f5.f0, .int .i64 r.x.f5.f1, .string r.x.f5.f2, .slice vA r.x.f6.length vc] (0, 0) _ rfl (put9_ BK4.out) Try.underlying27 rfl (by kernel_rfl), vA, vc, rfl, H4.out.box chg9_ HG.out, (((Chg.below H.out.lt HLgb.out).trans C2.out).trans C4.out).own chg9_ HGgb.out (Nat.le_of_lt HG.out), ?_⟩
  exact ((T4.out.mono fun q hl hq => (⟨Nat.le_trans (Nat.le_trans (below_size HLgb.out) C2.out.size) hq, fun h => absurd (blk_lt (C2.out.box BKgb.out HN.out)) (by omega)⟩ : w.heap.size ≤ q ∧ q ≠ gb)).chg chg9_ (fun h => h.2 rfl)).mono fun q _ hq => hq.1
theorem not_yes {k : Nat} (hT : GOK k .not) {w : World} {g : Nat} {A : Option Addr} {c : Nat} {l : List S91} {i d e : Int} {r : Re} (h : St w g A c l i d e) (hs : isP l i e wNot = true) (h0 : 0 ≤ d) (h1 : d ≤ 100) (h2 : 0 ≤ r.d) (h3 : r.d ≤ 200) (hr : pr l k (.f .not) (isI l i (dnE d e) wNot) (d + 1) (dnE d e) = some r) :
    Calls Try.prog 124 #[.pointer (some ⟨g, 0, none⟩)] w (Done w g A c l ⟨r.i, r.d - 1, r.e, ofP 12 [r.x]⟩) := by
  have HS := Lib.hid hs; clear hs
  have H := Lib.hid h; clear h
  have HR := Lib.hid hr; clear hr
  have HT := Lib.hid hT; clear hT
  have h0' : -1000 ≤ d := by omega
  have h1' : d ≤ 1000 := by omega
  go_enter_defers Try.func124, Try.ntmps124
  go_wp2_with (first
    | (((with_reducible refine gate_dst (N := 2) rfl ?_); refine box_event ?hg (N := 2) ?hd (cs := #[.int .i64 0, .string (⟨#[]⟩ : ByteArray), .string (⟨#[]⟩ : ByteArray), .int .i64 0, .int .i64 0, .int .i64 0, .int .i64 0, .string (⟨#[]⟩ : ByteArray), .slice none 0 0]) (t := 27) ?hr ?_; (case hd => rfl); (case hg => rfl); (case hr => first | (go_simp; done) | (go_simp; rfl)); intro gb hg_ w1 hb_ hl_; have BKgb := am_ hb_; have HLgb := am_ hl_; have HGgb := am_ (Nat.le_of_eq hg_.symm); obtain ⟨zgb_0, zgb_1, zgb_2, zgb_3, zgb_4, zgb_5, zgb_6, zgb_7, zgb_8, ygb_0, ygb_1, ygb_2, ygb_3, ygb_4, ygb_5, ygb_6, ygb_7, ygb_8⟩ := bw9_ hb_; clear hb_ hl_ hg_; simp only [Act.put, sa_, sz_, ss_]); have H1 := Lib.hid (H.out.below HLgb.out); have HG := Lib.hid (Nat.lt_of_lt_of_le H.out.lt HGgb.out); have HN := Lib.hid (ne_of_le H.out.lt HGgb.out); clear zgb_0 zgb_1 zgb_2 zgb_3 zgb_4 zgb_5 zgb_6 zgb_7 zgb_8 ygb_0 ygb_1 ygb_2 ygb_3 ygb_4 ygb_5 ygb_6 ygb_7 ygb_8)
    | ((with_reducible refine gate_callee (f := 148) rfl ?_); refine goesL_ (some 4) rfl rfl Try.func148 (by kernel_rfl) rfl #[.pointer (some ⟨g, 0, none⟩), .string wNot] rfl (by (try simp only [List.map_toArray, List.map_cons, List.map_nil]); first | done | rfl) ?_; refine (is_st H1.out _ _ HS.out).mono ?_; rintro r' w2 ⟨rfl, h2, c2⟩; refine ⟨_, rfl, ?_⟩; simp only [Act.put, sa_, sz_, ss_]; have H2 := Lib.hid h2; have C2 := Lib.hid c2; clear h2 c2)
    | ((with_reducible refine gate_callee (f := 151) rfl ?_); refine goesL_ (some 9) rfl rfl Try.func151 (by kernel_rfl) rfl #[.pointer (some ⟨g, 0, none⟩)] rfl (by (try simp only [List.map_toArray, List.map_cons, List.map_nil]); first | done | rfl) ?_; refine (down_st H2.out h0' h1').mono ?_; rintro r' w3 ⟨rfl, h3, c3⟩; refine ⟨_, rfl, ?_⟩; simp only [Act.put, sa_, sz_, ss_]; have H3 := Lib.hid h3; have C3 := Lib.hid c3; clear h3 c3)
    | ((with_reducible refine gate_callee (f := 121) rfl ?_); refine goesL_ (some 12) rfl rfl Try.func121 (by kernel_rfl) rfl #[.pointer (some ⟨g, 0, none⟩), .string wNot] rfl (by (try simp only [List.map_toArray, List.map_cons, List.map_nil]); first | done | rfl) ?_; refine (take_st H3.out _).mono ?_; rintro r' w4 ⟨rfl, h4, c4⟩; refine ⟨_, rfl, ?_⟩; simp only [Act.put, sa_, sz_, ss_]; have H4 := Lib.hid h4; have C4 := Lib.hid c4; clear h4 c4)
    | ((with_reducible refine gate_callee (f := 124) rfl ?_); refine goesL_ (some 14) rfl rfl Try.func124 (by kernel_rfl) rfl #[.pointer (some ⟨g, 0, none⟩)] rfl (by (try simp only [List.map_toArray, List.map_cons, List.map_nil]); first | done | rfl) ?_; refine (HT.out _ _ _ _ _ _ _ _ _ H4.out HR.out).mono ?_; rintro r' w5 ⟨vA, vc, rfl, h5, c5, t5⟩; refine ⟨_, rfl, ?_⟩; simp only [Act.put, sa_, sz_, ss_]; simp only [exV]; have H5 := Lib.hid h5; have C5 := Lib.hid c5; have T5 := Lib.hid t5; clear h5 c5 t5)
    | ((with_reducible refine gate_dst (N := 15) rfl ?_); refine lit1 (N' := 15) ?hg ?hd T5.out ?hf ?hr ?_; (case hd => rfl); (case hg => rfl); (case hf => exact C5.out.size); (case hr => first | (go_simp; done) | (go_simp; rfl)); intro A6 c6 w6 v6 b6; have V6 := Lib.hid v6; have B6 := Lib.hid b6; clear v6 b6; simp only [Act.put, sa_, sz_, ss_])
    | ((with_reducible refine gate_callee (f := 122) rfl ?_); refine goesL_ (some 16) rfl rfl Try.func122 (by kernel_rfl) rfl #[.int .i64 12, .slice A6 1 c6] rfl (by (try simp only [List.map_toArray, List.map_cons, List.map_nil]); first | done | rfl) ?_; refine (of_any 12 [r.x] (by simp) V6.out).mono ?_; rintro r' w7 ⟨vA, vc, rfl, t7, b7⟩; refine ⟨_, rfl, ?_⟩; simp only [Act.put, sa_, sz_, ss_]; simp only [exV, ofP]; have T7 := Lib.hid t7; have B7 := Lib.hid b7; clear t7 b7; have BK4 := Lib.hid (C4.out.box (C3.out.box (C2.out.box BKgb.out HN.out) HN.out) HN.out); have BK7 := Lib.hid (blk_below (blk_below (C5.out.box BK4.out HN.out) B6.out) B7.out); obtain ⟨s0, s1, s2, s3, s4, s5, s6, s7, s8, r0, r1, r2, r3, r4, r5, r6, r7, r8⟩ := bw9_ BK7.out))
  refine leave_up (gb := gb) (vA := vA) (vc := vc) (x := ofP 12 [r.x]) (fun W' hb => results_cell_row rfl _ _ gb 27 _ (0, 0) _ rfl hb Try.underlying27 rfl (by kernel_rfl)) (((H5.out.below B6.out).below B7.out).box chg9_ HG.out) (put9_ BK7.out) (((((((Chg.below H.out.lt HLgb.out).trans C2.out).trans C3.out).trans C4.out).trans C5.out).trans ((Chg.below H5.out.lt B6.out).trans (Chg.below (H5.out.below B6.out).lt B7.out))).own chg9_ HGgb.out (Nat.le_of_lt HG.out)) ?_ HN.out H.out.lt (by omega) (by omega)
  have hw4 := Nat.le_trans (Nat.le_trans (Nat.le_trans (below_size HLgb.out) C2.out.size) C3.out.size) C4.out.size
  have hw5 := C5.out.size
  have hw6 := below_size B6.out
  exact ((T7.out.mono fun q hl hq => (⟨by rcases hq with hq | hq <;> omega, fun h => absurd (blk_lt BK4.out) (by rcases hq with hq | hq <;> omega)⟩ : w.heap.size ≤ q ∧ q ≠ gb)).chg chg9_ (fun h => h.2 rfl)).mono fun q _ hq => hq.1
end Go.Proofs.Ytcfgjaggccnoaaa.PParseSmall
namespace Go.Proofs.Ytcfgjaggccnoaaa.PParseSmall
open Go.RowKit Go.Proofs.YtcfgjaggccnoaaaW.PrintWords Go.Proofs.YtcfgjaggccnoaaaW.PrintLast Go.Proofs.YtcfgjaggccnoaaaW.PrintMore
attribute [local go_sem] max2_int min2_int max_two min_two max_three min_three max_four min_four
set_option linter.unusedVariables false
set_option linter.unusedSimpArgs false
set_option maxRecDepth 100000
set_option maxHeartbeats 4000000
theorem opP_f (s : ByteArray) : parse_opOf.f s = some (opP s) := by
  unfold opP parse_opOf.f
  repeat' split
  all_goals rfl
def Sg (w : World) (g b0 : Nat) (S : Option Addr) (ss : List ByteArray) : Prop := Kd.F Kd.string w (fun k => k ≠ g ∧ k < b0) S ss.length ss
theorem Sg.chg {w w' : World} {g b0 : Nat} {S : Option Addr} {ss : List ByteArray} (h : Sg w g b0 S ss) (k : Chg g w w') : Sg w' g b0 S ss := Kd.F_step h fun q hq hl => k.2.2 q hl hq.1 (by simp)
theorem Sg.box {w w' : World} {g gb b0 : Nat} {S : Option Addr} {ss : List ByteArray} (h : Sg w g b0 S ss) (k : Chg gb w w') (hb : b0 ≤ gb) : Sg w' g b0 S ss := Kd.F_step h fun q hq hl => k.2.2 q hl (by have := hq.2; omega) (by simp)
theorem Sg.cell {w : World} {g b0 : Nat} {S : Option Addr} {ss : List ByteArray} (h : Sg w g b0 S ss) (i : Int) (h0 : 0 ≤ i) (h1 : i < ss.length) : ∃ ad, S = some ad ∧ w.cell? (ad.add i.toNat) = some (.string (rdOf ByteArray.empty ss i)) := Kd.at_string (Kd.F_now h) i h0 h1
abbrev cl27 (x : S27) (vA : Option Addr) (vc : Nat) : Array Value := #[.int .i64 x.f0, .string x.f1, .string x.f2, .int .i64 x.f3, .int .i64 x.f4, .int .i64 x.f5.f0, .int .i64 x.f5.f1, .string x.f5.f2, .slice vA x.f6.length vc]
structure CS (w0 : World) (g g6 g7 : Nat) (A : Option Addr) (c : Nat) (l : List S91) (S : Option Addr) (ss : List ByteArray) (w : World) (i d e : Int) (x : S27) (vA : Option Addr) (vc : Nat) : Prop where
  st : St w g A c l i d e
  ch : Chg g w0 w
  b6 : w.heap[g6]? = some (.cells #[.int .i64 0, .string ⟨#[]⟩, .string ⟨#[]⟩, .int .i64 0, .int .i64 0, .int .i64 0, .int .i64 0, .string ⟨#[]⟩, .slice none 0 0] 27 (0, 0))
  b7 : w.heap[g7]? = some (.cells (cl27 x vA vc) 27 (0, 0))
  tr : Tr w (fun k => w0.heap.size ≤ k ∧ k ≠ g6 ∧ k ≠ g7) x vA vc
  sg : Sg w g w0.heap.size S ss
  hg : g < w0.heap.size
  h6 : w0.heap.size ≤ g6
  h67 : g6 < g7
section
variable {w0 w w' : World} {g g6 g7 c vc : Nat} {A S vA : Option Addr} {l : List S91} {ss : List ByteArray} {i d e i' d' e' : Int} {x : S27}
theorem CS.chg (h : CS w0 g g6 g7 A c l S ss w i d e x vA vc) (k : Chg g w w') (st : St w' g A c l i' d' e') : CS w0 g g6 g7 A c l S ss w' i' d' e' x vA vc :=
  have hg := h.hg; have h6 := h.h6; have h67 := h.h67
  ⟨st, h.ch.trans k, k.box h.b6 (by omega), k.box h.b7 (by omega), h.tr.chg k (by omega), h.sg.chg k, hg, h6, h67⟩
theorem CS.below (h : CS w0 g g6 g7 A c l S ss w i d e x vA vc) (k : Below w.heap.size w w') : CS w0 g g6 g7 A c l S ss w' i d e x vA vc := h.chg (Chg.below h.st.lt k) (h.st.below k)
theorem CS.put (h : CS w0 g g6 g7 A c l S ss w i d e x vA vc) {x' : S27} {vA' : Option Addr} {vc' : Nat} (k : Chg g7 w w') (hb : w'.heap[g7]? = some (.cells (cl27 x' vA' vc') 27 (0, 0))) (ht : Tr w (fun k => w0.heap.size ≤ k ∧ k ≠ g6 ∧ k ≠ g7) x' vA' vc') : CS w0 g g6 g7 A c l S ss w' i d e x' vA' vc' :=
  have hg := h.hg; have h6 := h.h6; have h67 := h.h67
  ⟨h.st.box k (by omega), h.ch.own k (by omega) (by omega), k.box h.b6 (by omega), hb, ht.chg k (by omega), h.sg.box k (by omega), hg, h6, h67⟩
theorem CS.done (h : CS w0 g g6 g7 A c l S ss w i d e x vA vc) {v0 v1 v2 v3 v4 v5 v6 v7 v8 : Value} : Done w0 g A c l ⟨i, d, e, x⟩ (.returned (exV x vA vc)) (((((((((w.setCell ⟨g6, 0, none⟩ v0).setCell ⟨g6, 1, none⟩ v1).setCell ⟨g6, 2, none⟩ v2).setCell ⟨g6, 3, none⟩ v3).setCell ⟨g6, 4, none⟩ v4).setCell ⟨g6, 5, none⟩ v5).setCell ⟨g6, 6, none⟩ v6).setCell ⟨g6, 7, none⟩ v7).setCell ⟨g6, 8, none⟩ v8) :=
  have hg := h.hg; have h6 := h.h6
  ⟨vA, vc, rfl, h.st.box chg9_ (by omega), h.ch.own chg9_ h6 (by omega), (h.tr.chg chg9_ (fun q => q.2.1 rfl)).mono fun _ _ q => q.1⟩
end
section
variable {ops : Array Oper} {Q : Exit → Act → World → Prop}
theorem Gr.fn (p : Gr) : ∃ fn, Try.prog.funcs[p.num]? = some fn ∧ (fn.name == "runtime.NumGoroutine") = false ∧ fn.body.isSome = true := by
  cases p
  · exact ⟨_, Try.func41, by kernel_rfl, rfl⟩
  · exact ⟨_, Try.func80, by kernel_rfl, rfl⟩
  · exact ⟨_, Try.func124, by kernel_rfl, rfl⟩
  · exact ⟨_, Try.func150, by kernel_rfl, rfl⟩
  · exact ⟨_, Try.func159, by kernel_rfl, rfl⟩
  · exact ⟨_, Try.func167, by kernel_rfl, rfl⟩
  · exact ⟨_, Try.func179, by kernel_rfl, rfl⟩
theorem Gr.run (p : Gr) {o : Oper} {a : Act} {w : World} {q : Tmp} {v0 : Value} (hop : o.op = .call { callee := .value (.tmp q), args := #[], argTypes := #[] }) (hv : a.eval (.tmp q) = .func (.func p.num) #[v0] #[]) : (execOp a.eval o).run Try.prog w = .ok (.enter p.num #[v0]) w := by
  obtain ⟨fn, hf, hn, hb⟩ := p.fn
  have he := enters_ hf hn hb #[v0] w
  unfold execOp
  simp [hop, resolve, Deferred.ofValue, invoke, hv, he]
theorem goesP_ (p : Gr) {rest : List Oper} {oi : Oper} {a : Act} {w : World} (N : Option Tmp) (hd : oi.dst = N) (hg : oi.guard = none) {q : Tmp} (v0 : Value)
    (hop : oi.op = .call { callee := .value (.tmp q), args := #[], argTypes := #[] }) (hv : a.eval (.tmp q) = .func (.func p.num) #[v0] #[])
    (h : Calls Try.prog p.num #[v0] w fun e w' => ∃ v, e = .returned v ∧ wpList Try.prog ops Q rest (a.put N v) w') : wpList Try.prog ops Q (oi :: rest) a w := by
  refine wpList_plain hg fun K hK => ?_
  unfold Oper.wp
  rw [p.run hop hv, Oper.upon_enter]
  refine h.mono fun e w'' hh => ?_
  obtain ⟨v, rfl, hk⟩ := hh
  subst hd
  exact hK _ _ hk
theorem goesR_ (p : Gr) {oi : Oper} {a : Act} {w : World} {K : Act → World → Prop} (N : Option Tmp) {q : Tmp} (v0 : Value) (hw : Region.wanted oi (yielded ops a.tmps) = true) (hN : oi.dst = N)
    (hop : oi.op = .call { callee := .value (.tmp q), args := #[], argTypes := #[] }) (hv : a.eval (.tmp q) = .func (.func p.num) #[v0] #[])
    (h : Calls Try.prog p.num #[v0] w fun e w' => ∃ v, e = .returned v ∧ K (a.put N v) w') : if Region.wanted oi (yielded ops a.tmps) = true then Oper.wp Try.prog oi a w K Q else K (a.put N undef) w :=
  call_ p.num #[v0] hw hN (p.run hop hv) h
end
theorem rdOf_mem (ss : List ByteArray) (j : Int) (h0 : 0 ≤ j) (h1 : j < ss.length) : rdOf ByteArray.empty ss j ∈ ss := by
  unfold rdOf
  rw [List.getD_eq_getElem?_getD, List.getElem?_eq_getElem (by omega)]
  exact List.getElem_mem _
theorem find_at {f : ByteArray → Bool} {ss : List ByteArray} {s : ByteArray} (h : ss.find? f = some s) : f s = true ∧ ∃ m : Nat, m < ss.length ∧ rdOf ByteArray.empty ss m = s ∧ ∀ j : Int, 0 ≤ j → j < m → f (rdOf ByteArray.empty ss j) = false := by
  obtain ⟨h1, m, hm, rfl, hb⟩ := List.find?_eq_some_iff_getElem.1 h
  refine ⟨h1, m, hm, ?_, ?_⟩
  · unfold rdOf
    rw [List.getD_eq_getElem?_getD, List.getElem?_eq_getElem (by omega)]
    rfl
  · intro j h0 hj
    unfold rdOf
    rw [List.getD_eq_getElem?_getD, List.getElem?_eq_getElem (by omega)]
    simpa using hb j.toNat (by omega)
theorem w64 (n : Int) (h : -9223372036854775808 ≤ n ∧ n ≤ 9223372036854775807) : wrap64 n = n := by unfold wrap64; omega
theorem txt_ne {s : ByteArray} (h : s ≠ ⟨#[]⟩) : (s.toList == ([] : List UInt8)) = false := by
  refine beq_eq_false_iff_ne.2 fun q => h ?_
  rw [ByteArray.toList_eq] at q
  obtain ⟨⟨x⟩⟩ := s
  simp only at q
  rw [q]
theorem lit2s {P : Program} {ops : Array Oper} {Q : Exit → Act → World → Prop} {o : Oper} {a : Act} {Kc : Act → World → Prop} {W : World} {x y : S27} {A B : Option Addr} {c b : Nat} {ok : Nat → Prop} {N' : Tmp} (hw : Region.wanted o (yielded ops a.tmps) = true) (hd : o.dst = some N') (hx : Tr W ok x A c) (hy : Tr W ok y B b) (hf : ok W.heap.size)
    (hrun : (execOp a.eval o).run P W = .ok (.value (.slice (some ⟨W.heap.size, 0, none⟩) 2 2)) (W.alloc (.cells #[.int .i64 x.f0, .string x.f1, .string x.f2, .int .i64 x.f3, .int .i64 x.f4, .int .i64 x.f5.f0, .int .i64 x.f5.f1, .string x.f5.f2, .slice A x.f6.length c, .int .i64 y.f0, .string y.f1, .string y.f2, .int .i64 y.f3, .int .i64 y.f4, .int .i64 y.f5.f0, .int .i64 y.f5.f1, .string y.f5.f2, .slice B y.f6.length b] 27)))
    (h : ∀ A1 c1 w1, Kd.V k27 27 w1 0 ok (.slice A1 2 c1) [x, y] → Below W.heap.size W w1 → Kc (a.put (some N') (.slice A1 2 c1)) w1) : if Region.wanted o (yielded ops a.tmps) = true then Oper.wp P o a W Kc Q else Kc (a.put (some N') undef) W := by
  rw [← hd]
  refine Kd.N_lit_step k27 W.heap.size 27 hw hd (xs := [x, y]) (ok := ok) (okp := ok) hrun (reps2 hx hy) (fun _ q => q) hf (Below.refl _ _) (Nat.le_refl _) (by simp) ?_
  intro v1 w1 hn hb _ _
  obtain ⟨A1, c1, rfl, hl, hF⟩ := Kd.N_V (base' := 0) hn
  rw [hd]
  exact h A1 c1 w1 ⟨A1, c1, rfl, hl, hF⟩ hb
section
variable {w0 w w' : World} {g g6 g7 c vc : Nat} {A S vA : Option Addr} {l : List S91} {ss : List ByteArray} {i d e : Int} {x : S27}
theorem CS.fresh (h : CS w0 g g6 g7 A c l S ss w i d e x vA vc) : w0.heap.size ≤ w.heap.size ∧ w.heap.size ≠ g6 ∧ w.heap.size ≠ g7 :=
  have h1 := blk_lt h.b6; have h2 := blk_lt h.b7
  ⟨h.ch.size, by omega, by omega⟩
theorem Tr.aft (h : CS w0 g g6 g7 A c l S ss w i d e x vA vc) {W : World} {y : S27} {B : Option Addr} {b : Nat} (t : Tr W (fun k => w.heap.size ≤ k) y B b) : Tr W (fun k => w0.heap.size ≤ k ∧ k ≠ g6 ∧ k ≠ g7) y B b :=
  t.mono fun k _ hk => by
    have h1 := blk_lt h.b6; have h2 := blk_lt h.b7; have h3 := h.ch.size
    exact ⟨by omega, by omega, by omega⟩
theorem Tr.new (h : CS w0 g g6 g7 A c l S ss w i d e x vA vc) {W : World} {y : S27} {B : Option Addr} {b : Nat} (t : Tr W (fun k => (w0.heap.size ≤ k ∧ k ≠ g6 ∧ k ≠ g7) ∨ w.heap.size ≤ k) y B b) : Tr W (fun k => w0.heap.size ≤ k ∧ k ≠ g6 ∧ k ≠ g7) y B b :=
  t.mono fun k _ hk => by
    have h1 := blk_lt h.b6; have h2 := blk_lt h.b7; have h3 := h.ch.size
    rcases hk with hk | hk
    · exact hk
    · exact ⟨by omega, by omega, by omega⟩
end
end Go.Proofs.Ytcfgjaggccnoaaa.PParseSmall
namespace Go.Proofs.Ytcfgjaggccnoaaa.PParseSmall
open Go.RowKit Go.Proofs.YtcfgjaggccnoaaaW.PrintWords Go.Proofs.YtcfgjaggccnoaaaW.PrintLast Go.Proofs.YtcfgjaggccnoaaaW.PrintMore
attribute [local go_sem] max2_int min2_int max_two min_two max_three min_three max_four min_four
set_option linter.unusedVariables false
set_option linter.unusedSimpArgs false
set_option maxRecDepth 100000
set_option maxHeartbeats 4000000
theorem chain_any (p : Gr) (ss : List ByteArray) (hne : ∀ s ∈ ss, s ≠ ⟨#[]⟩) (hss : ss.length ≤ 100) (k : Nat) (hp : ∀ j, j ≤ k → GOK j p) {w : World} {g : Nat} {A S : Option Addr} {c cS : Nat} {l : List S91} {i d e : Int} {r0 r : Re} (h : St w g A c l i d e) (hS : Sg w g w.heap.size S ss) (h0 : pr l k (.f p) i d e = some r0) (hr : pr l k (.ch p ss r0.x) r0.i r0.d r0.e = some r) :
    Calls Try.prog 79 #[.pointer (some ⟨g, 0, none⟩), .func (.func p.num) #[.pointer (some ⟨g, 0, none⟩)] #[], .slice S ss.length cS] w (Done w g A c l r) := by
  have NE := Lib.hid hne; clear hne
  have H := Lib.hid h; clear h
  have HS := Lib.hid hS; clear hS
  have H0 := Lib.hid h0; clear h0
  have HR := Lib.hid hr; clear hr
  have HP := Lib.hid hp; clear hp
  go_enter Try.func79, Try.ntmps79
  go_wp2_with (first
    | (((with_reducible refine gate_dst (N := 6) rfl ?_); refine box_event ?hg (N := 6) ?hd (cs := #[.int .i64 0, .string (⟨#[]⟩ : ByteArray), .string (⟨#[]⟩ : ByteArray), .int .i64 0, .int .i64 0, .int .i64 0, .int .i64 0, .string (⟨#[]⟩ : ByteArray), .slice none 0 0]) (t := 27) ?hr ?_; (case hd => rfl); (case hg => rfl); (case hr => first | (go_simp; done) | (go_simp; rfl)); intro gb6 hg_ w1 hb_ hl_; have BKgb6 := am_ hb_; have HLgb6 := am_ hl_; have HGgb6 := am_ (Nat.le_of_eq hg_.symm); obtain ⟨zgb6_0, zgb6_1, zgb6_2, zgb6_3, zgb6_4, zgb6_5, zgb6_6, zgb6_7, zgb6_8, ygb6_0, ygb6_1, ygb6_2, ygb6_3, ygb6_4, ygb6_5, ygb6_6, ygb6_7, ygb6_8⟩ := bw9_ hb_; clear hb_ hl_ hg_; simp only [Act.put, sa_, sz_, ss_]); have H1 := Lib.hid (H.out.below HLgb6.out); have HG := Lib.hid (Nat.lt_of_lt_of_le H.out.lt HGgb6.out); have HN := Lib.hid (ne_of_le H.out.lt HGgb6.out); clear zgb6_0 zgb6_1 zgb6_2 zgb6_3 zgb6_4 zgb6_5 zgb6_6 zgb6_7 zgb6_8 ygb6_0 ygb6_1 ygb6_2 ygb6_3 ygb6_4 ygb6_5 ygb6_6 ygb6_7 ygb6_8)
    | ((with_reducible refine gate_dst (N := 12) rfl ?_); refine goesP_ p (some 12) rfl rfl (.pointer (some ⟨g, 0, none⟩)) rfl rfl ?_; refine (HP.out k (Nat.le_refl k) _ _ _ _ _ _ _ _ _ H1.out H0.out).mono ?_; rintro r' w2 ⟨vA, vc, rfl, h2, c2, t2⟩; refine ⟨_, rfl, ?_⟩; simp only [Act.put, sa_, sz_, ss_, exV]; have H2 := Lib.hid h2; have C2 := Lib.hid c2; have T2 := Lib.hid t2; clear h2 c2 t2)
    | (((with_reducible refine gate_dst (N := 7) rfl ?_); refine box_event ?hg (N := 7) ?hd (cs := #[.int .i64 0, .string (⟨#[]⟩ : ByteArray), .string (⟨#[]⟩ : ByteArray), .int .i64 0, .int .i64 0, .int .i64 0, .int .i64 0, .string (⟨#[]⟩ : ByteArray), .slice none 0 0]) (t := 27) ?hr ?_; (case hd => rfl); (case hg => rfl); (case hr => first | (go_simp; done) | (go_simp; rfl)); intro gb7 hg_ w3 hb_ hl_; have BKgb7 := am_ hb_; have HLgb7 := am_ hl_; have HGgb7 := am_ (Nat.le_of_eq hg_.symm); obtain ⟨zgb7_0, zgb7_1, zgb7_2, zgb7_3, zgb7_4, zgb7_5, zgb7_6, zgb7_7, zgb7_8, ygb7_0, ygb7_1, ygb7_2, ygb7_3, ygb7_4, ygb7_5, ygb7_6, ygb7_7, ygb7_8⟩ := bw9_ hb_; clear hb_ hl_ hg_; simp only [Act.put, sa_, sz_, ss_])))
  have HN7 : Hid (g < gb7) := Lib.hid (Nat.lt_of_lt_of_le H2.out.lt HGgb7.out)
  have B6 := Lib.hid (blk_below (C2.out.box BKgb6.out HN.out) HLgb7.out)
  have h67 : gb6 < gb7 := Nat.lt_of_lt_of_le (blk_lt (C2.out.box BKgb6.out HN.out)) HGgb7.out
  have H67 := Lib.hid h67; clear h67
  clear zgb7_0 zgb7_1 zgb7_2 zgb7_3 zgb7_4 zgb7_5 zgb7_6 zgb7_7 zgb7_8 ygb7_0 ygb7_1 ygb7_2 ygb7_3 ygb7_4 ygb7_5 ygb7_6 ygb7_7 ygb7_8
  go_loopg [] k (fun kq w' => ∃ (i d e : Int) (x : S27) (vA : Option Addr) (vc : Nat), Aside0 (pr l kq (.ch p ss x) i d e = some r) ∧ Aside0 (kq ≤ k) ∧ Aside0 (CS w g gb6 gb7 A c l S ss w' i d e x vA vc))
  case atStart =>
    refine ⟨r0.i, r0.d, r0.e, r0.x, vA, vc, ⟨HR.out⟩, ⟨Nat.le_refl _⟩, ⟨?_⟩⟩
    have hl1 := blk_lt BKgb6.out; have hg7 := HGgb7.out; have hl0 := below_size HLgb6.out; have hl2 := C2.out.size
    have T3 := (T2.out.mono fun q hl hq => (⟨by omega, by omega, by omega⟩ : w.heap.size ≤ q ∧ q ≠ gb6 ∧ q ≠ gb7)).below HLgb7.out
    have Ch : Chg g w w3 := ((Chg.below H.out.lt HLgb6.out).trans C2.out).trans (Chg.below H2.out.lt HLgb7.out)
    have h67 := H67.out
    exact ⟨(H2.out.below HLgb7.out).box chg9_ HN7.out, Ch.own chg9_ (by omega) (Nat.le_of_lt HN7.out), chg9_.box B6.out (by omega), put9_ BKgb7.out, T3.chg chg9_ (by omega), (HS.out.chg Ch).box chg9_ (by omega), H.out.lt, HGgb6.out, h67⟩
  case round =>
    clear BKgb6 BKgb7 B6 HLgb6 HLgb7 HGgb6 HGgb7 H1 H2 C2 T2 HR H0
    obtain ⟨i, d, e, x, vA, vc, HA, HK, HC⟩ := hrel
    cases gk with
    | zero => exact absurd HA.out (by simp [pr])
    | succ k1 =>
      have HH := HA.out; clear HA
      simp only [pr] at HH
      by_cases he : e = 0
      · subst he
        rw [if_pos rfl] at HH
        obtain ⟨p0, p1, p2, p3, p4, p5, p6, p7, p8, q0, q1, q2, q3, q4, q5, q6, q7, q8⟩ := bw9_ HC.out.b6
        obtain ⟨s0, s1, s2, s3, s4, s5, s6, s7, s8, t0, t1, t2, t3, t4, t5, t6, t7, t8⟩ := bw9_ HC.out.b7
        cases hf : ss.find? (fun s => isP l i 0 s) with
        | none =>
          rw [hf] at HH
          obtain rfl := Option.some.inj HH
          clear HH
          have HF := Lib.hid hf; clear hf
          go_wp2_with (first
            | ((with_reducible refine gate_callee (f := 43) rfl ?_); refine goesL_ (some 14) rfl rfl Try.func43 (by kernel_rfl) rfl #[.pointer (some ⟨g, 0, none⟩)] rfl (by (try simp only [List.map_toArray, List.map_cons, List.map_nil]); first | done | rfl) ?_; refine (ok_yes HC.out.st.ps).mono ?_; rintro r' w4 ⟨rfl, rfl⟩; refine ⟨_, rfl, ?_⟩; simp only [Act.put, sa_, sz_, ss_]))
          clear p0 p1 p2 p3 p4 p5 p6 p7 p8 q0 q1 q2 q3 q4 q5 q6 q7 q8 s0 s1 s2 s3 s4 s5 s6 s7 s8 t0 t1 t2 t3 t4 t5 t6 t7 t8
          go_loopg [8, 17] ss.length (fun kq v8 v17 w' => ∃ (j : Int), v8 = .string ⟨#[]⟩ ∧ v17 = .int .i64 j ∧ Aside0 (0 ≤ j ∧ j ≤ ss.length ∧ kq = ss.length - j.toNat) ∧ Aside0 (CS w g gb6 gb7 A c l S ss w' i d 0 x vA vc))
          case atStart => exact ⟨0, rfl, rfl, ⟨⟨Int.le_refl 0, Int.natCast_nonneg _, by simp⟩⟩, ⟨HC.out⟩⟩
          case round =>
            clear HC
            obtain ⟨j, rfl, rfl, HJ, HC⟩ := hrel
            by_cases c1 : j < (ss.length : Int)
            · obtain ⟨ad, rfl, hc⟩ := HC.out.sg.cell j HJ.out.1 c1
              have hj := eq_true HJ.out.1
              have c1b : decide (j < (ss.length : Int)) = true := decide_eq_true c1
              have c1c := eq_true c1
              have hm : isP l i 0 (rdOf ByteArray.empty ss j) = false := by
                have := List.find?_eq_none.1 HF.out (rdOf ByteArray.empty ss j) (rdOf_mem ss j HJ.out.1 c1)
                simpa using this
              have HM := Lib.hid hm; clear hm
              go_wp2_with (first
                | ((with_reducible refine gate_callee (f := 121) rfl ?_); refine goesL_ (some 23) rfl rfl Try.func121 (by kernel_rfl) rfl #[.pointer (some ⟨g, 0, none⟩), .string (rdOf ByteArray.empty ss j)] rfl (by (try simp only [List.map_toArray, List.map_cons, List.map_nil]); first | done | rfl) ?_; refine (take_no_st HC.out.st _ HM.out).mono ?_; rintro r' w5 ⟨rfl, h5, c5⟩; refine ⟨_, rfl, ?_⟩; simp only [Act.put, sa_, sz_, ss_]; have H5 := Lib.hid (HC.out.chg c5 h5); clear h5 c5))
              have ⟨hj0, hj1, hj2⟩ := HJ.out
              clear HJ hc
              go_roundg (ss.length - (j + 1).toNat)
              case measure => omega
              case rel => exact ⟨j + 1, rfl, by rw [show wrap64 (j + 1) = j + 1 from w64 _ (by omega)], ⟨⟨by omega, by omega, rfl⟩⟩, ⟨H5.out⟩⟩
            · have c1b : decide (j < (ss.length : Int)) = false := decide_eq_false c1
              clear HJ c1
              obtain ⟨p0, p1, p2, p3, p4, p5, p6, p7, p8, q0, q1, q2, q3, q4, q5, q6, q7, q8⟩ := bw9_ HC.out.b6
              obtain ⟨s0, s1, s2, s3, s4, s5, s6, s7, s8, t0, t1, t2, t3, t4, t5, t6, t7, t8⟩ := bw9_ HC.out.b7
              go_wp2
              exact bodyPost_ret (results_cell_row rfl _ _ gb6 27 #[.int .i64 x.f0, .string x.f1, .string x.f2, .int .i64 x.f3, .int .i64 x.f4, .int .i64 x.f5.f0, .int .i64 x.f5.f1, .string x.f5.f2, .slice vA x.f6.length vc] (0, 0) _ rfl (put9_ HC.out.b6) Try.underlying27 rfl (by kernel_rfl)) rfl HC.out.done
        | some s =>
          rw [hf] at HH
          obtain ⟨hs, m, hm, rfl, hb⟩ := find_at hf
          clear hf
          have HH' := Lib.hid HH; clear HH
          have HF := Lib.hid hb; clear hb
          have HM := Lib.hid hm; clear hm
          have HS1 := Lib.hid hs; clear hs
          go_wp2_with (first
            | ((with_reducible refine gate_callee (f := 43) rfl ?_); refine goesL_ (some 14) rfl rfl Try.func43 (by kernel_rfl) rfl #[.pointer (some ⟨g, 0, none⟩)] rfl (by (try simp only [List.map_toArray, List.map_cons, List.map_nil]); first | done | rfl) ?_; refine (ok_yes HC.out.st.ps).mono ?_; rintro r' w4 ⟨rfl, rfl⟩; refine ⟨_, rfl, ?_⟩; simp only [Act.put, sa_, sz_, ss_]))
          clear p0 p1 p2 p3 p4 p5 p6 p7 p8 q0 q1 q2 q3 q4 q5 q6 q7 q8 s0 s1 s2 s3 s4 s5 s6 s7 s8 t0 t1 t2 t3 t4 t5 t6 t7 t8
          go_loopg [8, 17] ss.length (fun kq v8 v17 w' => ∃ (j : Int), v8 = .string ⟨#[]⟩ ∧ v17 = .int .i64 j ∧ Aside0 (0 ≤ j ∧ j ≤ m ∧ kq = ss.length - j.toNat) ∧ Aside0 (CS w g gb6 gb7 A c l S ss w' i d 0 x vA vc))
          case atStart => exact ⟨0, rfl, rfl, ⟨⟨Int.le_refl 0, Int.natCast_nonneg _, by simp⟩⟩, ⟨HC.out⟩⟩
          case round =>
            clear HC
            obtain ⟨j, rfl, rfl, HJ, HC⟩ := hrel
            have c1 : j < (ss.length : Int) := by have := HJ.out.2.1; have := HM.out; omega
            obtain ⟨ad, rfl, hc⟩ := HC.out.sg.cell j HJ.out.1 c1
            have hj := eq_true HJ.out.1
            have c1b : decide (j < (ss.length : Int)) = true := decide_eq_true c1
            have c1c := eq_true c1
            by_cases c2 : j < m
            · have hm := HF.out j HJ.out.1 c2
              have HM1 := Lib.hid hm; clear hm
              have C2 := Lib.hid c2; clear c2
              go_wp2_with (first
                | ((with_reducible refine gate_callee (f := 121) rfl ?_); refine goesL_ (some 23) rfl rfl Try.func121 (by kernel_rfl) rfl #[.pointer (some ⟨g, 0, none⟩), .string (rdOf ByteArray.empty ss j)] rfl (by (try simp only [List.map_toArray, List.map_cons, List.map_nil]); first | done | rfl) ?_; refine (take_no_st HC.out.st _ HM1.out).mono ?_; rintro r' w5 ⟨rfl, h5, c5⟩; refine ⟨_, rfl, ?_⟩; simp only [Act.put, sa_, sz_, ss_]; have H5 := Lib.hid (HC.out.chg c5 h5); clear h5 c5))
              have ⟨hj0, hj1, hj2⟩ := HJ.out; have hc2 := C2.out; have hm1 := HM.out
              clear HJ hc
              go_roundg (ss.length - (j + 1).toNat)
              case measure => omega
              case rel => exact ⟨j + 1, rfl, by rw [show wrap64 (j + 1) = j + 1 from w64 _ (by omega)], ⟨⟨by omega, by omega, rfl⟩⟩, ⟨H5.out⟩⟩
            · have ej : (m : Int) = j := by have := HJ.out.2.1; omega
              have hS1 := HS1.out; have hH := HH'.out
              rw [ej] at hS1 hH
              have hE : ((rdOf ByteArray.empty ss j).toList == ([] : List UInt8)) = false := txt_ne (NE.out _ (rdOf_mem ss j HJ.out.1 c1))
              clear c2 HJ HS1 HH' HF HM ej
              have HS1 := Lib.hid hS1; have HH := Lib.hid hH; clear hS1 hH
              go_wp2_with (first
                | ((with_reducible refine gate_callee (f := 121) rfl ?_); refine goesL_ (some 23) rfl rfl Try.func121 (by kernel_rfl) rfl #[.pointer (some ⟨g, 0, none⟩), .string (rdOf ByteArray.empty ss j)] rfl (by (try simp only [List.map_toArray, List.map_cons, List.map_nil]); first | done | rfl) ?_; refine (take_yes_st HC.out.st _ HS1.out).mono ?_; rintro r' w5 ⟨rfl, h5, c5⟩; refine ⟨_, rfl, ?_⟩; simp only [Act.put, sa_, sz_, ss_]; have H5 := Lib.hid (HC.out.chg c5 h5); clear h5 c5 HC))
              obtain ⟨r1, hq1, hq2⟩ := Option.bind_eq_some_iff.1 HH.out
              have Q1 := Lib.hid hq1; have Q2 := Lib.hid hq2; clear hq1 hq2 HH hE hc
              have H6 := Lib.hid (H5.out.below (Below.drew (Below.refl _ _)))
              clear H5
              refine start_ (n := 8) (S := fun w' => w'.heap[gb7]? = some (.cells #[.int .i64 x.f0, .string x.f1, .string x.f2, .int .i64 x.f3, .int .i64 x.f4, .int .i64 x.f5.f0, .int .i64 x.f5.f1, .string x.f5.f2, .slice vA x.f6.length vc] 27 (0, 0))) (ds := [7]) #[false, false, false, false, false, false, false, false] (by kernel_rfl) rfl rfl H6.out.b7 (fun hHeld => ?_)
              generalize w5.drew = w6 at H6 hHeld ⊢
              refine take_ (i := 0) (N := some 29) (v := ?_) (a' := ?_) #[true, false, false, false, false, false, false, false] rfl rfl (by kernel_rfl) (fun _ _ _ h => h) (Or.inl ⟨by rfl, ?_⟩) hHeld ?_ ?_; rotate_left
              · intro w' hS
                go_simp; (with_reducible rfl)
              rotate_left
              · simp only [Act.put, sa_, sz_, ss_, i64_w, i32_w]
                rfl
              refine take_ (i := 2) (N := some 31) (v := ?_) (a' := ?_) #[true, false, true, false, false, false, false, false] rfl rfl (by kernel_rfl) (fun _ _ _ h => h) (Or.inl ⟨by rfl, ?_⟩) hHeld ?_ ?_; rotate_left
              · intro w' hS; obtain ⟨s0, s1, s2, s3, s4, s5, s6, s7, s8, t0, t1, t2, t3, t4, t5, t6, t7, t8⟩ := bw9_ hS
                go_simp; (with_reducible rfl)
              rotate_left
              · simp only [Act.put, sa_, sz_, ss_, i64_w, i32_w]
                rfl
              refine take_ (i := 3) (N := some 32) (v := ?_) (a' := ?_) #[true, false, true, true, false, false, false, false] rfl rfl (by kernel_rfl) (fun _ _ _ h => h) (Or.inl ⟨by rfl, ?_⟩) hHeld ?_ ?_; rotate_left
              · intro w' hS
                go_simp; (with_reducible rfl)
              rotate_left
              · simp only [Act.put, sa_, sz_, ss_, i64_w, i32_w]
                rfl
              refine one_ (i := 1) (N := some 30) #[true, true, true, true, false, false, false, false] rfl rfl (by kernel_rfl) (by decide) (fun K hK => ?_); refine goes_ Try.func123 (by kernel_rfl) rfl #[.string (rdOf ByteArray.empty ss j)] (by rfl) rfl rfl (by (try simp only [List.map_toArray, List.map_cons, List.map_nil]); first | done | rfl) ?_; (with_reducible refine (parse_opOf.calls (rdOf ByteArray.empty ss j) _ _ (opP_f _)).mono ?_); rintro e' w7 ⟨rfl, nd, rfl⟩; refine ⟨_, rfl, ?_⟩; have H7 := Lib.hid (H6.out.below (pw_below_drewN (Below.refl _ _) nd)); generalize w6.drewN nd = w7 at H7 hK ⊢; clear H6 hHeld; refine hK.out _ _ H7.out.b7 (fun hHeld => ?_); clear hK K; refine norm_ (a' := ?_) ?_ ?_; rotate_left
              · show Act.put _ (some 30) _ = _
                simp only [Act.put, sa_, sz_, ss_, i64_w, i32_w]; rfl
              refine one_ (i := 4) (N := some 33) #[true, true, true, true, true, false, false, false] rfl rfl (by kernel_rfl) (by decide) (fun K hK => ?_); refine goesR_ p (some 33) (.pointer (some ⟨g, 0, none⟩)) (by rfl) rfl rfl rfl ?_; refine (HP.out k1 (by have := HK.out; omega) _ _ _ _ _ _ _ _ _ H7.out.st Q1.out).mono ?_; rintro e' w8 ⟨yA, yc, rfl, h8, c8, t8⟩; refine ⟨_, rfl, ?_⟩; have H8 := Lib.hid (H7.out.chg c8 h8); have T8 := Lib.hid (Tr.aft H7.out t8); clear c8 h8 t8 H7 hHeld; refine hK.out _ _ H8.out.b7 (fun hHeld => ?_); clear hK K; refine norm_ (a' := ?_) ?_ ?_; rotate_left
              · show Act.put _ (some 33) _ = _
                simp only [Act.put, sa_, sz_, ss_, i64_w, i32_w, exV]; rfl
              refine one_ (i := 5) (N := some 34) #[true, true, true, true, true, true, false, false] rfl rfl (by kernel_rfl) (by decide) (fun K hK => ?_); refine lit2s (by rfl) rfl H8.out.tr T8.out ?hf ?hr ?_; (case hf => exact H8.out.fresh); (case hr => first | (go_simp; done) | (go_simp; rfl)); intro A9 c9 w9 v9 b9; have V9 := Lib.hid v9; have H9 := Lib.hid (H8.out.below b9); clear v9 b9 T8 H8 hHeld; refine hK.out _ _ H9.out.b7 (fun hHeld => ?_); clear hK K; refine norm_ (a' := ?_) ?_ ?_; rotate_left
              · show Act.put _ (some 34) _ = _
                simp only [Act.put, sa_, sz_, ss_, i64_w, i32_w]; rfl
              refine one_ (i := 6) (N := some 35) #[true, true, true, true, true, true, true, false] rfl rfl (by kernel_rfl) (by decide) (fun K hK => ?_); refine goes_ Try.func122 (by kernel_rfl) rfl #[.int .i64 (opP (rdOf ByteArray.empty ss j)), .slice A9 2 c9] (by rfl) rfl rfl (by (try simp only [List.map_toArray, List.map_cons, List.map_nil]); first | done | rfl) ?_; refine (of_any (opP (rdOf ByteArray.empty ss j)) [x, r1.x] (by simp) V9.out).mono ?_; rintro e' w10 ⟨zA, zc, rfl, t10, b10⟩; refine ⟨_, rfl, ?_⟩; have H10 := Lib.hid (H9.out.below b10); have T10 := Lib.hid (Tr.new H9.out t10); clear t10 b10 V9 H9 hHeld; refine hK.out _ _ H10.out.b7 (fun hHeld => ?_); clear hK K; refine norm_ (a' := ?_) ?_ ?_; rotate_left
              · show Act.put _ (some 35) _ = _
                simp only [Act.put, sa_, sz_, ss_, i64_w, i32_w, exV, ofP]; rfl
              obtain ⟨s0, s1, s2, s3, s4, s5, s6, s7, s8, t0, t1, t2, t3, t4, t5, t6, t7, t8⟩ := bw9_ H10.out.b7
              refine last_ (i := 7) (N := none) #[true, true, true, true, true, true, true, true] rfl rfl (by kernel_rfl) (by decide) (fun K hK => ?_); refine skip_ (w1 := ?_) (by rfl) rfl ?_ ?_; rotate_left
              · go_simp
                rfl
              refine hK.out _ _ ?_; clear hK K; refine done_ (by kernel_rfl) ?_
              clear s0 s1 s2 s3 s4 s5 s6 s7 s8 t0 t1 t2 t3 t4 t5 t6 t7 t8
              try go_wp2
              go_roundg k1
              case measure => omega
              case rel => exact ⟨r1.i, r1.d, r1.e, ofP (opP (rdOf ByteArray.empty ss j)) [x, r1.x], zA, zc, ⟨Q2.out⟩, ⟨by have := HK.out; omega⟩, ⟨H10.out.put chg9_ (put9_ H10.out.b7) T10.out⟩⟩
      · rw [if_neg he] at HH
        obtain rfl := Option.some.inj HH
        have HE := Lib.hid he; clear he HH
        obtain ⟨p0, p1, p2, p3, p4, p5, p6, p7, p8, q0, q1, q2, q3, q4, q5, q6, q7, q8⟩ := bw9_ HC.out.b6
        obtain ⟨s0, s1, s2, s3, s4, s5, s6, s7, s8, t0, t1, t2, t3, t4, t5, t6, t7, t8⟩ := bw9_ HC.out.b7
        go_wp2_with (first
          | ((with_reducible refine gate_callee (f := 43) rfl ?_); refine goesL_ (some 14) rfl rfl Try.func43 (by kernel_rfl) rfl #[.pointer (some ⟨g, 0, none⟩)] rfl (by (try simp only [List.map_toArray, List.map_cons, List.map_nil]); first | done | rfl) ?_; refine (ok_no HC.out.st.ps HE.out).mono ?_; rintro r' w4 ⟨rfl, rfl⟩; refine ⟨_, rfl, ?_⟩; simp only [Act.put, sa_, sz_, ss_]))
        exact bodyPost_ret (results_cell_row rfl _ _ gb6 27 #[.int .i64 x.f0, .string x.f1, .string x.f2, .int .i64 x.f3, .int .i64 x.f4, .int .i64 x.f5.f0, .int .i64 x.f5.f1, .string x.f5.f2, .slice vA x.f6.length vc] (0, 0) _ rfl (put9_ HC.out.b6) Try.underlying27 rfl (by kernel_rfl)) rfl HC.out.done
end Go.Proofs.Ytcfgjaggccnoaaa.PParseSmall
namespace Go.Proofs.Ytcfgjaggccnoaaa.PParseSmall
open Go.RowKit Go.Proofs.YtcfgjaggccnoaaaW.PrintWords Go.Proofs.YtcfgjaggccnoaaaW.PrintLast Go.Proofs.YtcfgjaggccnoaaaW.PrintMore
attribute [local go_sem] max2_int min2_int max_two min_two max_three min_three max_four min_four
set_option linter.unusedVariables false
set_option linter.unusedSimpArgs false
set_option maxRecDepth 100000
set_option maxHeartbeats 4000000
theorem Sg.of_R {w : World} {g base : Nat} {v : Value} {ss : List ByteArray} (h : Kd.R Kd.string 9 w base (fun k => k ≠ g) v ss) : ∃ A c, v = .slice A ss.length c ∧ Sg w g w.heap.size A ss := by
  obtain ⟨A, c, rfl, hl, hF⟩ := Kd.R_V (base' := 0) h
  exact ⟨A, c, rfl, Kd.F_bound hF⟩
section
variable {P : Program} {ops : Array Oper} {Q : Exit → Act → World → Prop} {o : Oper} {rest : List Oper} {a : Act} {W : World} {N' : Tmp} {g : Nat}
theorem litS1 {s : ByteArray} (hgd : o.guard = none) (hd : o.dst = some N') (hg : g < W.heap.size)
    (hrun : (execOp a.eval o).run P W = .ok (.value (.slice (some ⟨W.heap.size, 0, none⟩) 1 1)) (W.alloc (.cells #[.string s] 9)))
    (h : ∀ A1 c1 w1, Sg w1 g w1.heap.size A1 [s] → Below W.heap.size W w1 → wpList P ops Q rest (a.put o.dst (.slice A1 1 c1)) w1) : wpList P ops Q (o :: rest) a W := by
  refine Kd.R_lit Kd.string W.heap.size 9 hgd hd (xs := [s]) (inner := [.string s]) (ok := fun k => k ≠ g) (okp := fun _ => False) hrun ?_ (fun _ q => q.elim) (by omega) (Below.refl _ _) (Nat.le_refl _) (by simp) ?_
  · exact Reps.one (show Kd.M Kd.string _ _ _ s [.string s] from rfl) (Reps.none _ _)
  · intro v1 w1 hr hb _ _
    obtain ⟨A, c, rfl, hs⟩ := Sg.of_R hr
    exact h A c w1 hs hb
theorem litS2 {s t : ByteArray} (hgd : o.guard = none) (hd : o.dst = some N') (hg : g < W.heap.size)
    (hrun : (execOp a.eval o).run P W = .ok (.value (.slice (some ⟨W.heap.size, 0, none⟩) 2 2)) (W.alloc (.cells #[.string s, .string t] 9)))
    (h : ∀ A1 c1 w1, Sg w1 g w1.heap.size A1 [s, t] → Below W.heap.size W w1 → wpList P ops Q rest (a.put o.dst (.slice A1 2 c1)) w1) : wpList P ops Q (o :: rest) a W := by
  refine Kd.R_lit Kd.string W.heap.size 9 hgd hd (xs := [s, t]) (inner := [.string s, .string t]) (ok := fun k => k ≠ g) (okp := fun _ => False) hrun ?_ (fun _ q => q.elim) (by omega) (Below.refl _ _) (Nat.le_refl _) (by simp) ?_
  · exact Reps.one (show Kd.M Kd.string _ _ _ s [.string s] from rfl) (Reps.one (show Kd.M Kd.string _ _ _ t [.string t] from rfl) (Reps.none _ _))
  · intro v1 w1 hr hb _ _
    obtain ⟨A, c, rfl, hs⟩ := Sg.of_R hr
    exact h A c w1 hs hb
end
theorem or_ok (k : Nat) (hp : ∀ j, j ≤ k → GOK j .and) : GOK (k + 1) .or := by
  intro w g A c l i d e r h hr
  simp only [pr] at hr
  obtain ⟨r0, h0, hr⟩ := Option.bind_eq_some_iff.1 hr
  have H := Lib.hid h; have H0 := Lib.hid h0; have HR := Lib.hid hr; have HP := Lib.hid hp; clear h h0 hr hp
  change Calls Try.prog 41 _ _ _
  go_enter Try.func41, Try.ntmps41
  go_wp2_with (first
    | (((with_reducible refine gate_dst (N := 2) rfl ?_); refine box_event ?hg (N := 2) ?hd (cs := #[.int .i64 0, .string (⟨#[]⟩ : ByteArray), .string (⟨#[]⟩ : ByteArray), .int .i64 0, .int .i64 0, .int .i64 0, .int .i64 0, .string (⟨#[]⟩ : ByteArray), .slice none 0 0]) (t := 27) ?hr ?_; (case hd => rfl); (case hg => rfl); (case hr => first | (go_simp; done) | (go_simp; rfl)); intro gb hg_ w1 hb_ hl_; have BKgb := am_ hb_; have HLgb := am_ hl_; have HGgb := am_ (Nat.le_of_eq hg_.symm); obtain ⟨zgb_0, zgb_1, zgb_2, zgb_3, zgb_4, zgb_5, zgb_6, zgb_7, zgb_8, ygb_0, ygb_1, ygb_2, ygb_3, ygb_4, ygb_5, ygb_6, ygb_7, ygb_8⟩ := bw9_ hb_; clear hb_ hl_ hg_; simp only [Act.put, sa_, sz_, ss_]); have H1 := Lib.hid (H.out.below HLgb.out); have HG := Lib.hid (Nat.lt_of_lt_of_le H.out.lt HGgb.out); have HN := Lib.hid (ne_of_le H.out.lt HGgb.out); clear zgb_0 zgb_1 zgb_2 zgb_3 zgb_4 zgb_5 zgb_6 zgb_7 zgb_8 ygb_0 ygb_1 ygb_2 ygb_3 ygb_4 ygb_5 ygb_6 ygb_7 ygb_8)
    | ((with_reducible refine gate_dst (N := 6) rfl ?_); refine litS1 (N' := 6) (g := g) (s := wOr) ?hg ?hd H1.out.lt ?hr ?_; (case hd => rfl); (case hg => rfl); (case hr => first | (go_simp; done) | (go_simp; rfl)); intro A2 cc2 w2 s2 b2; have S2 := Lib.hid s2; have B2 := Lib.hid b2; have H2 := Lib.hid (H1.out.below b2); clear s2 b2; simp only [Act.put, sa_, sz_, ss_])
    | ((with_reducible refine gate_callee (f := 79) rfl ?_); refine goesL_ (some 7) rfl rfl Try.func79 (by kernel_rfl) rfl #[.pointer (some ⟨g, 0, none⟩), .func (.func 80) #[.pointer (some ⟨g, 0, none⟩)] #[], .slice A2 1 cc2] rfl (by (try simp only [List.map_toArray, List.map_cons, List.map_nil]); first | done | rfl) ?_; refine (chain_any .and [wOr] (by decide) (by decide) _ HP.out H2.out S2.out H0.out HR.out).mono ?_; rintro r' w3 ⟨vA, vc, rfl, h3, c3, t3⟩; refine ⟨_, rfl, ?_⟩; simp only [Act.put, sa_, sz_, ss_]; simp only [exV]; have H3 := Lib.hid h3; have C3 := Lib.hid c3; have T3 := Lib.hid t3; clear h3 c3 t3; have BK3 := Lib.hid (C3.out.box (blk_below BKgb.out B2.out) HN.out); obtain ⟨s0, s1, s2, s3, s4, s5, s6, s7, s8, q0, q1, q2, q3, q4, q5, q6, q7, q8⟩ := bw9_ BK3.out))
  refine bodyPost_ret (results_cell_row rfl _ _ gb 27 #[.int .i64 r.x.f0, .string r.x.f1, .string r.x.f2, .int .i64 r.x.f3, .int .i64 r.x.f4, .int .i64 r.x.f5.f0, .int .i64 r.x.f5.f1, .string r.x.f5.f2, .slice vA r.x.f6.length vc] (0, 0) _ rfl (put9_ BK3.out) Try.underlying27 rfl (by kernel_rfl)) rfl ⟨vA, vc, rfl, H3.out.box chg9_ HG.out, (((Chg.below H.out.lt HLgb.out).trans (Chg.below H1.out.lt B2.out)).trans C3.out).own chg9_ HGgb.out (Nat.le_of_lt HG.out), ?_⟩
  have hw1 := below_size HLgb.out; have hw2 := below_size B2.out; have hb := blk_lt BKgb.out
  exact ((T3.out.mono fun q hl hq => (⟨by omega, by omega⟩ : w.heap.size ≤ q ∧ q ≠ gb)).chg chg9_ (fun h => h.2 rfl)).mono fun q _ hq => hq.1
theorem and_ok (k : Nat) (hp : ∀ j, j ≤ k → GOK j .not) : GOK (k + 1) .and := by
  intro w g A c l i d e r h hr
  simp only [pr] at hr
  obtain ⟨r0, h0, hr⟩ := Option.bind_eq_some_iff.1 hr
  have H := Lib.hid h; have H0 := Lib.hid h0; have HR := Lib.hid hr; have HP := Lib.hid hp; clear h h0 hr hp
  change Calls Try.prog 80 _ _ _
  go_enter Try.func80, Try.ntmps80
  go_wp2_with (first
    | (((with_reducible refine gate_dst (N := 2) rfl ?_); refine box_event ?hg (N := 2) ?hd (cs := #[.int .i64 0, .string (⟨#[]⟩ : ByteArray), .string (⟨#[]⟩ : ByteArray), .int .i64 0, .int .i64 0, .int .i64 0, .int .i64 0, .string (⟨#[]⟩ : ByteArray), .slice none 0 0]) (t := 27) ?hr ?_; (case hd => rfl); (case hg => rfl); (case hr => first | (go_simp; done) | (go_simp; rfl)); intro gb hg_ w1 hb_ hl_; have BKgb := am_ hb_; have HLgb := am_ hl_; have HGgb := am_ (Nat.le_of_eq hg_.symm); obtain ⟨zgb_0, zgb_1, zgb_2, zgb_3, zgb_4, zgb_5, zgb_6, zgb_7, zgb_8, ygb_0, ygb_1, ygb_2, ygb_3, ygb_4, ygb_5, ygb_6, ygb_7, ygb_8⟩ := bw9_ hb_; clear hb_ hl_ hg_; simp only [Act.put, sa_, sz_, ss_]); have H1 := Lib.hid (H.out.below HLgb.out); have HG := Lib.hid (Nat.lt_of_lt_of_le H.out.lt HGgb.out); have HN := Lib.hid (ne_of_le H.out.lt HGgb.out); clear zgb_0 zgb_1 zgb_2 zgb_3 zgb_4 zgb_5 zgb_6 zgb_7 zgb_8 ygb_0 ygb_1 ygb_2 ygb_3 ygb_4 ygb_5 ygb_6 ygb_7 ygb_8)
    | ((with_reducible refine gate_dst (N := 6) rfl ?_); refine litS1 (N' := 6) (g := g) (s := wAnd) ?hg ?hd H1.out.lt ?hr ?_; (case hd => rfl); (case hg => rfl); (case hr => first | (go_simp; done) | (go_simp; rfl)); intro A2 cc2 w2 s2 b2; have S2 := Lib.hid s2; have B2 := Lib.hid b2; have H2 := Lib.hid (H1.out.below b2); clear s2 b2; simp only [Act.put, sa_, sz_, ss_])
    | ((with_reducible refine gate_callee (f := 79) rfl ?_); refine goesL_ (some 7) rfl rfl Try.func79 (by kernel_rfl) rfl #[.pointer (some ⟨g, 0, none⟩), .func (.func 124) #[.pointer (some ⟨g, 0, none⟩)] #[], .slice A2 1 cc2] rfl (by (try simp only [List.map_toArray, List.map_cons, List.map_nil]); first | done | rfl) ?_; refine (chain_any .not [wAnd] (by decide) (by decide) _ HP.out H2.out S2.out H0.out HR.out).mono ?_; rintro r' w3 ⟨vA, vc, rfl, h3, c3, t3⟩; refine ⟨_, rfl, ?_⟩; simp only [Act.put, sa_, sz_, ss_]; simp only [exV]; have H3 := Lib.hid h3; have C3 := Lib.hid c3; have T3 := Lib.hid t3; clear h3 c3 t3; have BK3 := Lib.hid (C3.out.box (blk_below BKgb.out B2.out) HN.out); obtain ⟨s0, s1, s2, s3, s4, s5, s6, s7, s8, q0, q1, q2, q3, q4, q5, q6, q7, q8⟩ := bw9_ BK3.out))
  refine bodyPost_ret (results_cell_row rfl _ _ gb 27 #[.int .i64 r.x.f0, .string r.x.f1, .string r.x.f2, .int .i64 r.x.f3, .int .i64 r.x.f4, .int .i64 r.x.f5.f0, .int .i64 r.x.f5.f1, .string r.x.f5.f2, .slice vA r.x.f6.length vc] (0, 0) _ rfl (put9_ BK3.out) Try.underlying27 rfl (by kernel_rfl)) rfl ⟨vA, vc, rfl, H3.out.box chg9_ HG.out, (((Chg.below H.out.lt HLgb.out).trans (Chg.below H1.out.lt B2.out)).trans C3.out).own chg9_ HGgb.out (Nat.le_of_lt HG.out), ?_⟩
  have hw1 := below_size HLgb.out; have hw2 := below_size B2.out; have hb := blk_lt BKgb.out
  exact ((T3.out.mono fun q hl hq => (⟨by omega, by omega⟩ : w.heap.size ≤ q ∧ q ≠ gb)).chg chg9_ (fun h => h.2 rfl)).mono fun q _ hq => hq.1
theorem sum_ok (k : Nat) (hp : ∀ j, j ≤ k → GOK j .prod) : GOK (k + 1) .sum := by
  intro w g A c l i d e r h hr
  simp only [pr] at hr
  obtain ⟨r0, h0, hr⟩ := Option.bind_eq_some_iff.1 hr
  have H := Lib.hid h; have H0 := Lib.hid h0; have HR := Lib.hid hr; have HP := Lib.hid hp; clear h h0 hr hp
  change Calls Try.prog 159 _ _ _
  go_enter Try.func159, Try.ntmps159
  go_wp2_with (first
    | (((with_reducible refine gate_dst (N := 2) rfl ?_); refine box_event ?hg (N := 2) ?hd (cs := #[.int .i64 0, .string (⟨#[]⟩ : ByteArray), .string (⟨#[]⟩ : ByteArray), .int .i64 0, .int .i64 0, .int .i64 0, .int .i64 0, .string (⟨#[]⟩ : ByteArray), .slice none 0 0]) (t := 27) ?hr ?_; (case hd => rfl); (case hg => rfl); (case hr => first | (go_simp; done) | (go_simp; rfl)); intro gb hg_ w1 hb_ hl_; have BKgb := am_ hb_; have HLgb := am_ hl_; have HGgb := am_ (Nat.le_of_eq hg_.symm); obtain ⟨zgb_0, zgb_1, zgb_2, zgb_3, zgb_4, zgb_5, zgb_6, zgb_7, zgb_8, ygb_0, ygb_1, ygb_2, ygb_3, ygb_4, ygb_5, ygb_6, ygb_7, ygb_8⟩ := bw9_ hb_; clear hb_ hl_ hg_; simp only [Act.put, sa_, sz_, ss_]); have H1 := Lib.hid (H.out.below HLgb.out); have HG := Lib.hid (Nat.lt_of_lt_of_le H.out.lt HGgb.out); have HN := Lib.hid (ne_of_le H.out.lt HGgb.out); clear zgb_0 zgb_1 zgb_2 zgb_3 zgb_4 zgb_5 zgb_6 zgb_7 zgb_8 ygb_0 ygb_1 ygb_2 ygb_3 ygb_4 ygb_5 ygb_6 ygb_7 ygb_8)
    | ((with_reducible refine gate_dst (N := 6) rfl ?_); refine litS2 (N' := 6) (g := g) (s := wPlus) (t := wMinus) ?hg ?hd H1.out.lt ?hr ?_; (case hd => rfl); (case hg => rfl); (case hr => first | (go_simp; done) | (go_simp; rfl)); intro A2 cc2 w2 s2 b2; have S2 := Lib.hid s2; have B2 := Lib.hid b2; have H2 := Lib.hid (H1.out.below b2); clear s2 b2; simp only [Act.put, sa_, sz_, ss_])
    | ((with_reducible refine gate_callee (f := 79) rfl ?_); refine goesL_ (some 7) rfl rfl Try.func79 (by kernel_rfl) rfl #[.pointer (some ⟨g, 0, none⟩), .func (.func 167) #[.pointer (some ⟨g, 0, none⟩)] #[], .slice A2 2 cc2] rfl (by (try simp only [List.map_toArray, List.map_cons, List.map_nil]); first | done | rfl) ?_; refine (chain_any .prod [wPlus, wMinus] (by decide) (by decide) _ HP.out H2.out S2.out H0.out HR.out).mono ?_; rintro r' w3 ⟨vA, vc, rfl, h3, c3, t3⟩; refine ⟨_, rfl, ?_⟩; simp only [Act.put, sa_, sz_, ss_]; simp only [exV]; have H3 := Lib.hid h3; have C3 := Lib.hid c3; have T3 := Lib.hid t3; clear h3 c3 t3; have BK3 := Lib.hid (C3.out.box (blk_below BKgb.out B2.out) HN.out); obtain ⟨s0, s1, s2, s3, s4, s5, s6, s7, s8, q0, q1, q2, q3, q4, q5, q6, q7, q8⟩ := bw9_ BK3.out))
  refine bodyPost_ret (results_cell_row rfl _ _ gb 27 #[.int .i64 r.x.f0, .string r.x.f1, .string r.x.f2, .int .i64 r.x.f3, .int .i64 r.x.f4, .int .i64 r.x.f5.f0, .int .i64 r.x.f5.f1, .string r.x.f5.f2, .slice vA r.x.f6.length vc] (0, 0) _ rfl (put9_ BK3.out) Try.underlying27 rfl (by kernel_rfl)) rfl ⟨vA, vc, rfl, H3.out.box chg9_ HG.out, (((Chg.below H.out.lt HLgb.out).trans (Chg.below H1.out.lt B2.out)).trans C3.out).own chg9_ HGgb.out (Nat.le_of_lt HG.out), ?_⟩
  have hw1 := below_size HLgb.out; have hw2 := below_size B2.out; have hb := blk_lt BKgb.out
  exact ((T3.out.mono fun q hl hq => (⟨by omega, by omega⟩ : w.heap.size ≤ q ∧ q ≠ gb)).chg chg9_ (fun h => h.2 rfl)).mono fun q _ hq => hq.1
theorem prod_ok (k : Nat) (hp : ∀ j, j ≤ k → GOK j .atom) : GOK (k + 1) .prod := by
  intro w g A c l i d e r h hr
  simp only [pr] at hr
  obtain ⟨r0, h0, hr⟩ := Option.bind_eq_some_iff.1 hr
  have H := Lib.hid h; have H0 := Lib.hid h0; have HR := Lib.hid hr; have HP := Lib.hid hp; clear h h0 hr hp
  change Calls Try.prog 167 _ _ _
  go_enter Try.func167, Try.ntmps167
  go_wp2_with (first
    | (((with_reducible refine gate_dst (N := 2) rfl ?_); refine box_event ?hg (N := 2) ?hd (cs := #[.int .i64 0, .string (⟨#[]⟩ : ByteArray), .string (⟨#[]⟩ : ByteArray), .int .i64 0, .int .i64 0, .int .i64 0, .int .i64 0, .string (⟨#[]⟩ : ByteArray), .slice none 0 0]) (t := 27) ?hr ?_; (case hd => rfl); (case hg => rfl); (case hr => first | (go_simp; done) | (go_simp; rfl)); intro gb hg_ w1 hb_ hl_; have BKgb := am_ hb_; have HLgb := am_ hl_; have HGgb := am_ (Nat.le_of_eq hg_.symm); obtain ⟨zgb_0, zgb_1, zgb_2, zgb_3, zgb_4, zgb_5, zgb_6, zgb_7, zgb_8, ygb_0, ygb_1, ygb_2, ygb_3, ygb_4, ygb_5, ygb_6, ygb_7, ygb_8⟩ := bw9_ hb_; clear hb_ hl_ hg_; simp only [Act.put, sa_, sz_, ss_]); have H1 := Lib.hid (H.out.below HLgb.out); have HG := Lib.hid (Nat.lt_of_lt_of_le H.out.lt HGgb.out); have HN := Lib.hid (ne_of_le H.out.lt HGgb.out); clear zgb_0 zgb_1 zgb_2 zgb_3 zgb_4 zgb_5 zgb_6 zgb_7 zgb_8 ygb_0 ygb_1 ygb_2 ygb_3 ygb_4 ygb_5 ygb_6 ygb_7 ygb_8)
    | ((with_reducible refine gate_dst (N := 6) rfl ?_); refine litS1 (N' := 6) (g := g) (s := wStar) ?hg ?hd H1.out.lt ?hr ?_; (case hd => rfl); (case hg => rfl); (case hr => first | (go_simp; done) | (go_simp; rfl)); intro A2 cc2 w2 s2 b2; have S2 := Lib.hid s2; have B2 := Lib.hid b2; have H2 := Lib.hid (H1.out.below b2); clear s2 b2; simp only [Act.put, sa_, sz_, ss_])
    | ((with_reducible refine gate_callee (f := 79) rfl ?_); refine goesL_ (some 7) rfl rfl Try.func79 (by kernel_rfl) rfl #[.pointer (some ⟨g, 0, none⟩), .func (.func 179) #[.pointer (some ⟨g, 0, none⟩)] #[], .slice A2 1 cc2] rfl (by (try simp only [List.map_toArray, List.map_cons, List.map_nil]); first | done | rfl) ?_; refine (chain_any .atom [wStar] (by decide) (by decide) _ HP.out H2.out S2.out H0.out HR.out).mono ?_; rintro r' w3 ⟨vA, vc, rfl, h3, c3, t3⟩; refine ⟨_, rfl, ?_⟩; simp only [Act.put, sa_, sz_, ss_]; simp only [exV]; have H3 := Lib.hid h3; have C3 := Lib.hid c3; have T3 := Lib.hid t3; clear h3 c3 t3; have BK3 := Lib.hid (C3.out.box (blk_below BKgb.out B2.out) HN.out); obtain ⟨s0, s1, s2, s3, s4, s5, s6, s7, s8, q0, q1, q2, q3, q4, q5, q6, q7, q8⟩ := bw9_ BK3.out))
  refine bodyPost_ret (results_cell_row rfl _ _ gb 27 #[.int .i64 r.x.f0, .string r.x.f1, .string r.x.f2, .int .i64 r.x.f3, .int .i64 r.x.f4, .int .i64 r.x.f5.f0, .int .i64 r.x.f5.f1, .string r.x.f5.f2, .slice vA r.x.f6.length vc] (0, 0) _ rfl (put9_ BK3.out) Try.underlying27 rfl (by kernel_rfl)) rfl ⟨vA, vc, rfl, H3.out.box chg9_ HG.out, (((Chg.below H.out.lt HLgb.out).trans (Chg.below H1.out.lt B2.out)).trans C3.out).own chg9_ HGgb.out (Nat.le_of_lt HG.out), ?_⟩
  have hw1 := below_size HLgb.out; have hw2 := below_size B2.out; have hb := blk_lt BKgb.out
  exact ((T3.out.mono fun q hl hq => (⟨by omega, by omega⟩ : w.heap.size ≤ q ∧ q ≠ gb)).chg chg9_ (fun h => h.2 rfl)).mono fun q _ hq => hq.1
end Go.Proofs.Ytcfgjaggccnoaaa.PParseSmall
namespace Go.Proofs.Ytcfgjaggccnoaaa.PParseSmall
open Go.RowKit Go.Proofs.YtcfgjaggccnoaaaW.PrintWords Go.Proofs.YtcfgjaggccnoaaaW.PrintLast Go.Proofs.YtcfgjaggccnoaaaW.PrintMore
attribute [local go_sem] max2_int min2_int max_two min_two max_three min_three max_four min_four
set_option linter.unusedVariables false
set_option linter.unusedSimpArgs false
set_option maxRecDepth 100000
set_option maxHeartbeats 4000000
section
variable {w0 w w' : World} {g g6 g7 c vc : Nat} {A S vA : Option Addr} {l : List S91} {ss : List ByteArray} {i d e i' d' e' : Int} {x : S27}
theorem CS.start (st : St w g A c l i d e) (ch : Chg g w0 w) (b6 : w.heap[g6]? = some (.cells #[.int .i64 0, .string ⟨#[]⟩, .string ⟨#[]⟩, .int .i64 0, .int .i64 0, .int .i64 0, .int .i64 0, .string ⟨#[]⟩, .slice none 0 0] 27 (0, 0))) {u0 u1 u2 u3 u4 u5 u6 u7 u8 : Value}
    (b7 : w.heap[g7]? = some (.cells #[u0, u1, u2, u3, u4, u5, u6, u7, u8] 27 (0, 0))) (tr : Tr w (fun k => w0.heap.size ≤ k ∧ k ≠ g6 ∧ k ≠ g7) x vA vc) (sg : Sg w g w0.heap.size S ss) (hg : g < w0.heap.size) (h6 : w0.heap.size ≤ g6) (h67 : g6 < g7) :
    CS w0 g g6 g7 A c l S ss (((((((((w.setCell ⟨g7, 0, none⟩ (.int .i64 x.f0)).setCell ⟨g7, 1, none⟩ (.string x.f1)).setCell ⟨g7, 2, none⟩ (.string x.f2)).setCell ⟨g7, 3, none⟩ (.int .i64 x.f3)).setCell ⟨g7, 4, none⟩ (.int .i64 x.f4)).setCell ⟨g7, 5, none⟩ (.int .i64 x.f5.f0)).setCell ⟨g7, 6, none⟩ (.int .i64 x.f5.f1)).setCell ⟨g7, 7, none⟩ (.string x.f5.f2)).setCell ⟨g7, 8, none⟩ (.slice vA x.f6.length vc)) i d e x vA vc :=
  ⟨st.box chg9_ (by omega), ch.own chg9_ (by omega) (by omega), chg9_.box b6 (by omega), put9_ b7, tr.chg chg9_ (by omega), sg.box chg9_ (by omega), hg, h6, h67⟩
theorem CS.done' (h : CS w0 g g6 g7 A c l S ss w i d e x vA vc) {y : S27} {B : Option Addr} {b : Nat} (t : Tr w (fun k => w0.heap.size ≤ k ∧ k ≠ g6 ∧ k ≠ g7) y B b) {v0 v1 v2 v3 v4 v5 v6 v7 v8 : Value} : Done w0 g A c l ⟨i, d, e, y⟩ (.returned (exV y B b)) (((((((((w.setCell ⟨g6, 0, none⟩ v0).setCell ⟨g6, 1, none⟩ v1).setCell ⟨g6, 2, none⟩ v2).setCell ⟨g6, 3, none⟩ v3).setCell ⟨g6, 4, none⟩ v4).setCell ⟨g6, 5, none⟩ v5).setCell ⟨g6, 6, none⟩ v6).setCell ⟨g6, 7, none⟩ v7).setCell ⟨g6, 8, none⟩ v8) :=
  have hg := h.hg; have h6 := h.h6
  ⟨B, b, rfl, h.st.box chg9_ (by omega), h.ch.own chg9_ h6 (by omega), (t.chg chg9_ (fun q => q.2.1 rfl)).mono fun _ _ q => q.1⟩
end
theorem Sg.nil (w : World) (g b0 : Nat) : Sg w g b0 none [] := fun W' _ => ⟨rfl, by simp, fun q => absurd q (Nat.lt_irrefl 0)⟩
section
variable {P : Program} {ops : Array Oper} {Q : Exit → Act → World → Prop} {o : Oper} {rest : List Oper} {a : Act} {W : World} {N' : Tmp} {g : Nat}
theorem litS6 (hgd : o.guard = none) (hd : o.dst = some N') (hg : g < W.heap.size)
    (hrun : (execOp a.eval o).run P W = .ok (.value (.slice (some ⟨W.heap.size, 0, none⟩) 6 6)) (W.alloc (.cells #[.string ⟨#[61]⟩, .string ⟨#[60, 62]⟩, .string ⟨#[60]⟩, .string ⟨#[60, 61]⟩, .string ⟨#[62]⟩, .string ⟨#[62, 61]⟩] 9)))
    (h : ∀ A1 c1 w1, Sg w1 g w1.heap.size A1 six → Below W.heap.size W w1 → wpList P ops Q rest (a.put o.dst (.slice A1 6 c1)) w1) : wpList P ops Q (o :: rest) a W := by
  refine Kd.R_lit Kd.string W.heap.size 9 hgd hd (xs := six) (inner := [.string ⟨#[61]⟩, .string ⟨#[60, 62]⟩, .string ⟨#[60]⟩, .string ⟨#[60, 61]⟩, .string ⟨#[62]⟩, .string ⟨#[62, 61]⟩]) (ok := fun k => k ≠ g) (okp := fun _ => False) hrun ?_ (fun _ q => q.elim) (by omega) (Below.refl _ _) (Nat.le_refl _) (by decide) ?_
  · exact Reps.one (show Kd.M Kd.string _ _ _ (⟨#[61]⟩ : ByteArray) [.string ⟨#[61]⟩] from rfl) (Reps.one (show Kd.M Kd.string _ _ _ (⟨#[60, 62]⟩ : ByteArray) [.string ⟨#[60, 62]⟩] from rfl) (Reps.one (show Kd.M Kd.string _ _ _ (⟨#[60]⟩ : ByteArray) [.string ⟨#[60]⟩] from rfl) (Reps.one (show Kd.M Kd.string _ _ _ (⟨#[60, 61]⟩ : ByteArray) [.string ⟨#[60, 61]⟩] from rfl) (Reps.one (show Kd.M Kd.string _ _ _ (⟨#[62]⟩ : ByteArray) [.string ⟨#[62]⟩] from rfl) (Reps.one (show Kd.M Kd.string _ _ _ (⟨#[62, 61]⟩ : ByteArray) [.string ⟨#[62, 61]⟩] from rfl) (Reps.none _ _))))))
  · intro v1 w1 hr hb _ _
    obtain ⟨A, c, rfl, hs⟩ := Sg.of_R hr
    exact h A c w1 hs hb
end
theorem start_tr {w w1 w2 w3 : World} {gb6 gb7 g : Nat} {o : Obj} {x : S27} {vA : Option Addr} {vc : Nat} (b6 : w1.heap[gb6]? = some o) (h7 : w2.heap.size ≤ gb7) (l1 : Below w.heap.size w w1) (c2 : Chg g w1 w2) (l3 : Below w2.heap.size w2 w3) (t : Tr w2 (fun k => w1.heap.size ≤ k) x vA vc) : Tr w3 (fun k => w.heap.size ≤ k ∧ k ≠ gb6 ∧ k ≠ gb7) x vA vc :=
  (t.mono fun q hl hq => by have h1 := blk_lt b6; have h2 := below_size l1; have h3 := c2.size; exact ⟨by omega, by omega, by omega⟩).below l3
theorem test_some {k : Nat} (hT : GOK k .sum) {w : World} {g : Nat} {A : Option Addr} {c : Nat} {l : List S91} {i0 d0 e0 : Int} {r0 r1 : Re} (h : St w g A c l i0 d0 e0) (h0 : pr l k (.f .sum) i0 d0 e0 = some r0) {s : ByteArray} (hf : six.find? (fun s => isP l r0.i r0.e s) = some s) (h1 : pr l k (.f .sum) (r0.i + 1) r0.d r0.e = some r1) :
    Calls Try.prog 150 #[.pointer (some ⟨g, 0, none⟩)] w (Done w g A c l ⟨r1.i, r1.d, r1.e, ofP (opP s) [r0.x, r1.x]⟩) := by
  obtain ⟨hs, m, hm, rfl, hb⟩ := find_at hf
  have Q1 := Lib.hid h1; clear h1 hf
  have HF := Lib.hid hb; clear hb
  have HM := Lib.hid (show m < 6 from hm); clear hm
  have HS1 := Lib.hid hs; clear hs
  have H := Lib.hid h; clear h
  have H0 := Lib.hid h0; clear h0
  have HT := Lib.hid hT; clear hT
  go_enter Try.func150, Try.ntmps150
  go_wp2_with (first
    | (((with_reducible refine gate_dst (N := 2) rfl ?_); refine box_event ?hg (N := 2) ?hd (cs := #[.int .i64 0, .string (⟨#[]⟩ : ByteArray), .string (⟨#[]⟩ : ByteArray), .int .i64 0, .int .i64 0, .int .i64 0, .int .i64 0, .string (⟨#[]⟩ : ByteArray), .slice none 0 0]) (t := 27) ?hr ?_; (case hd => rfl); (case hg => rfl); (case hr => first | (go_simp; done) | (go_simp; rfl)); intro gb6 hg_ w1 hb_ hl_; have BKgb6 := am_ hb_; have HLgb6 := am_ hl_; have HGgb6 := am_ (Nat.le_of_eq hg_.symm); obtain ⟨zgb6_0, zgb6_1, zgb6_2, zgb6_3, zgb6_4, zgb6_5, zgb6_6, zgb6_7, zgb6_8, ygb6_0, ygb6_1, ygb6_2, ygb6_3, ygb6_4, ygb6_5, ygb6_6, ygb6_7, ygb6_8⟩ := bw9_ hb_; clear hb_ hl_ hg_; simp only [Act.put, sa_, sz_, ss_]); have H1 := Lib.hid (H.out.below HLgb6.out); have HN := Lib.hid (ne_of_le H.out.lt HGgb6.out); clear zgb6_0 zgb6_1 zgb6_2 zgb6_3 zgb6_4 zgb6_5 zgb6_6 zgb6_7 zgb6_8 ygb6_0 ygb6_1 ygb6_2 ygb6_3 ygb6_4 ygb6_5 ygb6_6 ygb6_7 ygb6_8)
    | ((with_reducible refine gate_callee (f := 159) rfl ?_); refine goesL_ (some 8) rfl rfl Try.func159 (by kernel_rfl) rfl #[.pointer (some ⟨g, 0, none⟩)] rfl (by (try simp only [List.map_toArray, List.map_cons, List.map_nil]); first | done | rfl) ?_; refine (HT.out _ _ _ _ _ _ _ _ _ H1.out H0.out).mono ?_; rintro r' w2 ⟨vA, vc, rfl, h2, c2, t2⟩; refine ⟨_, rfl, ?_⟩; simp only [Act.put, sa_, sz_, ss_]; simp only [exV]; have H2 := Lib.hid h2; have C2 := Lib.hid c2; have T2 := Lib.hid t2; clear h2 c2 t2)
    | (((with_reducible refine gate_dst (N := 3) rfl ?_); refine box_event ?hg (N := 3) ?hd (cs := #[.int .i64 0, .string (⟨#[]⟩ : ByteArray), .string (⟨#[]⟩ : ByteArray), .int .i64 0, .int .i64 0, .int .i64 0, .int .i64 0, .string (⟨#[]⟩ : ByteArray), .slice none 0 0]) (t := 27) ?hr ?_; (case hd => rfl); (case hg => rfl); (case hr => first | (go_simp; done) | (go_simp; rfl)); intro gb7 hg_ w3 hb_ hl_; have BKgb7 := am_ hb_; have HLgb7 := am_ hl_; have HGgb7 := am_ (Nat.le_of_eq hg_.symm); obtain ⟨zgb7_0, zgb7_1, zgb7_2, zgb7_3, zgb7_4, zgb7_5, zgb7_6, zgb7_7, zgb7_8, ygb7_0, ygb7_1, ygb7_2, ygb7_3, ygb7_4, ygb7_5, ygb7_6, ygb7_7, ygb7_8⟩ := bw9_ hb_; clear hb_ hl_ hg_; simp only [Act.put, sa_, sz_, ss_]); have HN7 : Hid (g < gb7) := Lib.hid (Nat.lt_of_lt_of_le H2.out.lt HGgb7.out))
    | ((with_reducible refine gate_dst (N := 9) rfl ?_); refine litS6 (N' := 9) (g := g) ?hg ?hd ?hl ?hr ?_; (case hd => rfl); (case hg => rfl); (case hl => exact ((H2.out.below HLgb7.out).box chg9_ HN7.out).lt); (case hr => first | (go_simp; done) | (go_simp; rfl)); intro A9 c9 w9 s9 b9; have S9 := Lib.hid s9; have H9 := Lib.hid ((CS.start (H2.out.below HLgb7.out) (((Chg.below H.out.lt HLgb6.out).trans C2.out).trans (Chg.below H2.out.lt HLgb7.out)) (blk_below (C2.out.box BKgb6.out HN.out) HLgb7.out) BKgb7.out (start_tr BKgb6.out HGgb7.out HLgb6.out C2.out HLgb7.out T2.out) (Sg.nil _ _ _) H.out.lt HGgb6.out (Nat.lt_of_lt_of_le (blk_lt (C2.out.box BKgb6.out HN.out)) HGgb7.out)).below b9); clear s9 b9 zgb7_0 zgb7_1 zgb7_2 zgb7_3 zgb7_4 zgb7_5 zgb7_6 zgb7_7 zgb7_8 ygb7_0 ygb7_1 ygb7_2 ygb7_3 ygb7_4 ygb7_5 ygb7_6 ygb7_7 ygb7_8 BKgb6 BKgb7 HLgb6 HLgb7 HGgb6 HGgb7 H1 H2 C2 T2 HN7 HN; simp only [Act.put, sa_, sz_, ss_]))
  generalize w9.heap.size = b0 at S9
  obtain ⟨i, d, e, x⟩ := r0
  dsimp only at H9 HS1 HF Q1 ⊢
  go_loopg [11] 6 (fun kq v11 w' => ∃ (j : Int), v11 = .int .i64 j ∧ Aside0 (0 ≤ j ∧ j ≤ m ∧ kq = 6 - j.toNat) ∧ Aside0 (CS w g gb6 gb7 A c l none [] w' i d e x vA vc) ∧ Aside0 (Sg w' g b0 A9 six))
  case atStart => exact ⟨0, rfl, ⟨⟨Int.le_refl 0, Int.natCast_nonneg _, by simp⟩⟩, ⟨H9.out⟩, ⟨S9.out⟩⟩
  case round =>
    clear H9 S9
    obtain ⟨j, rfl, HJ, HC, HS⟩ := hrel
    have c1 : j < (6 : Int) := by have := HJ.out.2.1; have := HM.out; omega
    obtain ⟨ad, rfl, hc⟩ := HS.out.cell j HJ.out.1 c1
    have hj := eq_true HJ.out.1
    have c1b : decide (j < (6 : Int)) = true := decide_eq_true c1
    have c1c := eq_true c1
    by_cases c2 : j < m
    · have hm := HF.out j HJ.out.1 c2
      have HM1 := Lib.hid hm; clear hm
      have C2 := Lib.hid c2; clear c2
      go_wp2_with (first
        | ((with_reducible refine gate_callee (f := 121) rfl ?_); refine goesL_ (some 17) rfl rfl Try.func121 (by kernel_rfl) rfl #[.pointer (some ⟨g, 0, none⟩), .string (rdOf ByteArray.empty six j)] rfl (by (try simp only [List.map_toArray, List.map_cons, List.map_nil]); first | done | rfl) ?_; refine (take_no_st HC.out.st _ HM1.out).mono ?_; rintro r' w5 ⟨rfl, h5, c5⟩; refine ⟨_, rfl, ?_⟩; simp only [Act.put, sa_, sz_, ss_]; have H5 := Lib.hid (HC.out.chg c5 h5); have S5 := Lib.hid (HS.out.chg c5); clear h5 c5))
      have ⟨hj0, hj1, hj2⟩ := HJ.out; have hc2 := C2.out; have hm1 := HM.out
      clear HJ hc
      go_roundg (6 - (j + 1).toNat)
      case measure => omega
      case rel => exact ⟨j + 1, by rw [show wrap64 (j + 1) = j + 1 from w64 _ (by omega)], ⟨⟨by omega, by omega, rfl⟩⟩, ⟨H5.out⟩, ⟨S5.out⟩⟩
    · have ej : (m : Int) = j := by have := HJ.out.2.1; omega
      have hS1 := HS1.out
      rw [ej] at hS1 ⊢
      clear c2 HJ HS1 HF HM ej
      have HS1 := Lib.hid hS1; clear hS1
      go_wp2_with (first
        | ((with_reducible refine gate_callee (f := 121) rfl ?_); refine goesL_ (some 17) rfl rfl Try.func121 (by kernel_rfl) rfl #[.pointer (some ⟨g, 0, none⟩), .string (rdOf ByteArray.empty six j)] rfl (by (try simp only [List.map_toArray, List.map_cons, List.map_nil]); first | done | rfl) ?_; refine (take_yes_st HC.out.st _ HS1.out).mono ?_; rintro r' w5 ⟨rfl, h5, c5⟩; refine ⟨_, rfl, ?_⟩; simp only [Act.put, sa_, sz_, ss_]; have H5 := Lib.hid (HC.out.chg c5 h5); clear h5 c5 HC))
      have H6 := Lib.hid (H5.out.below (Below.drew (Below.refl _ _)))
      clear H5 hc
      refine start_ (n := 8) (S := fun w' => w'.heap[gb7]? = some (.cells #[.int .i64 x.f0, .string x.f1, .string x.f2, .int .i64 x.f3, .int .i64 x.f4, .int .i64 x.f5.f0, .int .i64 x.f5.f1, .string x.f5.f2, .slice vA x.f6.length vc] 27 (0, 0))) (ds := [7]) #[false, false, false, false, false, false, false, false] (by kernel_rfl) rfl rfl H6.out.b7 (fun hHeld => ?_)
      generalize w5.drew = w6 at H6 hHeld ⊢
      refine take_ (i := 0) (N := some 18) (v := ?_) (a' := ?_) #[true, false, false, false, false, false, false, false] rfl rfl (by kernel_rfl) (fun _ _ _ h => h) (Or.inl ⟨by rfl, ?_⟩) hHeld ?_ ?_; rotate_left
      · intro w' hS
        go_simp; (with_reducible rfl)
      rotate_left
      · simp only [Act.put, sa_, sz_, ss_, i64_w, i32_w]
        rfl
      refine take_ (i := 2) (N := some 20) (v := ?_) (a' := ?_) #[true, false, true, false, false, false, false, false] rfl rfl (by kernel_rfl) (fun _ _ _ h => h) (Or.inl ⟨by rfl, ?_⟩) hHeld ?_ ?_; rotate_left
      · intro w' hS; obtain ⟨s0, s1, s2, s3, s4, s5, s6, s7, s8, t0, t1, t2, t3, t4, t5, t6, t7, t8⟩ := bw9_ hS
        go_simp; (with_reducible rfl)
      rotate_left
      · simp only [Act.put, sa_, sz_, ss_, i64_w, i32_w]
        rfl
      refine take_ (i := 3) (N := some 21) (v := ?_) (a' := ?_) #[true, false, true, true, false, false, false, false] rfl rfl (by kernel_rfl) (fun _ _ _ h => h) (Or.inl ⟨by rfl, ?_⟩) hHeld ?_ ?_; rotate_left
      · intro w' hS
        go_simp; (with_reducible rfl)
      rotate_left
      · simp only [Act.put, sa_, sz_, ss_, i64_w, i32_w]
        rfl
      refine one_ (i := 1) (N := some 19) #[true, true, true, true, false, false, false, false] rfl rfl (by kernel_rfl) (by decide) (fun K hK => ?_); refine goes_ Try.func123 (by kernel_rfl) rfl #[.string (rdOf ByteArray.empty six j)] (by rfl) rfl rfl (by (try simp only [List.map_toArray, List.map_cons, List.map_nil]); first | done | rfl) ?_; (with_reducible refine (parse_opOf.calls (rdOf ByteArray.empty six j) _ _ (opP_f _)).mono ?_); rintro e' w7 ⟨rfl, nd, rfl⟩; refine ⟨_, rfl, ?_⟩; have H7 := Lib.hid (H6.out.below (pw_below_drewN (Below.refl _ _) nd)); generalize w6.drewN nd = w7 at H7 hK ⊢; clear H6 hHeld; refine hK.out _ _ H7.out.b7 (fun hHeld => ?_); clear hK K; refine norm_ (a' := ?_) ?_ ?_; rotate_left
      · show Act.put _ (some 19) _ = _
        simp only [Act.put, sa_, sz_, ss_, i64_w, i32_w]; rfl
      refine one_ (i := 4) (N := some 22) #[true, true, true, true, true, false, false, false] rfl rfl (by kernel_rfl) (by decide) (fun K hK => ?_); refine goes_ Try.func159 (by kernel_rfl) rfl #[.pointer (some ⟨g, 0, none⟩)] (by rfl) rfl rfl (by (try simp only [List.map_toArray, List.map_cons, List.map_nil]); first | done | rfl) ?_; refine (HT.out _ _ _ _ _ _ _ _ _ H7.out.st Q1.out).mono ?_; rintro e' w8 ⟨yA, yc, rfl, h8, c8, t8⟩; refine ⟨_, rfl, ?_⟩; have H8 := Lib.hid (H7.out.chg c8 h8); have T8 := Lib.hid (Tr.aft H7.out t8); clear c8 h8 t8 H7 hHeld; refine hK.out _ _ H8.out.b7 (fun hHeld => ?_); clear hK K; refine norm_ (a' := ?_) ?_ ?_; rotate_left
      · show Act.put _ (some 22) _ = _
        simp only [Act.put, sa_, sz_, ss_, i64_w, i32_w, exV]; rfl
      refine one_ (i := 5) (N := some 23) #[true, true, true, true, true, true, false, false] rfl rfl (by kernel_rfl) (by decide) (fun K hK => ?_); refine lit2s (by rfl) rfl H8.out.tr T8.out ?hf ?hr ?_; (case hf => exact H8.out.fresh); (case hr => first | (go_simp; done) | (go_simp; rfl)); intro A9 c9 w9 v9 b9; have V9 := Lib.hid v9; have H9 := Lib.hid (H8.out.below b9); clear v9 b9 T8 H8 hHeld; refine hK.out _ _ H9.out.b7 (fun hHeld => ?_); clear hK K; refine norm_ (a' := ?_) ?_ ?_; rotate_left
      · show Act.put _ (some 23) _ = _
        simp only [Act.put, sa_, sz_, ss_, i64_w, i32_w]; rfl
      refine one_ (i := 6) (N := some 24) #[true, true, true, true, true, true, true, false] rfl rfl (by kernel_rfl) (by decide) (fun K hK => ?_); refine goes_ Try.func122 (by kernel_rfl) rfl #[.int .i64 (opP (rdOf ByteArray.empty six j)), .slice A9 2 c9] (by rfl) rfl rfl (by (try simp only [List.map_toArray, List.map_cons, List.map_nil]); first | done | rfl) ?_; refine (of_any (opP (rdOf ByteArray.empty six j)) [x, r1.x] (by simp) V9.out).mono ?_; rintro e' w10 ⟨zA, zc, rfl, t10, b10⟩; refine ⟨_, rfl, ?_⟩; have H10 := Lib.hid (H9.out.below b10); have T10 := Lib.hid (Tr.new H9.out t10); clear t10 b10 V9 H9 hHeld; refine hK.out _ _ H10.out.b7 (fun hHeld => ?_); clear hK K; refine norm_ (a' := ?_) ?_ ?_; rotate_left
      · show Act.put _ (some 24) _ = _
        simp only [Act.put, sa_, sz_, ss_, i64_w, i32_w, exV, ofP]; rfl
      obtain ⟨s0, s1, s2, s3, s4, s5, s6, s7, s8, t0, t1, t2, t3, t4, t5, t6, t7, t8⟩ := bw9_ H10.out.b6
      refine last_ (i := 7) (N := none) #[true, true, true, true, true, true, true, true] rfl rfl (by kernel_rfl) (by decide) (fun K hK => ?_); refine skip_ (w1 := ?_) (by rfl) rfl ?_ ?_; rotate_left
      · go_simp
        rfl
      refine hK.out _ _ ?_; clear hK K; refine done_ (by kernel_rfl) ?_
      clear s0 s1 s2 s3 s4 s5 s6 s7 s8 t0 t1 t2 t3 t4 t5 t6 t7 t8
      try go_wp2
      exact bodyPost_ret (results_cell_row rfl _ _ gb6 27 #[.int .i64 (opP (rdOf ByteArray.empty six j)), .string ⟨#[]⟩, .string ⟨#[]⟩, .int .i64 0, .int .i64 0, .int .i64 0, .int .i64 0, .string ⟨#[]⟩, .slice zA 2 zc] (0, 0) _ rfl (put9_ H10.out.b6) Try.underlying27 rfl (by kernel_rfl)) rfl (H10.out.done' T10.out)
theorem test_no {k : Nat} (hT : GOK k .sum) {w : World} {g : Nat} {A : Option Addr} {c : Nat} {l : List S91} {i0 d0 e0 : Int} {r0 : Re} (h : St w g A c l i0 d0 e0) (h0 : pr l k (.f .sum) i0 d0 e0 = some r0) (hf : six.find? (fun s => isP l r0.i r0.e s) = none) (g1 : isP l r0.i r0.e wIs = false) :
    Calls Try.prog 150 #[.pointer (some ⟨g, 0, none⟩)] w (Done w g A c l r0) := by
  have HF := Lib.hid hf; clear hf
  have G1 := Lib.hid g1; clear g1
  have H := Lib.hid h; clear h
  have H0 := Lib.hid h0; clear h0
  have HT := Lib.hid hT; clear hT
  go_enter Try.func150, Try.ntmps150
  go_wp2_with (first
    | (((with_reducible refine gate_dst (N := 2) rfl ?_); refine box_event ?hg (N := 2) ?hd (cs := #[.int .i64 0, .string (⟨#[]⟩ : ByteArray), .string (⟨#[]⟩ : ByteArray), .int .i64 0, .int .i64 0, .int .i64 0, .int .i64 0, .string (⟨#[]⟩ : ByteArray), .slice none 0 0]) (t := 27) ?hr ?_; (case hd => rfl); (case hg => rfl); (case hr => first | (go_simp; done) | (go_simp; rfl)); intro gb6 hg_ w1 hb_ hl_; have BKgb6 := am_ hb_; have HLgb6 := am_ hl_; have HGgb6 := am_ (Nat.le_of_eq hg_.symm); obtain ⟨zgb6_0, zgb6_1, zgb6_2, zgb6_3, zgb6_4, zgb6_5, zgb6_6, zgb6_7, zgb6_8, ygb6_0, ygb6_1, ygb6_2, ygb6_3, ygb6_4, ygb6_5, ygb6_6, ygb6_7, ygb6_8⟩ := bw9_ hb_; clear hb_ hl_ hg_; simp only [Act.put, sa_, sz_, ss_]); have H1 := Lib.hid (H.out.below HLgb6.out); have HN := Lib.hid (ne_of_le H.out.lt HGgb6.out); clear zgb6_0 zgb6_1 zgb6_2 zgb6_3 zgb6_4 zgb6_5 zgb6_6 zgb6_7 zgb6_8 ygb6_0 ygb6_1 ygb6_2 ygb6_3 ygb6_4 ygb6_5 ygb6_6 ygb6_7 ygb6_8)
    | ((with_reducible refine gate_callee (f := 159) rfl ?_); refine goesL_ (some 8) rfl rfl Try.func159 (by kernel_rfl) rfl #[.pointer (some ⟨g, 0, none⟩)] rfl (by (try simp only [List.map_toArray, List.map_cons, List.map_nil]); first | done | rfl) ?_; refine (HT.out _ _ _ _ _ _ _ _ _ H1.out H0.out).mono ?_; rintro r' w2 ⟨vA, vc, rfl, h2, c2, t2⟩; refine ⟨_, rfl, ?_⟩; simp only [Act.put, sa_, sz_, ss_]; simp only [exV]; have H2 := Lib.hid h2; have C2 := Lib.hid c2; have T2 := Lib.hid t2; clear h2 c2 t2)
    | (((with_reducible refine gate_dst (N := 3) rfl ?_); refine box_event ?hg (N := 3) ?hd (cs := #[.int .i64 0, .string (⟨#[]⟩ : ByteArray), .string (⟨#[]⟩ : ByteArray), .int .i64 0, .int .i64 0, .int .i64 0, .int .i64 0, .string (⟨#[]⟩ : ByteArray), .slice none 0 0]) (t := 27) ?hr ?_; (case hd => rfl); (case hg => rfl); (case hr => first | (go_simp; done) | (go_simp; rfl)); intro gb7 hg_ w3 hb_ hl_; have BKgb7 := am_ hb_; have HLgb7 := am_ hl_; have HGgb7 := am_ (Nat.le_of_eq hg_.symm); obtain ⟨zgb7_0, zgb7_1, zgb7_2, zgb7_3, zgb7_4, zgb7_5, zgb7_6, zgb7_7, zgb7_8, ygb7_0, ygb7_1, ygb7_2, ygb7_3, ygb7_4, ygb7_5, ygb7_6, ygb7_7, ygb7_8⟩ := bw9_ hb_; clear hb_ hl_ hg_; simp only [Act.put, sa_, sz_, ss_]); have HN7 : Hid (g < gb7) := Lib.hid (Nat.lt_of_lt_of_le H2.out.lt HGgb7.out))
    | ((with_reducible refine gate_dst (N := 9) rfl ?_); refine litS6 (N' := 9) (g := g) ?hg ?hd ?hl ?hr ?_; (case hd => rfl); (case hg => rfl); (case hl => exact ((H2.out.below HLgb7.out).box chg9_ HN7.out).lt); (case hr => first | (go_simp; done) | (go_simp; rfl)); intro A9 c9 w9 s9 b9; have S9 := Lib.hid s9; have H9 := Lib.hid ((CS.start (H2.out.below HLgb7.out) (((Chg.below H.out.lt HLgb6.out).trans C2.out).trans (Chg.below H2.out.lt HLgb7.out)) (blk_below (C2.out.box BKgb6.out HN.out) HLgb7.out) BKgb7.out (start_tr BKgb6.out HGgb7.out HLgb6.out C2.out HLgb7.out T2.out) (Sg.nil _ _ _) H.out.lt HGgb6.out (Nat.lt_of_lt_of_le (blk_lt (C2.out.box BKgb6.out HN.out)) HGgb7.out)).below b9); clear s9 b9 zgb7_0 zgb7_1 zgb7_2 zgb7_3 zgb7_4 zgb7_5 zgb7_6 zgb7_7 zgb7_8 ygb7_0 ygb7_1 ygb7_2 ygb7_3 ygb7_4 ygb7_5 ygb7_6 ygb7_7 ygb7_8 BKgb6 BKgb7 HLgb6 HLgb7 HGgb6 HGgb7 H1 H2 C2 T2 HN7 HN; simp only [Act.put, sa_, sz_, ss_]))
  generalize w9.heap.size = b0 at S9
  obtain ⟨i, d, e, x⟩ := r0
  dsimp only at H9 HF G1 ⊢
  go_loopg [11] 6 (fun kq v11 w' => ∃ (j : Int), v11 = .int .i64 j ∧ Aside0 (0 ≤ j ∧ j ≤ 6 ∧ kq = 6 - j.toNat) ∧ Aside0 (CS w g gb6 gb7 A c l none [] w' i d e x vA vc) ∧ Aside0 (Sg w' g b0 A9 six))
  case atStart => exact ⟨0, rfl, ⟨⟨Int.le_refl 0, by decide, by simp⟩⟩, ⟨H9.out⟩, ⟨S9.out⟩⟩
  case round =>
    clear H9 S9
    obtain ⟨j, rfl, HJ, HC, HS⟩ := hrel
    by_cases c1 : j < (6 : Int)
    · obtain ⟨ad, rfl, hc⟩ := HS.out.cell j HJ.out.1 c1
      have hj := eq_true HJ.out.1
      have c1b : decide (j < (6 : Int)) = true := decide_eq_true c1
      have c1c := eq_true c1
      have hm : isP l i e (rdOf ByteArray.empty six j) = false := by
        have := List.find?_eq_none.1 HF.out (rdOf ByteArray.empty six j) (rdOf_mem six j HJ.out.1 c1)
        simpa using this
      have HM1 := Lib.hid hm; clear hm
      have C2 := Lib.hid c1; clear c1
      go_wp2_with (first
        | ((with_reducible refine gate_callee (f := 121) rfl ?_); refine goesL_ (some 17) rfl rfl Try.func121 (by kernel_rfl) rfl #[.pointer (some ⟨g, 0, none⟩), .string (rdOf ByteArray.empty six j)] rfl (by (try simp only [List.map_toArray, List.map_cons, List.map_nil]); first | done | rfl) ?_; refine (take_no_st HC.out.st _ HM1.out).mono ?_; rintro r' w5 ⟨rfl, h5, c5⟩; refine ⟨_, rfl, ?_⟩; simp only [Act.put, sa_, sz_, ss_]; have H5 := Lib.hid (HC.out.chg c5 h5); have S5 := Lib.hid (HS.out.chg c5); clear h5 c5))
      have ⟨hj0, hj1, hj2⟩ := HJ.out; have hc2 := C2.out
      clear HJ hc
      go_roundg (6 - (j + 1).toNat)
      case measure => omega
      case rel => exact ⟨j + 1, by rw [show wrap64 (j + 1) = j + 1 from w64 _ (by omega)], ⟨⟨by omega, by omega, rfl⟩⟩, ⟨H5.out⟩, ⟨S5.out⟩⟩
    · have c1b : decide (j < (6 : Int)) = false := decide_eq_false c1
      clear HJ c1 HS HF
      obtain ⟨p0, p1, p2, p3, p4, p5, p6, p7, p8, q0, q1, q2, q3, q4, q5, q6, q7, q8⟩ := bw9_ HC.out.b6; obtain ⟨s0, s1, s2, s3, s4, s5, s6, s7, s8, t0, t1, t2, t3, t4, t5, t6, t7, t8⟩ := bw9_ HC.out.b7
      clear p0 p1 p2 p3 p4 p5 p6 p7 p8 q0 q1 q2 q3 q4 q5 q6 q7 q8 s0 s1 s2 s3 s4 s5 s6 s7 s8 t0 t1 t2 t3 t4 t5 t6 t7 t8
      go_wp2_with (first
        | ((with_reducible refine gate_callee (f := 121) rfl ?_); refine goesL_ (some 27) rfl rfl Try.func121 (by kernel_rfl) rfl #[.pointer (some ⟨g, 0, none⟩), .string wIs] rfl (by (try simp only [List.map_toArray, List.map_cons, List.map_nil]); first | done | rfl) ?_; refine (take_no_st HC.out.st _ G1.out).mono ?_; rintro r' w5 ⟨rfl, h5, c5⟩; refine ⟨_, rfl, ?_⟩; simp only [Act.put, sa_, sz_, ss_]; have H5 := Lib.hid (HC.out.chg c5 h5); clear h5 c5 HC; obtain ⟨p0, p1, p2, p3, p4, p5, p6, p7, p8, q0, q1, q2, q3, q4, q5, q6, q7, q8⟩ := bw9_ H5.out.b6; obtain ⟨s0, s1, s2, s3, s4, s5, s6, s7, s8, t0, t1, t2, t3, t4, t5, t6, t7, t8⟩ := bw9_ H5.out.b7))
      exact bodyPost_ret (results_cell_row rfl _ _ gb6 27 #[.int .i64 x.f0, .string x.f1, .string x.f2, .int .i64 x.f3, .int .i64 x.f4, .int .i64 x.f5.f0, .int .i64 x.f5.f1, .string x.f5.f2, .slice vA x.f6.length vc] (0, 0) _ rfl (put9_ H5.out.b6) Try.underlying27 rfl (by kernel_rfl)) rfl H5.out.done
theorem test_is {k : Nat} (hT : GOK k .sum) {w : World} {g : Nat} {A : Option Addr} {c : Nat} {l : List S91} {i0 d0 e0 : Int} {r0 : Re} (h : St w g A c l i0 d0 e0) (h0 : pr l k (.f .sum) i0 d0 e0 = some r0) (hf : six.find? (fun s => isP l r0.i r0.e s) = none) (g1 : isP l r0.i r0.e wIs = true) (g2 : isP l (r0.i + 1) r0.e wNot = false) :
    Calls Try.prog 150 #[.pointer (some ⟨g, 0, none⟩)] w (Done w g A c l ⟨muI l (r0.i + 1) r0.e wNull, r0.d, muE l (r0.i + 1) r0.e wNull, ofP 13 [r0.x]⟩) := by
  have HF := Lib.hid hf; clear hf
  have G1 := Lib.hid g1; clear g1
  have G2 := Lib.hid g2; clear g2
  have H := Lib.hid h; clear h
  have H0 := Lib.hid h0; clear h0
  have HT := Lib.hid hT; clear hT
  go_enter Try.func150, Try.ntmps150
  go_wp2_with (first
    | (((with_reducible refine gate_dst (N := 2) rfl ?_); refine box_event ?hg (N := 2) ?hd (cs := #[.int .i64 0, .string (⟨#[]⟩ : ByteArray), .string (⟨#[]⟩ : ByteArray), .int .i64 0, .int .i64 0, .int .i64 0, .int .i64 0, .string (⟨#[]⟩ : ByteArray), .slice none 0 0]) (t := 27) ?hr ?_; (case hd => rfl); (case hg => rfl); (case hr => first | (go_simp; done) | (go_simp; rfl)); intro gb6 hg_ w1 hb_ hl_; have BKgb6 := am_ hb_; have HLgb6 := am_ hl_; have HGgb6 := am_ (Nat.le_of_eq hg_.symm); obtain ⟨zgb6_0, zgb6_1, zgb6_2, zgb6_3, zgb6_4, zgb6_5, zgb6_6, zgb6_7, zgb6_8, ygb6_0, ygb6_1, ygb6_2, ygb6_3, ygb6_4, ygb6_5, ygb6_6, ygb6_7, ygb6_8⟩ := bw9_ hb_; clear hb_ hl_ hg_; simp only [Act.put, sa_, sz_, ss_]); have H1 := Lib.hid (H.out.below HLgb6.out); have HN := Lib.hid (ne_of_le H.out.lt HGgb6.out); clear zgb6_0 zgb6_1 zgb6_2 zgb6_3 zgb6_4 zgb6_5 zgb6_6 zgb6_7 zgb6_8 ygb6_0 ygb6_1 ygb6_2 ygb6_3 ygb6_4 ygb6_5 ygb6_6 ygb6_7 ygb6_8)
    | ((with_reducible refine gate_callee (f := 159) rfl ?_); refine goesL_ (some 8) rfl rfl Try.func159 (by kernel_rfl) rfl #[.pointer (some ⟨g, 0, none⟩)] rfl (by (try simp only [List.map_toArray, List.map_cons, List.map_nil]); first | done | rfl) ?_; refine (HT.out _ _ _ _ _ _ _ _ _ H1.out H0.out).mono ?_; rintro r' w2 ⟨vA, vc, rfl, h2, c2, t2⟩; refine ⟨_, rfl, ?_⟩; simp only [Act.put, sa_, sz_, ss_]; simp only [exV]; have H2 := Lib.hid h2; have C2 := Lib.hid c2; have T2 := Lib.hid t2; clear h2 c2 t2)
    | (((with_reducible refine gate_dst (N := 3) rfl ?_); refine box_event ?hg (N := 3) ?hd (cs := #[.int .i64 0, .string (⟨#[]⟩ : ByteArray), .string (⟨#[]⟩ : ByteArray), .int .i64 0, .int .i64 0, .int .i64 0, .int .i64 0, .string (⟨#[]⟩ : ByteArray), .slice none 0 0]) (t := 27) ?hr ?_; (case hd => rfl); (case hg => rfl); (case hr => first | (go_simp; done) | (go_simp; rfl)); intro gb7 hg_ w3 hb_ hl_; have BKgb7 := am_ hb_; have HLgb7 := am_ hl_; have HGgb7 := am_ (Nat.le_of_eq hg_.symm); obtain ⟨zgb7_0, zgb7_1, zgb7_2, zgb7_3, zgb7_4, zgb7_5, zgb7_6, zgb7_7, zgb7_8, ygb7_0, ygb7_1, ygb7_2, ygb7_3, ygb7_4, ygb7_5, ygb7_6, ygb7_7, ygb7_8⟩ := bw9_ hb_; clear hb_ hl_ hg_; simp only [Act.put, sa_, sz_, ss_]); have HN7 : Hid (g < gb7) := Lib.hid (Nat.lt_of_lt_of_le H2.out.lt HGgb7.out))
    | ((with_reducible refine gate_dst (N := 9) rfl ?_); refine litS6 (N' := 9) (g := g) ?hg ?hd ?hl ?hr ?_; (case hd => rfl); (case hg => rfl); (case hl => exact ((H2.out.below HLgb7.out).box chg9_ HN7.out).lt); (case hr => first | (go_simp; done) | (go_simp; rfl)); intro A9 c9 w9 s9 b9; have S9 := Lib.hid s9; have H9 := Lib.hid ((CS.start (H2.out.below HLgb7.out) (((Chg.below H.out.lt HLgb6.out).trans C2.out).trans (Chg.below H2.out.lt HLgb7.out)) (blk_below (C2.out.box BKgb6.out HN.out) HLgb7.out) BKgb7.out (start_tr BKgb6.out HGgb7.out HLgb6.out C2.out HLgb7.out T2.out) (Sg.nil _ _ _) H.out.lt HGgb6.out (Nat.lt_of_lt_of_le (blk_lt (C2.out.box BKgb6.out HN.out)) HGgb7.out)).below b9); clear s9 b9 zgb7_0 zgb7_1 zgb7_2 zgb7_3 zgb7_4 zgb7_5 zgb7_6 zgb7_7 zgb7_8 ygb7_0 ygb7_1 ygb7_2 ygb7_3 ygb7_4 ygb7_5 ygb7_6 ygb7_7 ygb7_8 BKgb6 BKgb7 HLgb6 HLgb7 HGgb6 HGgb7 H1 H2 C2 T2 HN7 HN; simp only [Act.put, sa_, sz_, ss_]))
  generalize w9.heap.size = b0 at S9
  obtain ⟨i, d, e, x⟩ := r0
  dsimp only at H9 HF G1 G2 ⊢
  go_loopg [11] 6 (fun kq v11 w' => ∃ (j : Int), v11 = .int .i64 j ∧ Aside0 (0 ≤ j ∧ j ≤ 6 ∧ kq = 6 - j.toNat) ∧ Aside0 (CS w g gb6 gb7 A c l none [] w' i d e x vA vc) ∧ Aside0 (Sg w' g b0 A9 six))
  case atStart => exact ⟨0, rfl, ⟨⟨Int.le_refl 0, by decide, by simp⟩⟩, ⟨H9.out⟩, ⟨S9.out⟩⟩
  case round =>
    clear H9 S9
    obtain ⟨j, rfl, HJ, HC, HS⟩ := hrel
    by_cases c1 : j < (6 : Int)
    · obtain ⟨ad, rfl, hc⟩ := HS.out.cell j HJ.out.1 c1
      have hj := eq_true HJ.out.1
      have c1b : decide (j < (6 : Int)) = true := decide_eq_true c1
      have c1c := eq_true c1
      have hm : isP l i e (rdOf ByteArray.empty six j) = false := by
        have := List.find?_eq_none.1 HF.out (rdOf ByteArray.empty six j) (rdOf_mem six j HJ.out.1 c1)
        simpa using this
      have HM1 := Lib.hid hm; clear hm
      have C2 := Lib.hid c1; clear c1
      go_wp2_with (first
        | ((with_reducible refine gate_callee (f := 121) rfl ?_); refine goesL_ (some 17) rfl rfl Try.func121 (by kernel_rfl) rfl #[.pointer (some ⟨g, 0, none⟩), .string (rdOf ByteArray.empty six j)] rfl (by (try simp only [List.map_toArray, List.map_cons, List.map_nil]); first | done | rfl) ?_; refine (take_no_st HC.out.st _ HM1.out).mono ?_; rintro r' w5 ⟨rfl, h5, c5⟩; refine ⟨_, rfl, ?_⟩; simp only [Act.put, sa_, sz_, ss_]; have H5 := Lib.hid (HC.out.chg c5 h5); have S5 := Lib.hid (HS.out.chg c5); clear h5 c5))
      have ⟨hj0, hj1, hj2⟩ := HJ.out; have hc2 := C2.out
      clear HJ hc
      go_roundg (6 - (j + 1).toNat)
      case measure => omega
      case rel => exact ⟨j + 1, by rw [show wrap64 (j + 1) = j + 1 from w64 _ (by omega)], ⟨⟨by omega, by omega, rfl⟩⟩, ⟨H5.out⟩, ⟨S5.out⟩⟩
    · have c1b : decide (j < (6 : Int)) = false := decide_eq_false c1
      clear HJ c1 HS HF
      go_wp2_with (first
        | ((with_reducible refine gate_callee (f := 121) rfl ?_); refine goesL_ (some 27) rfl rfl Try.func121 (by kernel_rfl) rfl #[.pointer (some ⟨g, 0, none⟩), .string wIs] rfl (by (try simp only [List.map_toArray, List.map_cons, List.map_nil]); first | done | rfl) ?_; refine (take_yes_st HC.out.st _ G1.out).mono ?_; rintro r' w5 ⟨rfl, h5, c5⟩; refine ⟨_, rfl, ?_⟩; simp only [Act.put, sa_, sz_, ss_]; have H5 := Lib.hid (HC.out.chg c5 h5); clear h5 c5 HC)
        | ((with_reducible refine gate_callee (f := 121) rfl ?_); refine goesL_ (some 31) rfl rfl Try.func121 (by kernel_rfl) rfl #[.pointer (some ⟨g, 0, none⟩), .string wNot] rfl (by (try simp only [List.map_toArray, List.map_cons, List.map_nil]); first | done | rfl) ?_; refine (take_no_st H5.out.st _ G2.out).mono ?_; rintro r' w6 ⟨rfl, h5, c5⟩; refine ⟨_, rfl, ?_⟩; simp only [Act.put, sa_, sz_, ss_]; have H6 := Lib.hid (H5.out.chg c5 h5); clear h5 c5 H5)
        | ((with_reducible refine gate_callee (f := 160) rfl ?_); refine goesL_ (some 33) rfl rfl Try.func160 (by kernel_rfl) rfl #[.pointer (some ⟨g, 0, none⟩), .string wNull] rfl (by (try simp only [List.map_toArray, List.map_cons, List.map_nil]); first | done | rfl) ?_; refine (must_st H6.out.st _).mono ?_; rintro r' w7 ⟨rfl, h5, c5⟩; refine ⟨_, rfl, ?_⟩; simp only [Act.put, sa_, sz_, ss_]; have H7 := Lib.hid (H6.out.chg c5 h5); clear h5 c5 H6; obtain ⟨p0, p1, p2, p3, p4, p5, p6, p7, p8, q0, q1, q2, q3, q4, q5, q6, q7, q8⟩ := bw9_ H7.out.b6; obtain ⟨s0, s1, s2, s3, s4, s5, s6, s7, s8, t0, t1, t2, t3, t4, t5, t6, t7, t8⟩ := bw9_ H7.out.b7)
        | ((with_reducible refine gate_dst (N := 36) rfl ?_); refine lit1 (N' := 36) ?hg ?hd H7.out.tr ?hf ?hr ?_; (case hd => rfl); (case hg => rfl); (case hf => exact H7.out.fresh); (case hr => first | (go_simp; done) | (go_simp; rfl)); intro A8 c8 w8 v8 b8; have V8 := Lib.hid v8; have H8 := Lib.hid (H7.out.below b8); clear v8 b8 p0 p1 p2 p3 p4 p5 p6 p7 p8 q0 q1 q2 q3 q4 q5 q6 q7 q8 s0 s1 s2 s3 s4 s5 s6 s7 s8 t0 t1 t2 t3 t4 t5 t6 t7 t8; simp only [Act.put, sa_, sz_, ss_])
        | ((with_reducible refine gate_callee (f := 122) rfl ?_); refine goesL_ (some 37) rfl rfl Try.func122 (by kernel_rfl) rfl #[.int .i64 13, .slice A8 1 c8] rfl (by (try simp only [List.map_toArray, List.map_cons, List.map_nil]); first | done | rfl) ?_; refine (of_any 13 [x] (by simp) V8.out).mono ?_; rintro r' w9 ⟨zA, zc, rfl, t9, b9⟩; refine ⟨_, rfl, ?_⟩; simp only [Act.put, sa_, sz_, ss_]; simp only [exV, ofP]; have H9 := Lib.hid (H8.out.below b9); have T9 := Lib.hid (Tr.new H8.out t9); clear t9 b9; obtain ⟨p0, p1, p2, p3, p4, p5, p6, p7, p8, q0, q1, q2, q3, q4, q5, q6, q7, q8⟩ := bw9_ H9.out.b6; obtain ⟨s0, s1, s2, s3, s4, s5, s6, s7, s8, t0, t1, t2, t3, t4, t5, t6, t7, t8⟩ := bw9_ H9.out.b7))
      exact bodyPost_ret (results_cell_row rfl _ _ gb6 27 #[.int .i64 13, .string ⟨#[]⟩, .string ⟨#[]⟩, .int .i64 0, .int .i64 0, .int .i64 0, .int .i64 0, .string ⟨#[]⟩, .slice zA 1 zc] (0, 0) _ rfl (put9_ H9.out.b6) Try.underlying27 rfl (by kernel_rfl)) rfl (H9.out.done' T9.out)
theorem test_isnt {k : Nat} (hT : GOK k .sum) {w : World} {g : Nat} {A : Option Addr} {c : Nat} {l : List S91} {i0 d0 e0 : Int} {r0 : Re} (h : St w g A c l i0 d0 e0) (h0 : pr l k (.f .sum) i0 d0 e0 = some r0) (hf : six.find? (fun s => isP l r0.i r0.e s) = none) (g1 : isP l r0.i r0.e wIs = true) (g2 : isP l (r0.i + 1) r0.e wNot = true) :
    Calls Try.prog 150 #[.pointer (some ⟨g, 0, none⟩)] w (Done w g A c l ⟨muI l (r0.i + 1 + 1) r0.e wNull, r0.d, muE l (r0.i + 1 + 1) r0.e wNull, ofP 14 [r0.x]⟩) := by
  have HF := Lib.hid hf; clear hf
  have G1 := Lib.hid g1; clear g1
  have G2 := Lib.hid g2; clear g2
  have H := Lib.hid h; clear h
  have H0 := Lib.hid h0; clear h0
  have HT := Lib.hid hT; clear hT
  go_enter Try.func150, Try.ntmps150
  go_wp2_with (first
    | (((with_reducible refine gate_dst (N := 2) rfl ?_); refine box_event ?hg (N := 2) ?hd (cs := #[.int .i64 0, .string (⟨#[]⟩ : ByteArray), .string (⟨#[]⟩ : ByteArray), .int .i64 0, .int .i64 0, .int .i64 0, .int .i64 0, .string (⟨#[]⟩ : ByteArray), .slice none 0 0]) (t := 27) ?hr ?_; (case hd => rfl); (case hg => rfl); (case hr => first | (go_simp; done) | (go_simp; rfl)); intro gb6 hg_ w1 hb_ hl_; have BKgb6 := am_ hb_; have HLgb6 := am_ hl_; have HGgb6 := am_ (Nat.le_of_eq hg_.symm); obtain ⟨zgb6_0, zgb6_1, zgb6_2, zgb6_3, zgb6_4, zgb6_5, zgb6_6, zgb6_7, zgb6_8, ygb6_0, ygb6_1, ygb6_2, ygb6_3, ygb6_4, ygb6_5, ygb6_6, ygb6_7, ygb6_8⟩ := bw9_ hb_; clear hb_ hl_ hg_; simp only [Act.put, sa_, sz_, ss_]); have H1 := Lib.hid (H.out.below HLgb6.out); have HN := Lib.hid (ne_of_le H.out.lt HGgb6.out); clear zgb6_0 zgb6_1 zgb6_2 zgb6_3 zgb6_4 zgb6_5 zgb6_6 zgb6_7 zgb6_8 ygb6_0 ygb6_1 ygb6_2 ygb6_3 ygb6_4 ygb6_5 ygb6_6 ygb6_7 ygb6_8)
    | ((with_reducible refine gate_callee (f := 159) rfl ?_); refine goesL_ (some 8) rfl rfl Try.func159 (by kernel_rfl) rfl #[.pointer (some ⟨g, 0, none⟩)] rfl (by (try simp only [List.map_toArray, List.map_cons, List.map_nil]); first | done | rfl) ?_; refine (HT.out _ _ _ _ _ _ _ _ _ H1.out H0.out).mono ?_; rintro r' w2 ⟨vA, vc, rfl, h2, c2, t2⟩; refine ⟨_, rfl, ?_⟩; simp only [Act.put, sa_, sz_, ss_]; simp only [exV]; have H2 := Lib.hid h2; have C2 := Lib.hid c2; have T2 := Lib.hid t2; clear h2 c2 t2)
    | (((with_reducible refine gate_dst (N := 3) rfl ?_); refine box_event ?hg (N := 3) ?hd (cs := #[.int .i64 0, .string (⟨#[]⟩ : ByteArray), .string (⟨#[]⟩ : ByteArray), .int .i64 0, .int .i64 0, .int .i64 0, .int .i64 0, .string (⟨#[]⟩ : ByteArray), .slice none 0 0]) (t := 27) ?hr ?_; (case hd => rfl); (case hg => rfl); (case hr => first | (go_simp; done) | (go_simp; rfl)); intro gb7 hg_ w3 hb_ hl_; have BKgb7 := am_ hb_; have HLgb7 := am_ hl_; have HGgb7 := am_ (Nat.le_of_eq hg_.symm); obtain ⟨zgb7_0, zgb7_1, zgb7_2, zgb7_3, zgb7_4, zgb7_5, zgb7_6, zgb7_7, zgb7_8, ygb7_0, ygb7_1, ygb7_2, ygb7_3, ygb7_4, ygb7_5, ygb7_6, ygb7_7, ygb7_8⟩ := bw9_ hb_; clear hb_ hl_ hg_; simp only [Act.put, sa_, sz_, ss_]); have HN7 : Hid (g < gb7) := Lib.hid (Nat.lt_of_lt_of_le H2.out.lt HGgb7.out))
    | ((with_reducible refine gate_dst (N := 9) rfl ?_); refine litS6 (N' := 9) (g := g) ?hg ?hd ?hl ?hr ?_; (case hd => rfl); (case hg => rfl); (case hl => exact ((H2.out.below HLgb7.out).box chg9_ HN7.out).lt); (case hr => first | (go_simp; done) | (go_simp; rfl)); intro A9 c9 w9 s9 b9; have S9 := Lib.hid s9; have H9 := Lib.hid ((CS.start (H2.out.below HLgb7.out) (((Chg.below H.out.lt HLgb6.out).trans C2.out).trans (Chg.below H2.out.lt HLgb7.out)) (blk_below (C2.out.box BKgb6.out HN.out) HLgb7.out) BKgb7.out (start_tr BKgb6.out HGgb7.out HLgb6.out C2.out HLgb7.out T2.out) (Sg.nil _ _ _) H.out.lt HGgb6.out (Nat.lt_of_lt_of_le (blk_lt (C2.out.box BKgb6.out HN.out)) HGgb7.out)).below b9); clear s9 b9 zgb7_0 zgb7_1 zgb7_2 zgb7_3 zgb7_4 zgb7_5 zgb7_6 zgb7_7 zgb7_8 ygb7_0 ygb7_1 ygb7_2 ygb7_3 ygb7_4 ygb7_5 ygb7_6 ygb7_7 ygb7_8 BKgb6 BKgb7 HLgb6 HLgb7 HGgb6 HGgb7 H1 H2 C2 T2 HN7 HN; simp only [Act.put, sa_, sz_, ss_]))
  generalize w9.heap.size = b0 at S9
  obtain ⟨i, d, e, x⟩ := r0
  dsimp only at H9 HF G1 G2 ⊢
  go_loopg [11] 6 (fun kq v11 w' => ∃ (j : Int), v11 = .int .i64 j ∧ Aside0 (0 ≤ j ∧ j ≤ 6 ∧ kq = 6 - j.toNat) ∧ Aside0 (CS w g gb6 gb7 A c l none [] w' i d e x vA vc) ∧ Aside0 (Sg w' g b0 A9 six))
  case atStart => exact ⟨0, rfl, ⟨⟨Int.le_refl 0, by decide, by simp⟩⟩, ⟨H9.out⟩, ⟨S9.out⟩⟩
  case round =>
    clear H9 S9
    obtain ⟨j, rfl, HJ, HC, HS⟩ := hrel
    by_cases c1 : j < (6 : Int)
    · obtain ⟨ad, rfl, hc⟩ := HS.out.cell j HJ.out.1 c1
      have hj := eq_true HJ.out.1
      have c1b : decide (j < (6 : Int)) = true := decide_eq_true c1
      have c1c := eq_true c1
      have hm : isP l i e (rdOf ByteArray.empty six j) = false := by
        have := List.find?_eq_none.1 HF.out (rdOf ByteArray.empty six j) (rdOf_mem six j HJ.out.1 c1)
        simpa using this
      have HM1 := Lib.hid hm; clear hm
      have C2 := Lib.hid c1; clear c1
      go_wp2_with (first
        | ((with_reducible refine gate_callee (f := 121) rfl ?_); refine goesL_ (some 17) rfl rfl Try.func121 (by kernel_rfl) rfl #[.pointer (some ⟨g, 0, none⟩), .string (rdOf ByteArray.empty six j)] rfl (by (try simp only [List.map_toArray, List.map_cons, List.map_nil]); first | done | rfl) ?_; refine (take_no_st HC.out.st _ HM1.out).mono ?_; rintro r' w5 ⟨rfl, h5, c5⟩; refine ⟨_, rfl, ?_⟩; simp only [Act.put, sa_, sz_, ss_]; have H5 := Lib.hid (HC.out.chg c5 h5); have S5 := Lib.hid (HS.out.chg c5); clear h5 c5))
      have ⟨hj0, hj1, hj2⟩ := HJ.out; have hc2 := C2.out
      clear HJ hc
      go_roundg (6 - (j + 1).toNat)
      case measure => omega
      case rel => exact ⟨j + 1, by rw [show wrap64 (j + 1) = j + 1 from w64 _ (by omega)], ⟨⟨by omega, by omega, rfl⟩⟩, ⟨H5.out⟩, ⟨S5.out⟩⟩
    · have c1b : decide (j < (6 : Int)) = false := decide_eq_false c1
      clear HJ c1 HS HF
      go_wp2_with (first
        | ((with_reducible refine gate_callee (f := 121) rfl ?_); refine goesL_ (some 27) rfl rfl Try.func121 (by kernel_rfl) rfl #[.pointer (some ⟨g, 0, none⟩), .string wIs] rfl (by (try simp only [List.map_toArray, List.map_cons, List.map_nil]); first | done | rfl) ?_; refine (take_yes_st HC.out.st _ G1.out).mono ?_; rintro r' w5 ⟨rfl, h5, c5⟩; refine ⟨_, rfl, ?_⟩; simp only [Act.put, sa_, sz_, ss_]; have H5 := Lib.hid (HC.out.chg c5 h5); clear h5 c5 HC)
        | ((with_reducible refine gate_callee (f := 121) rfl ?_); refine goesL_ (some 31) rfl rfl Try.func121 (by kernel_rfl) rfl #[.pointer (some ⟨g, 0, none⟩), .string wNot] rfl (by (try simp only [List.map_toArray, List.map_cons, List.map_nil]); first | done | rfl) ?_; refine (take_yes_st H5.out.st _ G2.out).mono ?_; rintro r' w6 ⟨rfl, h5, c5⟩; refine ⟨_, rfl, ?_⟩; simp only [Act.put, sa_, sz_, ss_]; have H6 := Lib.hid (H5.out.chg c5 h5); clear h5 c5 H5)
        | ((with_reducible refine gate_callee (f := 160) rfl ?_); refine goesL_ (some 33) rfl rfl Try.func160 (by kernel_rfl) rfl #[.pointer (some ⟨g, 0, none⟩), .string wNull] rfl (by (try simp only [List.map_toArray, List.map_cons, List.map_nil]); first | done | rfl) ?_; refine (must_st H6.out.st _).mono ?_; rintro r' w7 ⟨rfl, h5, c5⟩; refine ⟨_, rfl, ?_⟩; simp only [Act.put, sa_, sz_, ss_]; have H7 := Lib.hid (H6.out.chg c5 h5); clear h5 c5 H6; obtain ⟨p0, p1, p2, p3, p4, p5, p6, p7, p8, q0, q1, q2, q3, q4, q5, q6, q7, q8⟩ := bw9_ H7.out.b6; obtain ⟨s0, s1, s2, s3, s4, s5, s6, s7, s8, t0, t1, t2, t3, t4, t5, t6, t7, t8⟩ := bw9_ H7.out.b7)
        | ((with_reducible refine gate_dst (N := 36) rfl ?_); refine lit1 (N' := 36) ?hg ?hd H7.out.tr ?hf ?hr ?_; (case hd => rfl); (case hg => rfl); (case hf => exact H7.out.fresh); (case hr => first | (go_simp; done) | (go_simp; rfl)); intro A8 c8 w8 v8 b8; have V8 := Lib.hid v8; have H8 := Lib.hid (H7.out.below b8); clear v8 b8 p0 p1 p2 p3 p4 p5 p6 p7 p8 q0 q1 q2 q3 q4 q5 q6 q7 q8 s0 s1 s2 s3 s4 s5 s6 s7 s8 t0 t1 t2 t3 t4 t5 t6 t7 t8; simp only [Act.put, sa_, sz_, ss_])
        | ((with_reducible refine gate_callee (f := 122) rfl ?_); refine goesL_ (some 37) rfl rfl Try.func122 (by kernel_rfl) rfl #[.int .i64 14, .slice A8 1 c8] rfl (by (try simp only [List.map_toArray, List.map_cons, List.map_nil]); first | done | rfl) ?_; refine (of_any 14 [x] (by simp) V8.out).mono ?_; rintro r' w9 ⟨zA, zc, rfl, t9, b9⟩; refine ⟨_, rfl, ?_⟩; simp only [Act.put, sa_, sz_, ss_]; simp only [exV, ofP]; have H9 := Lib.hid (H8.out.below b9); have T9 := Lib.hid (Tr.new H8.out t9); clear t9 b9; obtain ⟨p0, p1, p2, p3, p4, p5, p6, p7, p8, q0, q1, q2, q3, q4, q5, q6, q7, q8⟩ := bw9_ H9.out.b6; obtain ⟨s0, s1, s2, s3, s4, s5, s6, s7, s8, t0, t1, t2, t3, t4, t5, t6, t7, t8⟩ := bw9_ H9.out.b7))
      exact bodyPost_ret (results_cell_row rfl _ _ gb6 27 #[.int .i64 14, .string ⟨#[]⟩, .string ⟨#[]⟩, .int .i64 0, .int .i64 0, .int .i64 0, .int .i64 0, .string ⟨#[]⟩, .slice zA 1 zc] (0, 0) _ rfl (put9_ H9.out.b6) Try.underlying27 rfl (by kernel_rfl)) rfl (H9.out.done' T9.out)
theorem test_ok (k : Nat) (hT : GOK k .sum) : GOK (k + 1) .test := by
  intro w g A c l i d e r h hr
  simp only [pr] at hr
  obtain ⟨r0, h0, hr⟩ := Option.bind_eq_some_iff.1 hr
  change Calls Try.prog 150 _ _ _
  cases hf : six.find? (fun s => isP l r0.i r0.e s) with
  | some s =>
    rw [hf] at hr
    obtain ⟨r1, h1, hr⟩ := Option.bind_eq_some_iff.1 hr
    obtain rfl := Option.some.inj hr
    exact test_some hT h h0 hf h1
  | none =>
    rw [hf] at hr
    obtain rfl := Option.some.inj hr
    unfold tst
    cases g1 : isP l r0.i r0.e wIs with
    | false => rw [if_neg (by decide)]; exact test_no hT h h0 hf g1
    | true =>
      rw [if_pos rfl]
      cases g2 : isP l (r0.i + 1) r0.e wNot with
      | false => rw [if_neg (by decide)]; exact test_is hT h h0 hf g1 g2
      | true => rw [if_pos rfl]; exact test_isnt hT h h0 hf g1 g2
end Go.Proofs.Ytcfgjaggccnoaaa.PParseSmall
namespace Go.Proofs.Ytcfgjaggccnoaaa.PParseSmall
open Go.RowKit Go.Proofs.YtcfgjaggccnoaaaW.PrintWords Go.Proofs.YtcfgjaggccnoaaaW.PrintLast Go.Proofs.YtcfgjaggccnoaaaW.PrintMore
attribute [local go_sem] max2_int min2_int max_two min_two max_three min_three max_four min_four
set_option linter.unusedVariables false
set_option linter.unusedSimpArgs false
set_option maxRecDepth 100000
set_option maxHeartbeats 4000000
theorem chg4_ {gb : Nat} {W : World} {v0 v1 v2 v3 : Value} : Chg gb W ((((W.setCell ⟨gb, 0, none⟩ v0).setCell ⟨gb, 1, none⟩ v1).setCell ⟨gb, 2, none⟩ v2).setCell ⟨gb, 3, none⟩ v3) := ((((Chg.refl gb W).set 0 v0).set 1 v1).set 2 v2).set 3 v3
structure AS (w0 : World) (g g2 : Nat) (A : Option Addr) (c : Nat) (l : List S91) (w : World) (i d e : Int) : Prop where
  st : St w g A c l i d e
  ch : Chg g w0 w
  b2 : w.heap[g2]? = some (.cells #[.int .i64 0, .string ⟨#[]⟩, .string ⟨#[]⟩, .int .i64 0, .int .i64 0, .int .i64 0, .int .i64 0, .string ⟨#[]⟩, .slice none 0 0] 27 (0, 0))
  hg : g < w0.heap.size
  h2 : w0.heap.size ≤ g2
section
variable {w0 w w' : World} {g g2 g3 c vc : Nat} {A vA : Option Addr} {l : List S91} {i d e i' d' e' : Int} {x : S27}
theorem AS.chg (h : AS w0 g g2 A c l w i d e) (k : Chg g w w') (st : St w' g A c l i' d' e') : AS w0 g g2 A c l w' i' d' e' :=
  have hg := h.hg; have h2 := h.h2
  ⟨st, h.ch.trans k, k.box h.b2 (by omega), hg, h2⟩
theorem AS.below (h : AS w0 g g2 A c l w i d e) (k : Below w.heap.size w w') : AS w0 g g2 A c l w' i d e := h.chg (Chg.below h.st.lt k) (h.st.below k)
theorem AS.own (h : AS w0 g g2 A c l w i d e) (k : Chg g3 w w') (h3 : g2 < g3) : AS w0 g g2 A c l w' i d e :=
  have hg := h.hg; have h2 := h.h2
  ⟨h.st.box k (by omega), h.ch.own k (by omega) (by omega), k.box h.b2 (by omega), hg, h2⟩
theorem AS.at1 (h : AS w0 g g2 A c l w i d e) (hi : i < l.length) : AS w0 g g2 A c l (w.setCell ⟨g, 1, none⟩ (.int .i64 (wrap64 (i + 1)))) (i + 1) d e := by
  have h0 := h.st.i0; have hl := h.st.hl
  rw [w64 _ (by omega)]
  exact h.chg ((Chg.refl g w).set 1 _) (h.st.go ((Chg.refl g w).set 1 _) (h.st.ps.at_ _) (by omega) (by omega))
theorem AS.done (h : AS w0 g g2 A c l w i d e) (t : Tr w (fun k => w0.heap.size ≤ k ∧ k ≠ g2) x vA vc) {v0 v1 v2 v3 v4 v5 v6 v7 v8 : Value} : Done w0 g A c l ⟨i, d, e, x⟩ (.returned (exV x vA vc)) (((((((((w.setCell ⟨g2, 0, none⟩ v0).setCell ⟨g2, 1, none⟩ v1).setCell ⟨g2, 2, none⟩ v2).setCell ⟨g2, 3, none⟩ v3).setCell ⟨g2, 4, none⟩ v4).setCell ⟨g2, 5, none⟩ v5).setCell ⟨g2, 6, none⟩ v6).setCell ⟨g2, 7, none⟩ v7).setCell ⟨g2, 8, none⟩ v8) :=
  have hg := h.hg; have h2 := h.h2
  ⟨vA, vc, rfl, h.st.box chg9_ (by omega), h.ch.own chg9_ h2 (by omega), (t.chg chg9_ (fun q => q.2 rfl)).mono fun _ _ q => q.1⟩
theorem AS.aft (h : AS w0 g g2 A c l w i d e) {W : World} (t : Tr W (fun k => w.heap.size ≤ k) x vA vc) : Tr W (fun k => w0.heap.size ≤ k ∧ k ≠ g2) x vA vc :=
  t.mono fun k _ hk => by
    have h1 := blk_lt h.b2; have h3 := h.ch.size
    exact ⟨by omega, by omega⟩
end
theorem op_tr {w0 W W1 : World} {g2 gb4 : Nat} {x : S27} {vA : Option Addr} {vc : Nat} (t : Tr W (fun k => w0.heap.size ≤ k ∧ k ≠ g2) x vA vc) (h4 : W.heap.size ≤ gb4) (b : Below W.heap.size W W1) : Tr W1 (fun k => w0.heap.size ≤ k ∧ k ≠ g2 ∧ k ≠ gb4) x vA vc :=
  (t.mono fun k hk hq => ⟨hq.1, hq.2, by omega⟩).below b
theorem op_ne {w0 W : World} {g g2 gb4 c : Nat} {A : Option Addr} {l : List S91} {i d e : Int} (h : AS w0 g g2 A c l W i d e) (h4 : g2 < gb4) : gb4 ≠ g := by
  have hg := h.hg; have h2 := h.h2
  omega
theorem atom_int {w : World} {g : Nat} {A : Option Addr} {c : Nat} {l : List S91} {i d e : Int} (h : St w g A c l i d e) {s : ByteArray} {n q : Int} (ht : tokP l i e = ⟨3, s, n, q⟩) :
    Calls Try.prog 179 #[.pointer (some ⟨g, 0, none⟩)] w (Done w g A c l ⟨i + 1, d, e, valP 1 n ⟨#[]⟩⟩) := by
  have TL := Lib.hid (tok_le l i e (by rw [ht]; exact (by decide : (3 : Int) ≠ 0))).2
  have H := Lib.hid h; clear h
  have TK := Lib.hid ht; clear ht
  go_enter_defers Try.func179, Try.ntmps179
  go_wp2_with (first
    | (((with_reducible refine gate_dst (N := 2) rfl ?_); refine box_event ?hg (N := 2) ?hd (cs := #[.int .i64 0, .string (⟨#[]⟩ : ByteArray), .string (⟨#[]⟩ : ByteArray), .int .i64 0, .int .i64 0, .int .i64 0, .int .i64 0, .string (⟨#[]⟩ : ByteArray), .slice none 0 0]) (t := 27) ?hr ?_; (case hd => rfl); (case hg => rfl); (case hr => first | (go_simp; done) | (go_simp; rfl)); intro gb2 hg_ w1 hb_ hl_; have BKgb2 := am_ hb_; have HLgb2 := am_ hl_; have HGgb2 := am_ (Nat.le_of_eq hg_.symm); obtain ⟨zgb2_0, zgb2_1, zgb2_2, zgb2_3, zgb2_4, zgb2_5, zgb2_6, zgb2_7, zgb2_8, ygb2_0, ygb2_1, ygb2_2, ygb2_3, ygb2_4, ygb2_5, ygb2_6, ygb2_7, ygb2_8⟩ := bw9_ hb_; clear hb_ hl_ hg_; simp only [Act.put, sa_, sz_, ss_]); have H1 := Lib.hid ((⟨H.out.below HLgb2.out, Chg.below H.out.lt HLgb2.out, BKgb2.out, H.out.lt, HGgb2.out⟩ : AS w g gb2 A c l w1 i d e)); clear BKgb2 HLgb2 HGgb2 zgb2_0 zgb2_1 zgb2_2 zgb2_3 zgb2_4 zgb2_5 zgb2_6 zgb2_7 zgb2_8 ygb2_0 ygb2_1 ygb2_2 ygb2_3 ygb2_4 ygb2_5 ygb2_6 ygb2_7 ygb2_8)
    | ((with_reducible refine gate_callee (f := 81) rfl ?_); refine goesL_ (some 6) rfl rfl Try.func81 (by kernel_rfl) rfl #[.pointer (some ⟨g, 0, none⟩)] rfl (by (try simp only [List.map_toArray, List.map_cons, List.map_nil]); first | done | rfl) ?_; refine (tok_st H1.out.st _ TK.out).mono ?_; rintro r' w2 ⟨rfl, h2, b2⟩; refine ⟨_, rfl, ?_⟩; simp only [Act.put, sa_, sz_, ss_]; have H2 := Lib.hid (H1.out.below b2); clear h2 b2 H1)
    | (((with_reducible refine gate_dst (N := 3) rfl ?_); refine box_event ?hg (N := 3) ?hd (cs := #[.int .i64 0, .string (⟨#[]⟩ : ByteArray), .int .i64 0, .int .i64 0]) (t := 91) ?hr ?_; (case hd => rfl); (case hg => rfl); (case hr => first | (go_simp; done) | (go_simp; rfl)); intro gb3 hg_ w3 hb_ hl_; have BKgb3 := am_ hb_; have HLgb3 := am_ hl_; have HGgb3 := am_ (Nat.le_of_eq hg_.symm); obtain ⟨zgb3_0, zgb3_1, zgb3_2, zgb3_3, ygb3_0, ygb3_1, ygb3_2, ygb3_3⟩ := bw4_ hb_; clear hb_ hl_ hg_; simp only [Act.put, sa_, sz_, ss_]); have H3 := Lib.hid (H2.out.below HLgb3.out); have h23 := Nat.lt_of_lt_of_le (blk_lt H2.out.b2) HGgb3.out; have H23 := Lib.hid h23; have N1 : gb3 ≠ g := ne_of_le H2.out.st.lt HGgb3.out; have N2 := N1.symm; have N3 : gb3 ≠ gb2 := Nat.ne_of_gt h23; have N4 := N3.symm; clear h23 H2; obtain ⟨c0, c1, c2, c3, f0, f1, f2, f3⟩ := bw4_ H3.out.st.ps; obtain ⟨p0, p1, p2, p3, p4, p5, p6, p7, p8, q0, q1, q2, q3, q4, q5, q6, q7, q8⟩ := bw9_ H3.out.b2)
    | ((with_reducible refine gate_callee (f := 188) rfl ?_); refine goesL_ (some 20) rfl rfl Try.func188 (by kernel_rfl) rfl #[.int .i64 n] rfl (by (try simp only [List.map_toArray, List.map_cons, List.map_nil]); first | done | rfl) ?_; refine (val_Int.calls n _ _ _ _ rfl).mono ?_; rintro r' w4 ⟨rfl, b4⟩; refine ⟨_, rfl, ?_⟩; simp only [Act.put, sa_, sz_, ss_]; have H4 := Lib.hid (((H3.out.own chg4_ H23.out).at1 TL.out).below b4); clear b4 H3)
    | ((with_reducible refine gate_callee (f := 187) rfl ?_); refine goesL_ (some 21) rfl rfl Try.func187 (by kernel_rfl) rfl #[.agg #[.int .i64 1, .int .i64 n, .string ⟨#[]⟩]] rfl (by (try simp only [List.map_toArray, List.map_cons, List.map_nil]); first | done | rfl) ?_; refine (val_any 1 n ⟨#[]⟩ w4).mono ?_; rintro r' w5 ⟨zA, zc, rfl, t5, b5⟩; refine ⟨_, rfl, ?_⟩; simp only [Act.put, sa_, sz_, ss_]; simp only [exV, valP, List.length_nil]; have H5 := Lib.hid (H4.out.below b5); have T5 := Lib.hid t5; clear b5 t5 H4 p0 p1 p2 p3 p4 p5 p6 p7 p8 q0 q1 q2 q3 q4 q5 q6 q7 q8; obtain ⟨p0, p1, p2, p3, p4, p5, p6, p7, p8, q0, q1, q2, q3, q4, q5, q6, q7, q8⟩ := bw9_ H5.out.b2))
  refine ⟨_, results_cell_row rfl _ _ gb2 27 #[.int .i64 16, .string ⟨#[]⟩, .string ⟨#[]⟩, .int .i64 0, .int .i64 0, .int .i64 1, .int .i64 n, .string ⟨#[]⟩, .slice zA 0 zc] (0, 0) _ rfl (put9_ H5.out.b2) Try.underlying27 rfl (by kernel_rfl), H5.out.done (T5.out _ _)⟩
theorem atom_txt {w : World} {g : Nat} {A : Option Addr} {c : Nat} {l : List S91} {i d e : Int} (h : St w g A c l i d e) {s : ByteArray} {n q : Int} (ht : tokP l i e = ⟨4, s, n, q⟩) (hv : val_Text.f s = some (2, 0, s)) :
    Calls Try.prog 179 #[.pointer (some ⟨g, 0, none⟩)] w (Done w g A c l ⟨i + 1, d, e, valP 2 0 s⟩) := by
  have HV := Lib.hid hv; clear hv
  have TL := Lib.hid (tok_le l i e (by rw [ht]; exact (by decide : (4 : Int) ≠ 0))).2
  have H := Lib.hid h; clear h
  have TK := Lib.hid ht; clear ht
  go_enter_defers Try.func179, Try.ntmps179
  go_wp2_with (first
    | (((with_reducible refine gate_dst (N := 2) rfl ?_); refine box_event ?hg (N := 2) ?hd (cs := #[.int .i64 0, .string (⟨#[]⟩ : ByteArray), .string (⟨#[]⟩ : ByteArray), .int .i64 0, .int .i64 0, .int .i64 0, .int .i64 0, .string (⟨#[]⟩ : ByteArray), .slice none 0 0]) (t := 27) ?hr ?_; (case hd => rfl); (case hg => rfl); (case hr => first | (go_simp; done) | (go_simp; rfl)); intro gb2 hg_ w1 hb_ hl_; have BKgb2 := am_ hb_; have HLgb2 := am_ hl_; have HGgb2 := am_ (Nat.le_of_eq hg_.symm); obtain ⟨zgb2_0, zgb2_1, zgb2_2, zgb2_3, zgb2_4, zgb2_5, zgb2_6, zgb2_7, zgb2_8, ygb2_0, ygb2_1, ygb2_2, ygb2_3, ygb2_4, ygb2_5, ygb2_6, ygb2_7, ygb2_8⟩ := bw9_ hb_; clear hb_ hl_ hg_; simp only [Act.put, sa_, sz_, ss_]); have H1 := Lib.hid ((⟨H.out.below HLgb2.out, Chg.below H.out.lt HLgb2.out, BKgb2.out, H.out.lt, HGgb2.out⟩ : AS w g gb2 A c l w1 i d e)); clear BKgb2 HLgb2 HGgb2 zgb2_0 zgb2_1 zgb2_2 zgb2_3 zgb2_4 zgb2_5 zgb2_6 zgb2_7 zgb2_8 ygb2_0 ygb2_1 ygb2_2 ygb2_3 ygb2_4 ygb2_5 ygb2_6 ygb2_7 ygb2_8)
    | ((with_reducible refine gate_callee (f := 81) rfl ?_); refine goesL_ (some 6) rfl rfl Try.func81 (by kernel_rfl) rfl #[.pointer (some ⟨g, 0, none⟩)] rfl (by (try simp only [List.map_toArray, List.map_cons, List.map_nil]); first | done | rfl) ?_; refine (tok_st H1.out.st _ TK.out).mono ?_; rintro r' w2 ⟨rfl, h2, b2⟩; refine ⟨_, rfl, ?_⟩; simp only [Act.put, sa_, sz_, ss_]; have H2 := Lib.hid (H1.out.below b2); clear h2 b2 H1)
    | (((with_reducible refine gate_dst (N := 3) rfl ?_); refine box_event ?hg (N := 3) ?hd (cs := #[.int .i64 0, .string (⟨#[]⟩ : ByteArray), .int .i64 0, .int .i64 0]) (t := 91) ?hr ?_; (case hd => rfl); (case hg => rfl); (case hr => first | (go_simp; done) | (go_simp; rfl)); intro gb3 hg_ w3 hb_ hl_; have BKgb3 := am_ hb_; have HLgb3 := am_ hl_; have HGgb3 := am_ (Nat.le_of_eq hg_.symm); obtain ⟨zgb3_0, zgb3_1, zgb3_2, zgb3_3, ygb3_0, ygb3_1, ygb3_2, ygb3_3⟩ := bw4_ hb_; clear hb_ hl_ hg_; simp only [Act.put, sa_, sz_, ss_]); have H3 := Lib.hid (H2.out.below HLgb3.out); have h23 := Nat.lt_of_lt_of_le (blk_lt H2.out.b2) HGgb3.out; have H23 := Lib.hid h23; have N1 : gb3 ≠ g := ne_of_le H2.out.st.lt HGgb3.out; have N2 := N1.symm; have N3 : gb3 ≠ gb2 := Nat.ne_of_gt h23; have N4 := N3.symm; clear h23 H2; obtain ⟨c0, c1, c2, c3, f0, f1, f2, f3⟩ := bw4_ H3.out.st.ps; obtain ⟨p0, p1, p2, p3, p4, p5, p6, p7, p8, q0, q1, q2, q3, q4, q5, q6, q7, q8⟩ := bw9_ H3.out.b2)
    | ((with_reducible refine gate_callee (f := 189) rfl ?_); refine goesL_ (some 35) rfl rfl Try.func189 (by kernel_rfl) rfl #[.string s] rfl (by (try simp only [List.map_toArray, List.map_cons, List.map_nil]); first | done | rfl) ?_; refine (val_Text.calls s _ _ _ _ HV.out).mono ?_; rintro r' w4 ⟨rfl, b4⟩; refine ⟨_, rfl, ?_⟩; simp only [Act.put, sa_, sz_, ss_]; have H4 := Lib.hid (((H3.out.own chg4_ H23.out).at1 TL.out).below b4); clear b4 H3)
    | ((with_reducible refine gate_callee (f := 187) rfl ?_); refine goesL_ (some 36) rfl rfl Try.func187 (by kernel_rfl) rfl #[.agg #[.int .i64 2, .int .i64 0, .string s]] rfl (by (try simp only [List.map_toArray, List.map_cons, List.map_nil]); first | done | rfl) ?_; refine (val_any 2 0 s w4).mono ?_; rintro r' w5 ⟨zA, zc, rfl, t5, b5⟩; refine ⟨_, rfl, ?_⟩; simp only [Act.put, sa_, sz_, ss_]; simp only [exV, valP, List.length_nil]; have H5 := Lib.hid (H4.out.below b5); have T5 := Lib.hid t5; clear b5 t5 H4 p0 p1 p2 p3 p4 p5 p6 p7 p8 q0 q1 q2 q3 q4 q5 q6 q7 q8; obtain ⟨p0, p1, p2, p3, p4, p5, p6, p7, p8, q0, q1, q2, q3, q4, q5, q6, q7, q8⟩ := bw9_ H5.out.b2))
  refine ⟨_, results_cell_row rfl _ _ gb2 27 #[.int .i64 16, .string ⟨#[]⟩, .string ⟨#[]⟩, .int .i64 0, .int .i64 0, .int .i64 2, .int .i64 0, .string s, .slice zA 0 zc] (0, 0) _ rfl (put9_ H5.out.b2) Try.underlying27 rfl (by kernel_rfl), H5.out.done (T5.out _ _)⟩
theorem atom_big {w : World} {g : Nat} {A : Option Addr} {c : Nat} {l : List S91} {i d e : Int} (h : St w g A c l i d e) {s : ByteArray} {n q : Int} (ht : tokP l i e = ⟨4, s, n, q⟩) (hv : val_Text.f s = some (0, 0, ⟨#[]⟩)) :
    Calls Try.prog 179 #[.pointer (some ⟨g, 0, none⟩)] w (Done w g A c l ⟨i + 1, d, e, valP 0 0 ⟨#[]⟩⟩) := by
  have HV := Lib.hid hv; clear hv
  have TL := Lib.hid (tok_le l i e (by rw [ht]; exact (by decide : (4 : Int) ≠ 0))).2
  have H := Lib.hid h; clear h
  have TK := Lib.hid ht; clear ht
  go_enter_defers Try.func179, Try.ntmps179
  go_wp2_with (first
    | (((with_reducible refine gate_dst (N := 2) rfl ?_); refine box_event ?hg (N := 2) ?hd (cs := #[.int .i64 0, .string (⟨#[]⟩ : ByteArray), .string (⟨#[]⟩ : ByteArray), .int .i64 0, .int .i64 0, .int .i64 0, .int .i64 0, .string (⟨#[]⟩ : ByteArray), .slice none 0 0]) (t := 27) ?hr ?_; (case hd => rfl); (case hg => rfl); (case hr => first | (go_simp; done) | (go_simp; rfl)); intro gb2 hg_ w1 hb_ hl_; have BKgb2 := am_ hb_; have HLgb2 := am_ hl_; have HGgb2 := am_ (Nat.le_of_eq hg_.symm); obtain ⟨zgb2_0, zgb2_1, zgb2_2, zgb2_3, zgb2_4, zgb2_5, zgb2_6, zgb2_7, zgb2_8, ygb2_0, ygb2_1, ygb2_2, ygb2_3, ygb2_4, ygb2_5, ygb2_6, ygb2_7, ygb2_8⟩ := bw9_ hb_; clear hb_ hl_ hg_; simp only [Act.put, sa_, sz_, ss_]); have H1 := Lib.hid ((⟨H.out.below HLgb2.out, Chg.below H.out.lt HLgb2.out, BKgb2.out, H.out.lt, HGgb2.out⟩ : AS w g gb2 A c l w1 i d e)); clear BKgb2 HLgb2 HGgb2 zgb2_0 zgb2_1 zgb2_2 zgb2_3 zgb2_4 zgb2_5 zgb2_6 zgb2_7 zgb2_8 ygb2_0 ygb2_1 ygb2_2 ygb2_3 ygb2_4 ygb2_5 ygb2_6 ygb2_7 ygb2_8)
    | ((with_reducible refine gate_callee (f := 81) rfl ?_); refine goesL_ (some 6) rfl rfl Try.func81 (by kernel_rfl) rfl #[.pointer (some ⟨g, 0, none⟩)] rfl (by (try simp only [List.map_toArray, List.map_cons, List.map_nil]); first | done | rfl) ?_; refine (tok_st H1.out.st _ TK.out).mono ?_; rintro r' w2 ⟨rfl, h2, b2⟩; refine ⟨_, rfl, ?_⟩; simp only [Act.put, sa_, sz_, ss_]; have H2 := Lib.hid (H1.out.below b2); clear h2 b2 H1)
    | (((with_reducible refine gate_dst (N := 3) rfl ?_); refine box_event ?hg (N := 3) ?hd (cs := #[.int .i64 0, .string (⟨#[]⟩ : ByteArray), .int .i64 0, .int .i64 0]) (t := 91) ?hr ?_; (case hd => rfl); (case hg => rfl); (case hr => first | (go_simp; done) | (go_simp; rfl)); intro gb3 hg_ w3 hb_ hl_; have BKgb3 := am_ hb_; have HLgb3 := am_ hl_; have HGgb3 := am_ (Nat.le_of_eq hg_.symm); obtain ⟨zgb3_0, zgb3_1, zgb3_2, zgb3_3, ygb3_0, ygb3_1, ygb3_2, ygb3_3⟩ := bw4_ hb_; clear hb_ hl_ hg_; simp only [Act.put, sa_, sz_, ss_]); have H3 := Lib.hid (H2.out.below HLgb3.out); have h23 := Nat.lt_of_lt_of_le (blk_lt H2.out.b2) HGgb3.out; have H23 := Lib.hid h23; have N1 : gb3 ≠ g := ne_of_le H2.out.st.lt HGgb3.out; have N2 := N1.symm; have N3 : gb3 ≠ gb2 := Nat.ne_of_gt h23; have N4 := N3.symm; clear h23 H2; obtain ⟨c0, c1, c2, c3, f0, f1, f2, f3⟩ := bw4_ H3.out.st.ps; obtain ⟨p0, p1, p2, p3, p4, p5, p6, p7, p8, q0, q1, q2, q3, q4, q5, q6, q7, q8⟩ := bw9_ H3.out.b2)
    | ((with_reducible refine gate_callee (f := 189) rfl ?_); refine goesL_ (some 35) rfl rfl Try.func189 (by kernel_rfl) rfl #[.string s] rfl (by (try simp only [List.map_toArray, List.map_cons, List.map_nil]); first | done | rfl) ?_; refine (val_Text.calls s _ _ _ _ HV.out).mono ?_; rintro r' w4 ⟨rfl, b4⟩; refine ⟨_, rfl, ?_⟩; simp only [Act.put, sa_, sz_, ss_]; have H4 := Lib.hid (((H3.out.own chg4_ H23.out).at1 TL.out).below b4); clear b4 H3)
    | ((with_reducible refine gate_callee (f := 187) rfl ?_); refine goesL_ (some 36) rfl rfl Try.func187 (by kernel_rfl) rfl #[.agg #[.int .i64 0, .int .i64 0, .string ⟨#[]⟩]] rfl (by (try simp only [List.map_toArray, List.map_cons, List.map_nil]); first | done | rfl) ?_; refine (val_any 0 0 ⟨#[]⟩ w4).mono ?_; rintro r' w5 ⟨zA, zc, rfl, t5, b5⟩; refine ⟨_, rfl, ?_⟩; simp only [Act.put, sa_, sz_, ss_]; simp only [exV, valP, List.length_nil]; have H5 := Lib.hid (H4.out.below b5); have T5 := Lib.hid t5; clear b5 t5 H4 p0 p1 p2 p3 p4 p5 p6 p7 p8 q0 q1 q2 q3 q4 q5 q6 q7 q8; obtain ⟨p0, p1, p2, p3, p4, p5, p6, p7, p8, q0, q1, q2, q3, q4, q5, q6, q7, q8⟩ := bw9_ H5.out.b2))
  refine ⟨_, results_cell_row rfl _ _ gb2 27 #[.int .i64 16, .string ⟨#[]⟩, .string ⟨#[]⟩, .int .i64 0, .int .i64 0, .int .i64 0, .int .i64 0, .string ⟨#[]⟩, .slice zA 0 zc] (0, 0) _ rfl (put9_ H5.out.b2) Try.underlying27 rfl (by kernel_rfl), H5.out.done (T5.out _ _)⟩
theorem atom_null {w : World} {g : Nat} {A : Option Addr} {c : Nat} {l : List S91} {i d e : Int} (h : St w g A c l i d e) {t0 n q : Int} {s : ByteArray} (ht : tokP l i e = ⟨t0, s, n, q⟩) (n3 : t0 ≠ 3) (n4 : t0 ≠ 4) (g1 : isP l i e wNull = true) :
    Calls Try.prog 179 #[.pointer (some ⟨g, 0, none⟩)] w (Done w g A c l ⟨i + 1, d, e, valP 0 0 ⟨#[]⟩⟩) := by
  have e3 : (t0 == 3) = false := beq_eq_false_iff_ne.2 n3
  have e4 : (t0 == 4) = false := beq_eq_false_iff_ne.2 n4
  clear n3 n4
  have G1 := Lib.hid g1; clear g1
  have H := Lib.hid h; clear h
  have TK := Lib.hid ht; clear ht
  go_enter_defers Try.func179, Try.ntmps179
  go_wp2_with (first
    | (((with_reducible refine gate_dst (N := 2) rfl ?_); refine box_event ?hg (N := 2) ?hd (cs := #[.int .i64 0, .string (⟨#[]⟩ : ByteArray), .string (⟨#[]⟩ : ByteArray), .int .i64 0, .int .i64 0, .int .i64 0, .int .i64 0, .string (⟨#[]⟩ : ByteArray), .slice none 0 0]) (t := 27) ?hr ?_; (case hd => rfl); (case hg => rfl); (case hr => first | (go_simp; done) | (go_simp; rfl)); intro gb2 hg_ w1 hb_ hl_; have BKgb2 := am_ hb_; have HLgb2 := am_ hl_; have HGgb2 := am_ (Nat.le_of_eq hg_.symm); obtain ⟨zgb2_0, zgb2_1, zgb2_2, zgb2_3, zgb2_4, zgb2_5, zgb2_6, zgb2_7, zgb2_8, ygb2_0, ygb2_1, ygb2_2, ygb2_3, ygb2_4, ygb2_5, ygb2_6, ygb2_7, ygb2_8⟩ := bw9_ hb_; clear hb_ hl_ hg_; simp only [Act.put, sa_, sz_, ss_]); have H1 := Lib.hid ((⟨H.out.below HLgb2.out, Chg.below H.out.lt HLgb2.out, BKgb2.out, H.out.lt, HGgb2.out⟩ : AS w g gb2 A c l w1 i d e)); clear BKgb2 HLgb2 HGgb2 zgb2_0 zgb2_1 zgb2_2 zgb2_3 zgb2_4 zgb2_5 zgb2_6 zgb2_7 zgb2_8 ygb2_0 ygb2_1 ygb2_2 ygb2_3 ygb2_4 ygb2_5 ygb2_6 ygb2_7 ygb2_8)
    | ((with_reducible refine gate_callee (f := 81) rfl ?_); refine goesL_ (some 6) rfl rfl Try.func81 (by kernel_rfl) rfl #[.pointer (some ⟨g, 0, none⟩)] rfl (by (try simp only [List.map_toArray, List.map_cons, List.map_nil]); first | done | rfl) ?_; refine (tok_st H1.out.st _ TK.out).mono ?_; rintro r' w2 ⟨rfl, h2, b2⟩; refine ⟨_, rfl, ?_⟩; simp only [Act.put, sa_, sz_, ss_]; have H2 := Lib.hid (H1.out.below b2); clear h2 b2 H1)
    | (((with_reducible refine gate_dst (N := 3) rfl ?_); refine box_event ?hg (N := 3) ?hd (cs := #[.int .i64 0, .string (⟨#[]⟩ : ByteArray), .int .i64 0, .int .i64 0]) (t := 91) ?hr ?_; (case hd => rfl); (case hg => rfl); (case hr => first | (go_simp; done) | (go_simp; rfl)); intro gb3 hg_ w3 hb_ hl_; have BKgb3 := am_ hb_; have HLgb3 := am_ hl_; have HGgb3 := am_ (Nat.le_of_eq hg_.symm); obtain ⟨zgb3_0, zgb3_1, zgb3_2, zgb3_3, ygb3_0, ygb3_1, ygb3_2, ygb3_3⟩ := bw4_ hb_; clear hb_ hl_ hg_; simp only [Act.put, sa_, sz_, ss_]); have H3 := Lib.hid (H2.out.below HLgb3.out); have h23 := Nat.lt_of_lt_of_le (blk_lt H2.out.b2) HGgb3.out; have H23 := Lib.hid h23; have N1 : gb3 ≠ g := ne_of_le H2.out.st.lt HGgb3.out; have N2 := N1.symm; have N3 : gb3 ≠ gb2 := Nat.ne_of_gt h23; have N4 := N3.symm; clear h23 H2; obtain ⟨c0, c1, c2, c3, f0, f1, f2, f3⟩ := bw4_ H3.out.st.ps; obtain ⟨p0, p1, p2, p3, p4, p5, p6, p7, p8, q0, q1, q2, q3, q4, q5, q6, q7, q8⟩ := bw9_ H3.out.b2)
    | ((with_reducible refine gate_callee (f := 121) rfl ?_); refine goesL_ (some 39) rfl rfl Try.func121 (by kernel_rfl) rfl #[.pointer (some ⟨g, 0, none⟩), .string wNull] rfl (by (try simp only [List.map_toArray, List.map_cons, List.map_nil]); first | done | rfl) ?_; refine (take_yes_st (H3.out.own chg4_ H23.out).st _ G1.out).mono ?_; rintro r' w4 ⟨rfl, h4, c4⟩; refine ⟨_, rfl, ?_⟩; simp only [Act.put, sa_, sz_, ss_]; have H4 := Lib.hid ((H3.out.own chg4_ H23.out).chg c4 h4); clear h4 c4 H3)
    | ((with_reducible refine gate_callee (f := 190) rfl ?_); refine goesL_ (some 40) rfl rfl Try.func190 (by kernel_rfl) rfl #[] rfl (by (try simp only [List.map_toArray, List.map_cons, List.map_nil]); first | done | rfl) ?_; refine (val_Null.calls _ _ _ _ rfl).mono ?_; rintro r' w5 ⟨rfl, b5⟩; refine ⟨_, rfl, ?_⟩; simp only [Act.put, sa_, sz_, ss_]; have H5 := Lib.hid (H4.out.below b5); clear b5 H4)
    | ((with_reducible refine gate_callee (f := 187) rfl ?_); refine goesL_ (some 41) rfl rfl Try.func187 (by kernel_rfl) rfl #[.agg #[.int .i64 0, .int .i64 0, .string ⟨#[]⟩]] rfl (by (try simp only [List.map_toArray, List.map_cons, List.map_nil]); first | done | rfl) ?_; refine (val_any 0 0 ⟨#[]⟩ w5).mono ?_; rintro r' w6 ⟨zA, zc, rfl, t6, b6⟩; refine ⟨_, rfl, ?_⟩; simp only [Act.put, sa_, sz_, ss_]; simp only [exV, valP, List.length_nil]; have H6 := Lib.hid (H5.out.below b6); have T6 := Lib.hid t6; clear b6 t6 H5 p0 p1 p2 p3 p4 p5 p6 p7 p8 q0 q1 q2 q3 q4 q5 q6 q7 q8; obtain ⟨p0, p1, p2, p3, p4, p5, p6, p7, p8, q0, q1, q2, q3, q4, q5, q6, q7, q8⟩ := bw9_ H6.out.b2))
  refine ⟨_, results_cell_row rfl _ _ gb2 27 #[.int .i64 16, .string ⟨#[]⟩, .string ⟨#[]⟩, .int .i64 0, .int .i64 0, .int .i64 0, .int .i64 0, .string ⟨#[]⟩, .slice zA 0 zc] (0, 0) _ rfl (put9_ H6.out.b2) Try.underlying27 rfl (by kernel_rfl), H6.out.done (T6.out _ _)⟩
theorem atom_col {w : World} {g : Nat} {A : Option Addr} {c : Nat} {l : List S91} {i d e : Int} (h : St w g A c l i d e) {t0 n q : Int} {s : ByteArray} (ht : tokP l i e = ⟨t0, s, n, q⟩) (n3 : t0 ≠ 3) (n4 : t0 ≠ 4) (g1 : isP l i e wNull = false) (g2 : isP l i e wOpen = false) :
    Calls Try.prog 179 #[.pointer (some ⟨g, 0, none⟩)] w (Done w g A c l ⟨coI l i e, d, coE l i e, coX l i e⟩) := by
  have e3 : (t0 == 3) = false := beq_eq_false_iff_ne.2 n3
  have e4 : (t0 == 4) = false := beq_eq_false_iff_ne.2 n4
  clear n3 n4
  have G1 := Lib.hid g1; clear g1
  have G2 := Lib.hid g2; clear g2
  generalize hx : coX l i e = x
  have H := Lib.hid h; clear h
  have TK := Lib.hid ht; clear ht
  go_enter_defers Try.func179, Try.ntmps179
  go_wp2_with (first
    | (((with_reducible refine gate_dst (N := 2) rfl ?_); refine box_event ?hg (N := 2) ?hd (cs := #[.int .i64 0, .string (⟨#[]⟩ : ByteArray), .string (⟨#[]⟩ : ByteArray), .int .i64 0, .int .i64 0, .int .i64 0, .int .i64 0, .string (⟨#[]⟩ : ByteArray), .slice none 0 0]) (t := 27) ?hr ?_; (case hd => rfl); (case hg => rfl); (case hr => first | (go_simp; done) | (go_simp; rfl)); intro gb2 hg_ w1 hb_ hl_; have BKgb2 := am_ hb_; have HLgb2 := am_ hl_; have HGgb2 := am_ (Nat.le_of_eq hg_.symm); obtain ⟨zgb2_0, zgb2_1, zgb2_2, zgb2_3, zgb2_4, zgb2_5, zgb2_6, zgb2_7, zgb2_8, ygb2_0, ygb2_1, ygb2_2, ygb2_3, ygb2_4, ygb2_5, ygb2_6, ygb2_7, ygb2_8⟩ := bw9_ hb_; clear hb_ hl_ hg_; simp only [Act.put, sa_, sz_, ss_]); have H1 := Lib.hid ((⟨H.out.below HLgb2.out, Chg.below H.out.lt HLgb2.out, BKgb2.out, H.out.lt, HGgb2.out⟩ : AS w g gb2 A c l w1 i d e)); clear BKgb2 HLgb2 HGgb2 zgb2_0 zgb2_1 zgb2_2 zgb2_3 zgb2_4 zgb2_5 zgb2_6 zgb2_7 zgb2_8 ygb2_0 ygb2_1 ygb2_2 ygb2_3 ygb2_4 ygb2_5 ygb2_6 ygb2_7 ygb2_8)
    | ((with_reducible refine gate_callee (f := 81) rfl ?_); refine goesL_ (some 6) rfl rfl Try.func81 (by kernel_rfl) rfl #[.pointer (some ⟨g, 0, none⟩)] rfl (by (try simp only [List.map_toArray, List.map_cons, List.map_nil]); first | done | rfl) ?_; refine (tok_st H1.out.st _ TK.out).mono ?_; rintro r' w2 ⟨rfl, h2, b2⟩; refine ⟨_, rfl, ?_⟩; simp only [Act.put, sa_, sz_, ss_]; have H2 := Lib.hid (H1.out.below b2); clear h2 b2 H1)
    | (((with_reducible refine gate_dst (N := 3) rfl ?_); refine box_event ?hg (N := 3) ?hd (cs := #[.int .i64 0, .string (⟨#[]⟩ : ByteArray), .int .i64 0, .int .i64 0]) (t := 91) ?hr ?_; (case hd => rfl); (case hg => rfl); (case hr => first | (go_simp; done) | (go_simp; rfl)); intro gb3 hg_ w3 hb_ hl_; have BKgb3 := am_ hb_; have HLgb3 := am_ hl_; have HGgb3 := am_ (Nat.le_of_eq hg_.symm); obtain ⟨zgb3_0, zgb3_1, zgb3_2, zgb3_3, ygb3_0, ygb3_1, ygb3_2, ygb3_3⟩ := bw4_ hb_; clear hb_ hl_ hg_; simp only [Act.put, sa_, sz_, ss_]); have H3 := Lib.hid (H2.out.below HLgb3.out); have h23 := Nat.lt_of_lt_of_le (blk_lt H2.out.b2) HGgb3.out; have H23 := Lib.hid h23; have N1 : gb3 ≠ g := ne_of_le H2.out.st.lt HGgb3.out; have N2 := N1.symm; have N3 : gb3 ≠ gb2 := Nat.ne_of_gt h23; have N4 := N3.symm; clear h23 H2; obtain ⟨c0, c1, c2, c3, f0, f1, f2, f3⟩ := bw4_ H3.out.st.ps; obtain ⟨p0, p1, p2, p3, p4, p5, p6, p7, p8, q0, q1, q2, q3, q4, q5, q6, q7, q8⟩ := bw9_ H3.out.b2)
    | ((with_reducible refine gate_callee (f := 121) rfl ?_); refine goesL_ (some 39) rfl rfl Try.func121 (by kernel_rfl) rfl #[.pointer (some ⟨g, 0, none⟩), .string wNull] rfl (by (try simp only [List.map_toArray, List.map_cons, List.map_nil]); first | done | rfl) ?_; refine (take_no_st (H3.out.own chg4_ H23.out).st _ G1.out).mono ?_; rintro r' w4 ⟨rfl, h4, c4⟩; refine ⟨_, rfl, ?_⟩; simp only [Act.put, sa_, sz_, ss_]; have H4 := Lib.hid ((H3.out.own chg4_ H23.out).chg c4 h4); clear h4 c4 H3)
    | ((with_reducible refine gate_callee (f := 148) rfl ?_); refine goesL_ (some 44) rfl rfl Try.func148 (by kernel_rfl) rfl #[.pointer (some ⟨g, 0, none⟩), .string wOpen] rfl (by (try simp only [List.map_toArray, List.map_cons, List.map_nil]); first | done | rfl) ?_; refine (is_st H4.out.st _ _ G2.out).mono ?_; rintro r' w5 ⟨rfl, h5, c5⟩; refine ⟨_, rfl, ?_⟩; simp only [Act.put, sa_, sz_, ss_]; have H5 := Lib.hid (H4.out.chg c5 h5); clear h5 c5 H4)
    | ((with_reducible refine gate_callee (f := 191) rfl ?_); refine goesL_ (some 56) rfl rfl Try.func191 (by kernel_rfl) rfl #[.pointer (some ⟨g, 0, none⟩)] rfl (by (try simp only [List.map_toArray, List.map_cons, List.map_nil]); first | done | rfl) ?_; refine (col_st H5.out.st).mono ?_; rintro r' w6 ⟨zA, zc, rfl, h6, c6, t6⟩; refine ⟨_, rfl, ?_⟩; simp only [Act.put, sa_, sz_, ss_]; rw [hx] at t6 ⊢; simp only [exV]; have H6 := Lib.hid (H5.out.chg c6 h6); have T6 := Lib.hid t6; clear h6 c6 t6 H5 p0 p1 p2 p3 p4 p5 p6 p7 p8 q0 q1 q2 q3 q4 q5 q6 q7 q8; obtain ⟨p0, p1, p2, p3, p4, p5, p6, p7, p8, q0, q1, q2, q3, q4, q5, q6, q7, q8⟩ := bw9_ H6.out.b2))
  refine ⟨_, results_cell_row rfl _ _ gb2 27 #[.int .i64 x.f0, .string x.f1, .string x.f2, .int .i64 x.f3, .int .i64 x.f4, .int .i64 x.f5.f0, .int .i64 x.f5.f1, .string x.f5.f2, .slice zA x.f6.length zc] (0, 0) _ rfl (put9_ H6.out.b2) Try.underlying27 rfl (by kernel_rfl), H6.out.done (T6.out _ _)⟩
theorem atom_open {k : Nat} (hT : GOK k .or) {w : World} {g : Nat} {A : Option Addr} {c : Nat} {l : List S91} {i d e : Int} (h : St w g A c l i d e) {t0 n q : Int} {s : ByteArray} (ht : tokP l i e = ⟨t0, s, n, q⟩) (n3 : t0 ≠ 3) (n4 : t0 ≠ 4) {r : Re} (g1 : isP l i e wNull = false) (g2 : isP l i e wOpen = true) (h0 : 0 ≤ d) (h1 : d ≤ 100) (h2 : 0 ≤ r.d) (h3 : r.d ≤ 200) (hr : pr l k (.f .or) (isI l i (dnE d e) wOpen) (d + 1) (dnE d e) = some r) :
    Calls Try.prog 179 #[.pointer (some ⟨g, 0, none⟩)] w (Done w g A c l ⟨muI l r.i r.e wShut, r.d - 1, muE l r.i r.e wShut, r.x⟩) := by
  have e3 : (t0 == 3) = false := beq_eq_false_iff_ne.2 n3
  have e4 : (t0 == 4) = false := beq_eq_false_iff_ne.2 n4
  clear n3 n4
  have G1 := Lib.hid g1; clear g1
  have G2 := Lib.hid g2; clear g2
  have HR := Lib.hid hr; clear hr
  have HT := Lib.hid hT; clear hT
  have h0' : -1000 ≤ d := by omega
  have h1' : d ≤ 1000 := by omega
  have H := Lib.hid h; clear h
  have TK := Lib.hid ht; clear ht
  go_enter_defers Try.func179, Try.ntmps179
  go_wp2_with (first
    | (((with_reducible refine gate_dst (N := 2) rfl ?_); refine box_event ?hg (N := 2) ?hd (cs := #[.int .i64 0, .string (⟨#[]⟩ : ByteArray), .string (⟨#[]⟩ : ByteArray), .int .i64 0, .int .i64 0, .int .i64 0, .int .i64 0, .string (⟨#[]⟩ : ByteArray), .slice none 0 0]) (t := 27) ?hr ?_; (case hd => rfl); (case hg => rfl); (case hr => first | (go_simp; done) | (go_simp; rfl)); intro gb2 hg_ w1 hb_ hl_; have BKgb2 := am_ hb_; have HLgb2 := am_ hl_; have HGgb2 := am_ (Nat.le_of_eq hg_.symm); obtain ⟨zgb2_0, zgb2_1, zgb2_2, zgb2_3, zgb2_4, zgb2_5, zgb2_6, zgb2_7, zgb2_8, ygb2_0, ygb2_1, ygb2_2, ygb2_3, ygb2_4, ygb2_5, ygb2_6, ygb2_7, ygb2_8⟩ := bw9_ hb_; clear hb_ hl_ hg_; simp only [Act.put, sa_, sz_, ss_]); have H1 := Lib.hid ((⟨H.out.below HLgb2.out, Chg.below H.out.lt HLgb2.out, BKgb2.out, H.out.lt, HGgb2.out⟩ : AS w g gb2 A c l w1 i d e)); clear BKgb2 HLgb2 HGgb2 zgb2_0 zgb2_1 zgb2_2 zgb2_3 zgb2_4 zgb2_5 zgb2_6 zgb2_7 zgb2_8 ygb2_0 ygb2_1 ygb2_2 ygb2_3 ygb2_4 ygb2_5 ygb2_6 ygb2_7 ygb2_8)
    | ((with_reducible refine gate_callee (f := 81) rfl ?_); refine goesL_ (some 6) rfl rfl Try.func81 (by kernel_rfl) rfl #[.pointer (some ⟨g, 0, none⟩)] rfl (by (try simp only [List.map_toArray, List.map_cons, List.map_nil]); first | done | rfl) ?_; refine (tok_st H1.out.st _ TK.out).mono ?_; rintro r' w2 ⟨rfl, h2, b2⟩; refine ⟨_, rfl, ?_⟩; simp only [Act.put, sa_, sz_, ss_]; have H2 := Lib.hid (H1.out.below b2); clear h2 b2 H1)
    | (((with_reducible refine gate_dst (N := 3) rfl ?_); refine box_event ?hg (N := 3) ?hd (cs := #[.int .i64 0, .string (⟨#[]⟩ : ByteArray), .int .i64 0, .int .i64 0]) (t := 91) ?hr ?_; (case hd => rfl); (case hg => rfl); (case hr => first | (go_simp; done) | (go_simp; rfl)); intro gb3 hg_ w3 hb_ hl_; have BKgb3 := am_ hb_; have HLgb3 := am_ hl_; have HGgb3 := am_ (Nat.le_of_eq hg_.symm); obtain ⟨zgb3_0, zgb3_1, zgb3_2, zgb3_3, ygb3_0, ygb3_1, ygb3_2, ygb3_3⟩ := bw4_ hb_; clear hb_ hl_ hg_; simp only [Act.put, sa_, sz_, ss_]); have H3 := Lib.hid (H2.out.below HLgb3.out); have h23 := Nat.lt_of_lt_of_le (blk_lt H2.out.b2) HGgb3.out; have H23 := Lib.hid h23; have N1 : gb3 ≠ g := ne_of_le H2.out.st.lt HGgb3.out; have N2 := N1.symm; have N3 : gb3 ≠ gb2 := Nat.ne_of_gt h23; have N4 := N3.symm; clear h23 H2; obtain ⟨c0, c1, c2, c3, f0, f1, f2, f3⟩ := bw4_ H3.out.st.ps; obtain ⟨p0, p1, p2, p3, p4, p5, p6, p7, p8, q0, q1, q2, q3, q4, q5, q6, q7, q8⟩ := bw9_ H3.out.b2)
    | ((with_reducible refine gate_callee (f := 121) rfl ?_); refine goesL_ (some 39) rfl rfl Try.func121 (by kernel_rfl) rfl #[.pointer (some ⟨g, 0, none⟩), .string wNull] rfl (by (try simp only [List.map_toArray, List.map_cons, List.map_nil]); first | done | rfl) ?_; refine (take_no_st (H3.out.own chg4_ H23.out).st _ G1.out).mono ?_; rintro r' w4 ⟨rfl, h4, c4⟩; refine ⟨_, rfl, ?_⟩; simp only [Act.put, sa_, sz_, ss_]; have H4 := Lib.hid ((H3.out.own chg4_ H23.out).chg c4 h4); clear h4 c4 H3)
    | ((with_reducible refine gate_callee (f := 148) rfl ?_); refine goesL_ (some 44) rfl rfl Try.func148 (by kernel_rfl) rfl #[.pointer (some ⟨g, 0, none⟩), .string wOpen] rfl (by (try simp only [List.map_toArray, List.map_cons, List.map_nil]); first | done | rfl) ?_; refine (is_st H4.out.st _ _ G2.out).mono ?_; rintro r' w5 ⟨rfl, h5, c5⟩; refine ⟨_, rfl, ?_⟩; simp only [Act.put, sa_, sz_, ss_]; have H5 := Lib.hid (H4.out.chg c5 h5); clear h5 c5 H4)
    | ((with_reducible refine gate_callee (f := 151) rfl ?_); refine goesL_ (some 46) rfl rfl Try.func151 (by kernel_rfl) rfl #[.pointer (some ⟨g, 0, none⟩)] rfl (by (try simp only [List.map_toArray, List.map_cons, List.map_nil]); first | done | rfl) ?_; refine (down_st H5.out.st h0' h1').mono ?_; rintro r' w6 ⟨rfl, h6, c6⟩; refine ⟨_, rfl, ?_⟩; simp only [Act.put, sa_, sz_, ss_]; have H6 := Lib.hid (H5.out.chg c6 h6); clear h6 c6 H5)
    | ((with_reducible refine gate_callee (f := 121) rfl ?_); refine goesL_ (some 49) rfl rfl Try.func121 (by kernel_rfl) rfl #[.pointer (some ⟨g, 0, none⟩), .string wOpen] rfl (by (try simp only [List.map_toArray, List.map_cons, List.map_nil]); first | done | rfl) ?_; refine (take_st H6.out.st _).mono ?_; rintro r' w7 ⟨rfl, h7, c7⟩; refine ⟨_, rfl, ?_⟩; simp only [Act.put, sa_, sz_, ss_]; have H7 := Lib.hid (H6.out.chg c7 h7); clear h7 c7 H6)
    | ((with_reducible refine gate_callee (f := 41) rfl ?_); refine goesL_ (some 51) rfl rfl Try.func41 (by kernel_rfl) rfl #[.pointer (some ⟨g, 0, none⟩)] rfl (by (try simp only [List.map_toArray, List.map_cons, List.map_nil]); first | done | rfl) ?_; refine (HT.out _ _ _ _ _ _ _ _ _ H7.out.st HR.out).mono ?_; rintro r' w8 ⟨zA, zc, rfl, h8, c8, t8⟩; refine ⟨_, rfl, ?_⟩; simp only [Act.put, sa_, sz_, ss_]; simp only [exV]; have H8 := Lib.hid (H7.out.chg c8 h8); have T8 := Lib.hid (H7.out.aft t8); clear h8 c8 t8 H7 p0 p1 p2 p3 p4 p5 p6 p7 p8 q0 q1 q2 q3 q4 q5 q6 q7 q8 c0 c1 c2 c3 f0 f1 f2 f3 BKgb3 zgb3_0 zgb3_1 zgb3_2 zgb3_3 ygb3_0 ygb3_1 ygb3_2 ygb3_3)
    | (((with_reducible refine gate_dst (N := 4) rfl ?_); refine box_event ?hg (N := 4) ?hd (cs := #[.int .i64 0, .string (⟨#[]⟩ : ByteArray), .string (⟨#[]⟩ : ByteArray), .int .i64 0, .int .i64 0, .int .i64 0, .int .i64 0, .string (⟨#[]⟩ : ByteArray), .slice none 0 0]) (t := 27) ?hr ?_; (case hd => rfl); (case hg => rfl); (case hr => first | (go_simp; done) | (go_simp; rfl)); intro gb4 hg_ w9 hb_ hl_; have BKgb4 := am_ hb_; have HLgb4 := am_ hl_; have HGgb4 := am_ (Nat.le_of_eq hg_.symm); obtain ⟨zgb4_0, zgb4_1, zgb4_2, zgb4_3, zgb4_4, zgb4_5, zgb4_6, zgb4_7, zgb4_8, ygb4_0, ygb4_1, ygb4_2, ygb4_3, ygb4_4, ygb4_5, ygb4_6, ygb4_7, ygb4_8⟩ := bw9_ hb_; clear hb_ hl_ hg_; simp only [Act.put, sa_, sz_, ss_]); have H9 := Lib.hid (H8.out.below HLgb4.out); have h24 := Nat.lt_of_lt_of_le (blk_lt H8.out.b2) HGgb4.out; have H24 := Lib.hid h24; have N5 : gb4 ≠ gb2 := Nat.ne_of_gt h24; have N6 := N5.symm; have T9 := Lib.hid (op_tr T8.out HGgb4.out HLgb4.out))
    | ((with_reducible refine gate_callee (f := 160) rfl ?_); refine goesL_ (some 53) rfl rfl Try.func160 (by kernel_rfl) rfl #[.pointer (some ⟨g, 0, none⟩), .string wShut] rfl (by (try simp only [List.map_toArray, List.map_cons, List.map_nil]); first | done | rfl) ?_; refine (must_st (H9.out.own chg9_ H24.out).st _).mono ?_; rintro r' w10 ⟨rfl, h10, c10⟩; refine ⟨_, rfl, ?_⟩; simp only [Act.put, sa_, sz_, ss_]; have H10 := Lib.hid ((H9.out.own chg9_ H24.out).chg c10 h10); have T10 := Lib.hid (((T9.out.chg chg9_ (fun q => q.2.2 rfl)).chg c10 (fun q => absurd q.1 (Nat.not_le_of_lt H9.out.hg))).mono fun _ _ q => (⟨q.1, q.2.1⟩ : _ ∧ _)); have B10 := Lib.hid (c10.box (put9_ BKgb4.out) (op_ne H9.out H24.out)); clear h10 c10 zgb4_0 zgb4_1 zgb4_2 zgb4_3 zgb4_4 zgb4_5 zgb4_6 zgb4_7 zgb4_8 ygb4_0 ygb4_1 ygb4_2 ygb4_3 ygb4_4 ygb4_5 ygb4_6 ygb4_7 ygb4_8; obtain ⟨p0, p1, p2, p3, p4, p5, p6, p7, p8, q0, q1, q2, q3, q4, q5, q6, q7, q8⟩ := bw9_ H10.out.b2; obtain ⟨s0, s1, s2, s3, s4, s5, s6, s7, s8, t0, t1, t2, t3, t4, t5, t6, t7, t8⟩ := bw9_ B10.out))
  have h2g := H10.out.h2; have hg2 := H10.out.hg
  exact leave_up (gb := gb2) (vA := zA) (vc := zc) (x := r.x) (fun W' hb => results_cell_row rfl _ _ gb2 27 _ (0, 0) _ rfl hb Try.underlying27 rfl (by kernel_rfl)) (H10.out.st.box chg9_ (by omega)) (put9_ H10.out.b2) (H10.out.ch.own chg9_ h2g (by omega)) ((T10.out.chg chg9_ (fun q => q.2 rfl)).mono fun _ _ q => q.1) (by omega) hg2 (by omega) (by omega)
theorem atom_ok (k : Nat) (hT : GOK k .or) : GOK (k + 1) .atom := by
  intro w g A c l i d e r h hr
  simp only [pr] at hr
  change Calls Try.prog 179 _ _ _
  rcases ht : tokP l i e with ⟨t0, s, n, q⟩
  rw [ht] at hr
  dsimp only at hr
  by_cases h3 : t0 = 3
  · subst h3
    rw [if_pos rfl] at hr
    obtain rfl := Option.some.inj hr
    exact atom_int h ht
  rw [if_neg h3] at hr
  by_cases h4 : t0 = 4
  · subst h4
    rw [if_pos rfl] at hr
    obtain rfl := Option.some.inj hr
    unfold txP
    by_cases hs : (s.size : Int) > 65536
    · rw [if_pos hs]
      exact atom_big h ht (by unfold val_Text.f; rw [if_pos hs]; rfl)
    · rw [if_neg hs]
      exact atom_txt h ht (by unfold val_Text.f; rw [if_neg hs])
  rw [if_neg h4] at hr
  cases g1 : isP l i e wNull with
  | true =>
    rw [g1, if_pos rfl] at hr
    obtain rfl := Option.some.inj hr
    exact atom_null h ht h3 h4 g1
  | false =>
    rw [g1, if_neg (by decide)] at hr
    cases g2 : isP l i e wOpen with
    | false =>
      rw [g2, if_neg (by decide)] at hr
      obtain rfl := Option.some.inj hr
      exact atom_col h ht h3 h4 g1 g2
    | true =>
      rw [g2, if_pos rfl] at hr
      by_cases hd : 0 ≤ d ∧ d ≤ 100
      · rw [if_pos hd] at hr
        obtain ⟨r1, hr1, hr⟩ := Option.bind_eq_some_iff.1 hr
        by_cases hq : 0 ≤ r1.d ∧ r1.d ≤ 200
        · rw [if_pos hq] at hr
          obtain rfl := Option.some.inj hr
          exact atom_open hT h ht h3 h4 g1 g2 hd.1 hd.2 hq.1 hq.2 hr1
        · rw [if_neg hq] at hr
          exact absurd hr (by simp)
      · rw [if_neg hd] at hr
        exact absurd hr (by simp)
end Go.Proofs.Ytcfgjaggccnoaaa.PParseSmall
namespace Go.Proofs.Ytcfgjaggccnoaaa.PParseSmall
open Go.RowKit Go.Proofs.YtcfgjaggccnoaaaW.PrintWords Go.Proofs.YtcfgjaggccnoaaaW.PrintLast Go.Proofs.YtcfgjaggccnoaaaW.PrintMore
attribute [local go_sem] max2_int min2_int max_two min_two max_three min_three max_four min_four
set_option linter.unusedVariables false
set_option linter.unusedSimpArgs false
set_option maxRecDepth 100000
set_option maxHeartbeats 4000000
theorem not_ok (k : Nat) (hN : GOK k .not) (hT : GOK k .test) : GOK (k + 1) .not := by
  intro w g A c l i d e r h hr
  simp only [pr] at hr
  change Calls Try.prog 124 _ _ _
  cases g1 : isP l i e wNot with
  | false =>
    rw [g1, if_neg (by decide)] at hr
    exact not_no hT h g1 hr
  | true =>
    rw [g1, if_pos rfl] at hr
    by_cases hd : 0 ≤ d ∧ d ≤ 100
    · rw [if_pos hd] at hr
      obtain ⟨r1, hr1, hr⟩ := Option.bind_eq_some_iff.1 hr
      by_cases hq : 0 ≤ r1.d ∧ r1.d ≤ 200
      · rw [if_pos hq] at hr
        obtain rfl := Option.some.inj hr
        exact not_yes hN h g1 hd.1 hd.2 hq.1 hq.2 hr1
      · rw [if_neg hq] at hr
        exact absurd hr (by simp)
    · rw [if_neg hd] at hr
      exact absurd hr (by simp)
theorem gok (k : Nat) : ∀ j, j ≤ k → ∀ p, GOK j p := by
  induction k with
  | zero =>
    intro j hj p w g A c l i d e r h hr
    obtain rfl : j = 0 := by omega
    simp only [pr] at hr
    exact absurd hr (by simp)
  | succ k ih =>
    intro j hj p
    rcases Nat.lt_or_ge j (k + 1) with h | h
    · exact ih j (by omega) p
    · obtain rfl : j = k + 1 := by omega
      cases p with
      | or => exact or_ok k fun j hj => ih j hj _
      | and => exact and_ok k fun j hj => ih j hj _
      | not => exact not_ok k (ih k (Nat.le_refl k) _) (ih k (Nat.le_refl k) _)
      | test => exact test_ok k (ih k (Nat.le_refl k) _)
      | sum => exact sum_ok k fun j hj => ih j hj _
      | prod => exact prod_ok k fun j hj => ih j hj _
      | atom => exact atom_ok k (ih k (Nat.le_refl k) _)
theorem GOK.all (k : Nat) (p : Gr) : GOK k p := gok k k (Nat.le_refl k) p
def enE (l : List S91) (i e : Int) : Int := if e = 0 ∧ (tokP l i e).f0 ≠ 0 then 1 else e
theorem end_st {w : World} {g : Nat} {A : Option Addr} {c : Nat} {l : List S91} {i d e : Int} (h : St w g A c l i d e) :
    Calls Try.prog 42 #[.pointer (some ⟨g, 0, none⟩)] w fun r w' => r = .returned (.tuple #[]) ∧ St w' g A c l i d (enE l i e) ∧ Chg g w w' := by
  unfold enE
  by_cases he : e = 0
  · subst he
    by_cases hk : (tokP l i 0).f0 = 0
    · rw [if_neg (fun q => q.2 hk)]
      exact (end_ok h.ps h.tk.now h.i0 hk).mono fun r w' ⟨a, b, k⟩ => ⟨a, h.go k b h.i0 h.i1, k⟩
    · rw [if_pos ⟨rfl, hk⟩]
      exact (end_no h.ps h.tk.now h.i0 hk).mono fun r w' ⟨a, b, k⟩ => ⟨a, h.go k b h.i0 h.i1, k⟩
  · rw [if_neg (fun q => he q.1)]
    exact (end_err h.ps he).mono fun r w' ⟨a, b, k⟩ => ⟨a, h.go k b h.i0 h.i1, k⟩
theorem new_blk (w : World) (o : Obj) : (w.alloc o).heap[w.heap.size]? = some o := Array.getElem?_push_size
theorem begin_any (k : Nat) (s : ByteArray) (l : List S91) (e : Int) (w : World) (hl : l.length ≤ 1000000) (h : token_All.f k s = some (l, e)) :
    Calls Try.prog 40 #[.string s] w fun r w' => ∃ (g : Nat) (A : Option Addr) (c : Nat), r = .returned (.pointer (some ⟨g, 0, none⟩)) ∧ St w' g A c l 0 0 e ∧ Below w.heap.size w w' ∧ w.heap.size ≤ g := by
  have HA := Lib.hid h; clear h
  go_enter Try.func40, Try.ntmps40
  go_wp2_with (first
    | ((with_reducible refine gate_callee (f := 78) rfl ?_); refine goesL_ (some 7) rfl rfl Try.func78 (by kernel_rfl) rfl #[.string s] rfl (by (try simp only [List.map_toArray, List.map_cons, List.map_nil]); first | done | rfl) ?_; refine (token_All.calls k s l e w HA.out).mono ?_; rintro r' w1 ⟨v, rfl, hr, hb⟩; refine ⟨_, rfl, ?_⟩; simp only [Act.put, sa_, sz_, ss_]; obtain ⟨A, c, rfl, hc, hC⟩ := Kd.R_reads hr; have HC := Lib.hid hC; have HB := Lib.hid hb; clear hr hb hC))
  go_ret
  exact ⟨w1.heap.size, A, c, rfl, ⟨new_blk w1 _, ⟨w1, HC.out, below_alloc (Below.refl _ _) _, Nat.le_refl _⟩, Int.le_refl 0, Int.natCast_nonneg _, hl⟩, below_alloc HB.out _, below_size HB.out⟩
def zx27 : S27 := ⟨0, ⟨#[]⟩, ⟨#[]⟩, 0, 0, ⟨0, 0, ⟨#[]⟩⟩, []⟩
def Ends (w : World) (x : S27) (e : Int) (r : Ending) (w' : World) : Prop := ∃ vA vc, r = .returned (.tuple #[exV x vA vc, .int .i64 e]) ∧ Tr w' (fun k => w.heap.size ≤ k) x vA vc ∧ Below w.heap.size w w'
structure ES (w0 : World) (g g2 g5 : Nat) (w : World) (x : S27) (vA : Option Addr) (vc : Nat) : Prop where
  b2 : w.heap[g2]? = some (.cells #[.int .i64 0, .string ⟨#[]⟩, .string ⟨#[]⟩, .int .i64 0, .int .i64 0, .int .i64 0, .int .i64 0, .string ⟨#[]⟩, .slice none 0 0] 27 (0, 0))
  b5 : w.heap[g5]? = some (.cells (cl27 x vA vc) 27 (0, 0))
  tr : Tr w (fun k => w0.heap.size ≤ k ∧ k ≠ g2) x vA vc
  bl : Below w0.heap.size w0 w
  h2 : w0.heap.size ≤ g2
theorem ES.mk' {w w1 w2 w3 w4 w6 : World} {g g2 g5 vc : Nat} {vA : Option Addr} {x : S27} {o0 o1 o2 o3 o4 o5 o6 o7 o8 : Value} (b2 : w1.heap[g2]? = some (.cells #[.int .i64 0, .string ⟨#[]⟩, .string ⟨#[]⟩, .int .i64 0, .int .i64 0, .int .i64 0, .int .i64 0, .string ⟨#[]⟩, .slice none 0 0] 27 (0, 0))) (l1 : Below w.heap.size w w1) (h2 : w.heap.size ≤ g2) (l2 : Below w1.heap.size w1 w2) (hg : w1.heap.size ≤ g) (hl : g < w2.heap.size) (c3 : Chg g w2 w3) (t3 : Tr w3 (fun k => w2.heap.size ≤ k) x vA vc)
    (l4 : Below w3.heap.size w3 w4) (h5 : w3.heap.size ≤ g5) (b5 : w4.heap[g5]? = some (.cells #[o0, o1, o2, o3, o4, o5, o6, o7, o8] 27 (0, 0))) (c6 : Chg g (((((((((w4.setCell ⟨g5, 0, none⟩ (.int .i64 x.f0)).setCell ⟨g5, 1, none⟩ (.string x.f1)).setCell ⟨g5, 2, none⟩ (.string x.f2)).setCell ⟨g5, 3, none⟩ (.int .i64 x.f3)).setCell ⟨g5, 4, none⟩ (.int .i64 x.f4)).setCell ⟨g5, 5, none⟩ (.int .i64 x.f5.f0)).setCell ⟨g5, 6, none⟩ (.int .i64 x.f5.f1)).setCell ⟨g5, 7, none⟩ (.string x.f5.f2)).setCell ⟨g5, 8, none⟩ (.slice vA x.f6.length vc)) w6) : ES w g g2 g5 w6 x vA vc := by
  have n2 := blk_lt b2; have s1 := below_size l1; have s2 := below_size l2; have s3 := c3.size; have s4 := below_size l4
  refine ⟨c6.box (chg9_.box (blk_below (c3.box (blk_below b2 l2) (by omega)) l4) (by omega)) (by omega), c6.box (put9_ b5) (by omega), ?_, ?_, h2⟩
  · have t4 := ((t3.mono fun q hl hq => (⟨by omega, by omega, by omega, by omega⟩ : w.heap.size ≤ q ∧ q ≠ g2 ∧ q ≠ g5 ∧ q ≠ g)).below l4)
    exact ((t4.chg chg9_ (fun q => q.2.2.1 rfl)).chg c6 (fun q => q.2.2.2 rfl)).mono fun _ _ q => ⟨q.1, q.2.1⟩
  · exact ((((l1.trans (l2.mono (by omega))).trans (c3.1.mono (by omega))).trans (l4.mono (by omega))).trans (chg9_.1.mono (by omega))).trans (c6.1.mono (by omega))
theorem ES.drew {w0 w : World} {g g2 g5 vc : Nat} {vA : Option Addr} {x : S27} (h : ES w0 g g2 g5 w x vA vc) : ES w0 g g2 g5 w.drew x vA vc := ⟨h.b2, h.b5, h.tr.below (Below.drew (Below.refl _ _)), Below.drew h.bl, h.h2⟩
theorem ES.done {w0 w : World} {g g2 g5 vc yc : Nat} {vA yA : Option Addr} {x y : S27} (h : ES w0 g g2 g5 w x vA vc) (t : Tr w (fun k => w0.heap.size ≤ k ∧ k ≠ g2) y yA yc) {e : Int} {v0 v1 v2 v3 v4 v5 v6 v7 v8 : Value} : Ends w0 y e (.returned (.tuple #[exV y yA yc, .int .i64 e])) (((((((((w.setCell ⟨g2, 0, none⟩ v0).setCell ⟨g2, 1, none⟩ v1).setCell ⟨g2, 2, none⟩ v2).setCell ⟨g2, 3, none⟩ v3).setCell ⟨g2, 4, none⟩ v4).setCell ⟨g2, 5, none⟩ v5).setCell ⟨g2, 6, none⟩ v6).setCell ⟨g2, 7, none⟩ v7).setCell ⟨g2, 8, none⟩ v8) :=
  ⟨yA, yc, rfl, (t.chg chg9_ (fun q => q.2 rfl)).mono fun _ _ q => q.1, h.bl.trans (chg9_.1.mono h.h2)⟩
theorem expr_ok (k : Nat) (s : ByteArray) (l : List S91) (e0 : Int) (r : Re) (w : World) (hl : l.length ≤ 1000000) (h : token_All.f k s = some (l, e0)) (k2 : Nat) (hr : pr l k2 (.f .or) 0 0 e0 = some r) (he : enE l r.i r.e = 0) :
    Calls Try.prog 15 #[.string s] w (Ends w r.x 0) := by
  have HA := Lib.hid h; clear h
  have HR := Lib.hid hr; clear hr
  have HE := Lib.hid he; clear he
  go_enter Try.func15, Try.ntmps15
  go_wp2_with (first
    | (((with_reducible refine gate_dst (N := 2) rfl ?_); refine box_event ?hg (N := 2) ?hd (cs := #[.int .i64 0, .string (⟨#[]⟩ : ByteArray), .string (⟨#[]⟩ : ByteArray), .int .i64 0, .int .i64 0, .int .i64 0, .int .i64 0, .string (⟨#[]⟩ : ByteArray), .slice none 0 0]) (t := 27) ?hr ?_; (case hd => rfl); (case hg => rfl); (case hr => first | (go_simp; done) | (go_simp; rfl)); intro gb2 hg_ w1 hb_ hl_; have BKgb2 := am_ hb_; have HLgb2 := am_ hl_; have HGgb2 := am_ (Nat.le_of_eq hg_.symm); obtain ⟨zgb2_0, zgb2_1, zgb2_2, zgb2_3, zgb2_4, zgb2_5, zgb2_6, zgb2_7, zgb2_8, ygb2_0, ygb2_1, ygb2_2, ygb2_3, ygb2_4, ygb2_5, ygb2_6, ygb2_7, ygb2_8⟩ := bw9_ hb_; clear hb_ hl_ hg_; simp only [Act.put, sa_, sz_, ss_]); clear zgb2_0 zgb2_1 zgb2_2 zgb2_3 zgb2_4 zgb2_5 zgb2_6 zgb2_7 zgb2_8 ygb2_0 ygb2_1 ygb2_2 ygb2_3 ygb2_4 ygb2_5 ygb2_6 ygb2_7 ygb2_8)
    | ((with_reducible refine gate_callee (f := 40) rfl ?_); refine goesL_ (some 7) rfl rfl Try.func40 (by kernel_rfl) rfl #[.string s] rfl (by (try simp only [List.map_toArray, List.map_cons, List.map_nil]); first | done | rfl) ?_; refine (begin_any k s l e0 w1 hl HA.out).mono ?_; rintro r' w2 ⟨g, A, c, rfl, h2, b2, hg⟩; refine ⟨_, rfl, ?_⟩; simp only [Act.put, sa_, sz_, ss_]; have H2 := Lib.hid h2; have L2 := Lib.hid b2; have G2 := Lib.hid hg; clear h2 b2 hg)
    | ((with_reducible refine gate_callee (f := 41) rfl ?_); refine goesL_ (some 9) rfl rfl Try.func41 (by kernel_rfl) rfl #[.pointer (some ⟨g, 0, none⟩)] rfl (by (try simp only [List.map_toArray, List.map_cons, List.map_nil]); first | done | rfl) ?_; refine (GOK.all k2 .or _ _ _ _ _ _ _ _ _ H2.out HR.out).mono ?_; rintro r' w3 ⟨vA, vc, rfl, h3, c3, t3⟩; refine ⟨_, rfl, ?_⟩; simp only [Act.put, sa_, sz_, ss_]; simp only [exV]; have H3 := Lib.hid h3; have C3 := Lib.hid c3; have T3 := Lib.hid t3; clear h3 c3 t3)
    | (((with_reducible refine gate_dst (N := 5) rfl ?_); refine box_event ?hg (N := 5) ?hd (cs := #[.int .i64 0, .string (⟨#[]⟩ : ByteArray), .string (⟨#[]⟩ : ByteArray), .int .i64 0, .int .i64 0, .int .i64 0, .int .i64 0, .string (⟨#[]⟩ : ByteArray), .slice none 0 0]) (t := 27) ?hr ?_; (case hd => rfl); (case hg => rfl); (case hr => first | (go_simp; done) | (go_simp; rfl)); intro gb5 hg_ w4 hb_ hl_; have BKgb5 := am_ hb_; have HLgb5 := am_ hl_; have HGgb5 := am_ (Nat.le_of_eq hg_.symm); obtain ⟨zgb5_0, zgb5_1, zgb5_2, zgb5_3, zgb5_4, zgb5_5, zgb5_6, zgb5_7, zgb5_8, ygb5_0, ygb5_1, ygb5_2, ygb5_3, ygb5_4, ygb5_5, ygb5_6, ygb5_7, ygb5_8⟩ := bw9_ hb_; clear hb_ hl_ hg_; simp only [Act.put, sa_, sz_, ss_]))
    | ((with_reducible refine gate_callee (f := 42) rfl ?_); refine goesL_ (some 11) rfl rfl Try.func42 (by kernel_rfl) rfl #[.pointer (some ⟨g, 0, none⟩)] rfl (by (try simp only [List.map_toArray, List.map_cons, List.map_nil]); first | done | rfl) ?_; refine (end_st ((H3.out.below HLgb5.out).box chg9_ (Nat.lt_of_lt_of_le H3.out.lt HGgb5.out))).mono ?_; rintro r' w6 ⟨rfl, h6, c6⟩; refine ⟨_, rfl, ?_⟩; simp only [Act.put, sa_, sz_, ss_]; rw [HE.out] at h6; have H6 := Lib.hid h6; have E6 := Lib.hid (ES.mk' BKgb2.out HLgb2.out HGgb2.out L2.out G2.out H2.out.lt C3.out T3.out HLgb5.out HGgb5.out BKgb5.out c6); clear h6 c6 zgb5_0 zgb5_1 zgb5_2 zgb5_3 zgb5_4 zgb5_5 zgb5_6 zgb5_7 zgb5_8 ygb5_0 ygb5_1 ygb5_2 ygb5_3 ygb5_4 ygb5_5 ygb5_6 ygb5_7 ygb5_8)
    | ((with_reducible refine gate_callee (f := 43) rfl ?_); refine goesL_ (some 13) rfl rfl Try.func43 (by kernel_rfl) rfl #[.pointer (some ⟨g, 0, none⟩)] rfl (by (try simp only [List.map_toArray, List.map_cons, List.map_nil]); first | done | rfl) ?_; refine (ok_yes H6.out.ps).mono ?_; rintro r' w7 ⟨rfl, rfl⟩; refine ⟨_, rfl, ?_⟩; simp only [Act.put, sa_, sz_, ss_]; obtain ⟨p0, p1, p2, p3, p4, p5, p6, p7, p8, q0, q1, q2, q3, q4, q5, q6, q7, q8⟩ := bw9_ E6.out.b2; obtain ⟨s0, s1, s2, s3, s4, s5, s6, s7, s8, t0, t1, t2, t3, t4, t5, t6, t7, t8⟩ := bw9_ E6.out.b5))
  exact bodyPost_ret (results_ct rfl _ _ gb2 27 (cl27 r.x vA vc) (0, 0) _ rfl (put9_ E6.out.b2) Try.underlying27 rfl (by kernel_rfl)) rfl (E6.out.done E6.out.tr)
theorem expr_err (k : Nat) (s : ByteArray) (l : List S91) (e0 e1 : Int) (r : Re) (w : World) (hl : l.length ≤ 1000000) (h : token_All.f k s = some (l, e0)) (k2 : Nat) (hr : pr l k2 (.f .or) 0 0 e0 = some r) (he : enE l r.i r.e = e1) (h1 : e1 ≠ 0) :
    Calls Try.prog 15 #[.string s] w (Ends w zx27 e1) := by
  have HA := Lib.hid h; clear h
  have HR := Lib.hid hr; clear hr
  have HE := Lib.hid he; clear he
  have H1 := Lib.hid h1; clear h1
  go_enter Try.func15, Try.ntmps15
  go_wp2_with (first
    | (((with_reducible refine gate_dst (N := 2) rfl ?_); refine box_event ?hg (N := 2) ?hd (cs := #[.int .i64 0, .string (⟨#[]⟩ : ByteArray), .string (⟨#[]⟩ : ByteArray), .int .i64 0, .int .i64 0, .int .i64 0, .int .i64 0, .string (⟨#[]⟩ : ByteArray), .slice none 0 0]) (t := 27) ?hr ?_; (case hd => rfl); (case hg => rfl); (case hr => first | (go_simp; done) | (go_simp; rfl)); intro gb2 hg_ w1 hb_ hl_; have BKgb2 := am_ hb_; have HLgb2 := am_ hl_; have HGgb2 := am_ (Nat.le_of_eq hg_.symm); obtain ⟨zgb2_0, zgb2_1, zgb2_2, zgb2_3, zgb2_4, zgb2_5, zgb2_6, zgb2_7, zgb2_8, ygb2_0, ygb2_1, ygb2_2, ygb2_3, ygb2_4, ygb2_5, ygb2_6, ygb2_7, ygb2_8⟩ := bw9_ hb_; clear hb_ hl_ hg_; simp only [Act.put, sa_, sz_, ss_]); clear zgb2_0 zgb2_1 zgb2_2 zgb2_3 zgb2_4 zgb2_5 zgb2_6 zgb2_7 zgb2_8 ygb2_0 ygb2_1 ygb2_2 ygb2_3 ygb2_4 ygb2_5 ygb2_6 ygb2_7 ygb2_8)
    | ((with_reducible refine gate_callee (f := 40) rfl ?_); refine goesL_ (some 7) rfl rfl Try.func40 (by kernel_rfl) rfl #[.string s] rfl (by (try simp only [List.map_toArray, List.map_cons, List.map_nil]); first | done | rfl) ?_; refine (begin_any k s l e0 w1 hl HA.out).mono ?_; rintro r' w2 ⟨g, A, c, rfl, h2, b2, hg⟩; refine ⟨_, rfl, ?_⟩; simp only [Act.put, sa_, sz_, ss_]; have H2 := Lib.hid h2; have L2 := Lib.hid b2; have G2 := Lib.hid hg; clear h2 b2 hg)
    | ((with_reducible refine gate_callee (f := 41) rfl ?_); refine goesL_ (some 9) rfl rfl Try.func41 (by kernel_rfl) rfl #[.pointer (some ⟨g, 0, none⟩)] rfl (by (try simp only [List.map_toArray, List.map_cons, List.map_nil]); first | done | rfl) ?_; refine (GOK.all k2 .or _ _ _ _ _ _ _ _ _ H2.out HR.out).mono ?_; rintro r' w3 ⟨vA, vc, rfl, h3, c3, t3⟩; refine ⟨_, rfl, ?_⟩; simp only [Act.put, sa_, sz_, ss_]; simp only [exV]; have H3 := Lib.hid h3; have C3 := Lib.hid c3; have T3 := Lib.hid t3; clear h3 c3 t3)
    | (((with_reducible refine gate_dst (N := 5) rfl ?_); refine box_event ?hg (N := 5) ?hd (cs := #[.int .i64 0, .string (⟨#[]⟩ : ByteArray), .string (⟨#[]⟩ : ByteArray), .int .i64 0, .int .i64 0, .int .i64 0, .int .i64 0, .string (⟨#[]⟩ : ByteArray), .slice none 0 0]) (t := 27) ?hr ?_; (case hd => rfl); (case hg => rfl); (case hr => first | (go_simp; done) | (go_simp; rfl)); intro gb5 hg_ w4 hb_ hl_; have BKgb5 := am_ hb_; have HLgb5 := am_ hl_; have HGgb5 := am_ (Nat.le_of_eq hg_.symm); obtain ⟨zgb5_0, zgb5_1, zgb5_2, zgb5_3, zgb5_4, zgb5_5, zgb5_6, zgb5_7, zgb5_8, ygb5_0, ygb5_1, ygb5_2, ygb5_3, ygb5_4, ygb5_5, ygb5_6, ygb5_7, ygb5_8⟩ := bw9_ hb_; clear hb_ hl_ hg_; simp only [Act.put, sa_, sz_, ss_]))
    | ((with_reducible refine gate_callee (f := 42) rfl ?_); refine goesL_ (some 11) rfl rfl Try.func42 (by kernel_rfl) rfl #[.pointer (some ⟨g, 0, none⟩)] rfl (by (try simp only [List.map_toArray, List.map_cons, List.map_nil]); first | done | rfl) ?_; refine (end_st ((H3.out.below HLgb5.out).box chg9_ (Nat.lt_of_lt_of_le H3.out.lt HGgb5.out))).mono ?_; rintro r' w6 ⟨rfl, h6, c6⟩; refine ⟨_, rfl, ?_⟩; simp only [Act.put, sa_, sz_, ss_]; rw [HE.out] at h6; have H6 := Lib.hid h6; have E6 := Lib.hid (ES.mk' BKgb2.out HLgb2.out HGgb2.out L2.out G2.out H2.out.lt C3.out T3.out HLgb5.out HGgb5.out BKgb5.out c6); clear h6 c6 zgb5_0 zgb5_1 zgb5_2 zgb5_3 zgb5_4 zgb5_5 zgb5_6 zgb5_7 zgb5_8 ygb5_0 ygb5_1 ygb5_2 ygb5_3 ygb5_4 ygb5_5 ygb5_6 ygb5_7 ygb5_8)
    | ((with_reducible refine gate_callee (f := 43) rfl ?_); refine goesL_ (some 13) rfl rfl Try.func43 (by kernel_rfl) rfl #[.pointer (some ⟨g, 0, none⟩)] rfl (by (try simp only [List.map_toArray, List.map_cons, List.map_nil]); first | done | rfl) ?_; refine (ok_no H6.out.ps H1.out).mono ?_; rintro r' w7 ⟨rfl, rfl⟩; refine ⟨_, rfl, ?_⟩; simp only [Act.put, sa_, sz_, ss_]; obtain ⟨p0, p1, p2, p3, p4, p5, p6, p7, p8, q0, q1, q2, q3, q4, q5, q6, q7, q8⟩ := bw9_ E6.out.b2))
  have E7 := Lib.hid (E6.out.drew); have P7 : Ps w7.drew g A l.length c r.i r.d e1 := H6.out.ps
  clear E6 p0 p1 p2 p3 p4 p5 p6 p7 p8 q0 q1 q2 q3 q4 q5 q6 q7 q8
  have NG : gb2 ≠ g := by have := blk_lt BKgb2.out; have := G2.out; omega
  refine start_ (n := 7) (S := fun w' => w'.heap[g]? = some (.cells #[.slice A l.length c, .int .i64 r.i, .int .i64 r.d, .int .i64 e1] 89 (0, 0))) (ds := []) #[false, false, false, false, false, false, false] (by kernel_rfl) rfl rfl P7 (fun hHeld => ?_)
  generalize w7.drew = w8 at E7 P7 hHeld ⊢
  refine take_ (i := 0) (N := some 15) (v := ?_) (a' := ?_) #[true, false, false, false, false, false, false] rfl rfl (by kernel_rfl) (fun _ _ _ h => h) (Or.inl ⟨by rfl, ?_⟩) hHeld ?_ ?_; rotate_left
  · intro w' hS
    go_simp; (with_reducible rfl)
  rotate_left
  · simp only [Act.put, sa_, sz_, ss_, i64_w, i32_w]
    rfl
  refine take_ (i := 1) (N := some 16) (v := ?_) (a' := ?_) #[true, true, false, false, false, false, false] rfl rfl (by kernel_rfl) (fun _ _ _ h => h) (Or.inl ⟨by rfl, ?_⟩) hHeld ?_ ?_; rotate_left
  · intro w' hS
    go_simp; (with_reducible rfl)
  rotate_left
  · simp only [Act.put, sa_, sz_, ss_, i64_w, i32_w]
    rfl
  refine take_ (i := 2) (N := some 17) (v := ?_) (a' := ?_) #[true, true, true, false, false, false, false] rfl rfl (by kernel_rfl) (fun _ _ _ h => h) (Or.inl ⟨by rfl, ?_⟩) hHeld ?_ ?_; rotate_left
  · intro w' hS
    go_simp; (with_reducible rfl)
  rotate_left
  · simp only [Act.put, sa_, sz_, ss_, i64_w, i32_w]
    rfl
  refine take_ (i := 3) (N := some 18) (v := ?_) (a' := ?_) #[true, true, true, true, false, false, false] rfl rfl (by kernel_rfl) (fun _ _ _ h => h) (Or.inl ⟨by rfl, ?_⟩) hHeld ?_ ?_; rotate_left
  · intro w' hS
    go_simp; (with_reducible rfl)
  rotate_left
  · simp only [Act.put, sa_, sz_, ss_, i64_w, i32_w]
    rfl
  refine take_ (i := 4) (N := some 19) (v := ?_) (a' := ?_) #[true, true, true, true, true, false, false] rfl rfl (by kernel_rfl) (fun _ _ _ h => h) (Or.inl ⟨by rfl, ?_⟩) hHeld ?_ ?_; rotate_left
  · intro w' hS; obtain ⟨s0, s1, s2, s3, t0, t1, t2, t3⟩ := bw4_ hS
    go_simp; (with_reducible rfl)
  rotate_left
  · simp only [Act.put, sa_, sz_, ss_, i64_w, i32_w]
    rfl
  obtain ⟨p0, p1, p2, p3, p4, p5, p6, p7, p8, q0, q1, q2, q3, q4, q5, q6, q7, q8⟩ := bw9_ E7.out.b2
  refine one_ (i := 5) (N := none) #[true, true, true, true, true, true, false] rfl rfl (by kernel_rfl) (by decide) (fun K hK => ?_); refine skip_ (w1 := ?_) (by rfl) rfl ?_ ?_; rotate_left
  · go_simp
    rfl
  refine hK.out _ _ (chg9_.box P7 NG.symm) (fun hHeld2 => ?_); clear hK K
  clear p0 p1 p2 p3 p4 p5 p6 p7 p8 q0 q1 q2 q3 q4 q5 q6 q7 q8
  refine pure_ (i := 6) (N := some 3) (v := ?_) (a' := ?_) #[true, true, true, true, true, true, true] rfl rfl (by kernel_rfl) (fun _ _ _ h => h) (Or.inl ⟨by rfl, ?_⟩) ?_ ?_; rotate_left
  · intro w'
    go_simp; (with_reducible rfl)
  rotate_left
  · simp only [Act.put, sa_, sz_, ss_, i64_w, i32_w]
    rfl
  refine done_ (by kernel_rfl) ?_
  try go_wp2
  exact bodyPost_ret (results_ct rfl _ _ gb2 27 (cl27 zx27 none 0) (0, 0) _ rfl (put9_ E7.out.b2) Try.underlying27 rfl (by kernel_rfl)) rfl (E7.out.done (y := zx27) (yA := none) (yc := 0) ⟨Nat.le_refl 0, fun W' _ => ⟨rfl, by simp [zx27], fun q => absurd q (Nat.lt_irrefl 0)⟩⟩)
end Go.Proofs.Ytcfgjaggccnoaaa.PParseSmall
namespace Go.Proofs.Ytcfgjaggccnoaaa.PParseSmall
open Go.RowKit Go.Proofs.YtcfgjaggccnoaaaW.PrintWords Go.Proofs.YtcfgjaggccnoaaaW.PrintLast Go.Proofs.YtcfgjaggccnoaaaW.PrintMore
attribute [local go_sem] max2_int min2_int max_two min_two max_three min_three max_four min_four
set_option linter.unusedVariables false
set_option linter.unusedSimpArgs false
set_option maxRecDepth 100000
set_option maxHeartbeats 4000000
def rr (l : List S91) : Nat → Go → Int → Int → Int → Option Re
  | 0, _, _, _, _ => none
  | k + 1, .ch p ss x, i, d, e => (match ss.find? (fun s => isP l i e s) with
      | none => some ⟨i, d, e, x⟩
      | some s => (rr l k (.f p) (i + 1) d e).bind fun r => rr l k (.ch p ss (ofP (opP s) [x, r.x])) r.i d r.e)
  | k + 1, .f .or, i, d, e => (rr l k (.f .and) i d e).bind fun r => rr l k (.ch .and [wOr] r.x) r.i d r.e
  | k + 1, .f .and, i, d, e => (rr l k (.f .not) i d e).bind fun r => rr l k (.ch .not [wAnd] r.x) r.i d r.e
  | k + 1, .f .sum, i, d, e => (rr l k (.f .prod) i d e).bind fun r => rr l k (.ch .prod [wPlus, wMinus] r.x) r.i d r.e
  | k + 1, .f .prod, i, d, e => (rr l k (.f .atom) i d e).bind fun r => rr l k (.ch .atom [wStar] r.x) r.i d r.e
  | k + 1, .f .not, i, d, e => if isP l i e wNot = true then
      (if d = 50 then some ⟨i, d, flE e 4, zx27⟩ else (rr l k (.f .not) (i + 1) (d + 1) e).bind fun r => some ⟨r.i, d, r.e, ofP 12 [r.x]⟩)
      else rr l k (.f .test) i d e
  | k + 1, .f .test, i, d, e => (rr l k (.f .sum) i d e).bind fun r => match six.find? (fun s => isP l r.i r.e s) with
      | some s => (rr l k (.f .sum) (r.i + 1) d r.e).bind fun q => some ⟨q.i, d, q.e, ofP (opP s) [r.x, q.x]⟩
      | none => some (tst l r)
  | k + 1, .f .atom, i, d, e =>
      if (tokP l i e).f0 = 3 then some ⟨i + 1, d, e, valP 1 (tokP l i e).f2 ⟨#[]⟩⟩
      else if (tokP l i e).f0 = 4 then some ⟨i + 1, d, e, valP 2 0 (tokP l i e).f1⟩
      else if isP l i e wNull = true then some ⟨i + 1, d, e, valP 0 0 ⟨#[]⟩⟩
      else if isP l i e wOpen = true then
        (if d = 50 then some ⟨i, d, flE e 4, zx27⟩ else (rr l k (.f .or) (i + 1) (d + 1) e).bind fun r => some ⟨muI l r.i r.e wShut, d, muE l r.i r.e wShut, r.x⟩)
      else some ⟨coI l i e, d, coE l i e, coX l i e⟩
theorem isP_k {l : List S91} {i e : Int} {s : ByteArray} (h : isP l i e s = true) : (tokP l i e).f0 ≠ 0 := by
  unfold isP isT at h
  simp only [Bool.and_eq_true, Bool.or_eq_true, beq_iff_eq] at h
  rcases h.2.1 with q | q <;> rw [q] <;> decide
theorem find_off {l : List S91} {i e : Int} {ss : List ByteArray} (h : e ≠ 0) : ss.find? (fun s => isP l i e s) = none := by
  rw [List.find?_eq_none]
  intro s _
  rw [isP_off h]
  decide
theorem mu_off {l : List S91} {i e : Int} {s : ByteArray} (h : e ≠ 0) : muE l i e s = e := by
  unfold muE
  rw [isP_off h, if_neg (by decide), fl_e h]
theorem nm_off {l : List S91} {i e : Int} (h : e ≠ 0) : nmE l i e = e := by
  unfold nmE
  rw [tok_off h, if_neg (by decide), fl_e h]
theorem co_off {l : List S91} {i e : Int} (h : e ≠ 0) : coE l i e = e := by
  unfold coE
  rw [nm_off h, isP_off h, if_neg (by decide)]
theorem tst_off {l : List S91} {r : Re} (h : r.e ≠ 0) : tst l r = r := by
  unfold tst
  rw [isP_off h, if_neg (by decide)]
theorem ch_err {l : List S91} {k : Nat} {p : Gr} {ss : List ByteArray} {x : S27} {i d e : Int} {r : Re} (he : e ≠ 0) (h : pr l k (.ch p ss x) i d e = some r) : r.e = e ∧ ∀ i' d' x', ∃ q, rr l k (.ch p ss x') i' d' e = some q ∧ q.e = e := by
  cases k with
  | zero => simp [pr] at h
  | succ k =>
    simp only [pr] at h
    rw [if_neg he] at h
    obtain rfl := Option.some.inj h
    refine ⟨rfl, fun i' d' x' => ⟨⟨i', d', e, x'⟩, ?_, rfl⟩⟩
    simp only [rr]
    rw [find_off he]
theorem f_err (l : List S91) (k : Nat) : ∀ (p : Gr) (i d e : Int) (r : Re), e ≠ 0 → pr l k (.f p) i d e = some r → r.e = e ∧ ∀ i' d', ∃ q, rr l k (.f p) i' d' e = some q ∧ q.e = e := by
  induction k with
  | zero => intro p i d e r he h; simp [pr] at h
  | succ k ih =>
    intro p i d e r he h
    cases p
    case or | and | sum | prod =>
      simp only [pr] at h
      obtain ⟨r0, h0, h⟩ := Option.bind_eq_some_iff.1 h
      obtain ⟨a1, a2⟩ := ih _ _ _ _ _ he h0
      rw [a1] at h
      obtain ⟨b1, b2⟩ := ch_err he h
      refine ⟨b1, fun i' d' => ?_⟩
      obtain ⟨q0, c1, c2⟩ := a2 i' d'
      obtain ⟨q, c3, c4⟩ := b2 q0.i d' q0.x
      refine ⟨q, ?_, c4⟩
      simp only [rr]
      rw [c1, Option.bind_some, c2]
      exact c3
    case not =>
      simp only [pr] at h
      rw [isP_off he, if_neg (by decide)] at h
      obtain ⟨a1, a2⟩ := ih _ _ _ _ _ he h
      refine ⟨a1, fun i' d' => ?_⟩
      obtain ⟨q, c1, c2⟩ := a2 i' d'
      refine ⟨q, ?_, c2⟩
      simp only [rr]
      rw [isP_off he, if_neg (by decide)]
      exact c1
    case test =>
      simp only [pr] at h
      obtain ⟨r0, h0, h⟩ := Option.bind_eq_some_iff.1 h
      obtain ⟨a1, a2⟩ := ih _ _ _ _ _ he h0
      have he0 : r0.e ≠ 0 := by rw [a1]; exact he
      rw [find_off he0] at h
      simp only at h
      obtain rfl := Option.some.inj h
      refine ⟨by rw [tst_off he0, a1], fun i' d' => ?_⟩
      obtain ⟨q, c1, c2⟩ := a2 i' d'
      have hq : q.e ≠ 0 := by rw [c2]; exact he
      refine ⟨tst l q, ?_, by rw [tst_off hq, c2]⟩
      simp only [rr]
      rw [c1, Option.bind_some, find_off hq]
    case atom =>
      simp only [pr] at h
      rw [tok_off he, if_neg (by decide), if_neg (by decide), isP_off he, if_neg (by decide), isP_off he, if_neg (by decide)] at h
      obtain rfl := Option.some.inj h
      refine ⟨co_off he, fun i' d' => ⟨⟨coI l i' e, d', coE l i' e, coX l i' e⟩, ?_, co_off he⟩⟩
      simp only [rr]
      rw [tok_off he, if_neg (by decide), if_neg (by decide), isP_off he, if_neg (by decide), isP_off he, if_neg (by decide)]
structure Ls (l : List S91) : Prop where
  last : (tokP l ((l.length : Int) - 1) 0).f0 = 0
  text : ∀ i, (tokP l i 0).f0 = 4 → ((tokP l i 0).f1.size : Int) ≤ 65536
def Rel (l : List S91) (d : Int) (r q : Re) : Prop := q.e = r.e ∧ (r.e = 0 → q.i = r.i ∧ q.x = r.x ∧ r.d = d ∧ 0 ≤ r.i ∧ r.i < l.length)
theorem Ls.next {l : List S91} (h : Ls l) {i : Int} (hi : i < l.length) (hk : (tokP l i 0).f0 ≠ 0) : i + 1 < l.length := by
  by_cases c : i = (l.length : Int) - 1
  · rw [c] at hk; exact absurd h.last hk
  · omega
theorem Ls.mu {l : List S91} (h : Ls l) {i : Int} (hi : i < l.length) (h0 : 0 ≤ i) (s : ByteArray) (he : muE l i 0 s = 0) : 0 ≤ muI l i 0 s ∧ muI l i 0 s < l.length := by
  unfold muE at he
  unfold muI
  cases c : isP l i 0 s with
  | true => rw [if_pos rfl]; have := h.next hi (isP_k c); omega
  | false => rw [c, if_neg (by decide)] at he; exact absurd he (fl_ne 0)
theorem Ls.nm {l : List S91} (h : Ls l) {i : Int} (hi : i < l.length) (h0 : 0 ≤ i) (he : nmE l i 0 = 0) : 0 ≤ nmI l i 0 ∧ nmI l i 0 < l.length := by
  unfold nmE at he
  unfold nmI
  by_cases c : (tokP l i 0).f0 = 1
  · rw [if_pos c]; have := h.next hi (by rw [c]; decide); omega
  · rw [if_neg c] at he; exact absurd he (fl_ne 0)
theorem Ls.co {l : List S91} (h : Ls l) {i : Int} (hi : i < l.length) (h0 : 0 ≤ i) (he : coE l i 0 = 0) : 0 ≤ coI l i 0 ∧ coI l i 0 < l.length := by
  unfold coE at he
  unfold coI
  cases c : isP l (nmI l i 0) (nmE l i 0) ⟨#[46]⟩ with
  | true =>
    rw [c, if_pos rfl] at he
    rw [if_pos rfl]
    have e0 := (isP_le _ _ _ _ c).1
    rw [e0] at he c ⊢
    have n := h.nm hi h0 e0
    have := h.next n.2 (isP_k c)
    exact h.nm this (by omega) he
  | false =>
    rw [c, if_neg (by decide)] at he
    rw [if_neg (by decide)]
    exact h.nm hi h0 he
def MF (l : List S91) (k : Nat) (p : Gr) : Prop := ∀ i d r, pr l k (.f p) i d 0 = some r → 0 ≤ i → i < l.length → 0 ≤ d → d ≤ 50 → ∃ q, rr l k (.f p) i d 0 = some q ∧ Rel l d r q
def MC (l : List S91) (k : Nat) (p : Gr) (ss : List ByteArray) : Prop := ∀ i d x r, pr l k (.ch p ss x) i d 0 = some r → 0 ≤ i → i < l.length → 0 ≤ d → d ≤ 50 → ∃ q, rr l k (.ch p ss x) i d 0 = some q ∧ Rel l d r q
theorem link_rr {l : List S91} {k : Nat} {p : Gr} {ss : List ByteArray} (hc : MC l k p ss) {d : Int} {y : S27 → S27} {r0 q0 r : Re} (h1 : Rel l d r0 q0) (h : pr l k (.ch p ss (y r0.x)) r0.i r0.d r0.e = some r) (h0 : 0 ≤ d) (h50 : d ≤ 50) :
    ∃ q, rr l k (.ch p ss (y q0.x)) q0.i d q0.e = some q ∧ Rel l d r q := by
  obtain ⟨a1, a2⟩ := h1
  by_cases he : r0.e = 0
  · obtain ⟨b1, b2, b3, b4, b5⟩ := a2 he
    rw [a1, b1, b2, he]
    rw [he, b3] at h
    exact hc _ _ _ _ h b4 b5 h0 h50
  · obtain ⟨b1, b2⟩ := ch_err he h
    obtain ⟨q, c1, c2⟩ := b2 q0.i d (y q0.x)
    rw [a1]
    exact ⟨q, c1, by rw [c2, b1], fun u => absurd (b1 ▸ u) he⟩
theorem chain_rr {l : List S91} (hl : Ls l) {k : Nat} {p : Gr} {ss : List ByteArray} (hf : MF l k p) (hc : MC l k p ss) : MC l (k + 1) p ss := by
  intro i d x r h h0 h1 d0 d50
  simp only [pr] at h
  rw [if_pos trivial] at h
  simp only [rr]
  cases c : ss.find? (fun s => isP l i 0 s) with
  | none =>
    rw [c] at h
    obtain rfl := Option.some.inj h
    exact ⟨⟨i, d, 0, x⟩, rfl, rfl, fun _ => ⟨rfl, rfl, rfl, h0, h1⟩⟩
  | some s =>
    rw [c] at h
    obtain ⟨r0, g0, h⟩ := Option.bind_eq_some_iff.1 h
    have hs : isP l i 0 s = true := by have := List.find?_some c; simpa using this
    obtain ⟨q0, a1, a2⟩ := hf _ _ _ g0 (by omega) (hl.next h1 (isP_k hs)) d0 d50
    show ∃ q, Option.bind _ _ = some q ∧ _
    rw [a1, Option.bind_some]
    exact link_rr (y := fun z => ofP (opP s) [x, z]) hc a2 h d0 d50
theorem not_rr {l : List S91} (hl : Ls l) {k : Nat} (hn : MF l k .not) (ht : MF l k .test) : MF l (k + 1) .not := by
  intro i d r h h0 h1 d0 d50
  simp only [pr] at h
  simp only [rr]
  cases c : isP l i 0 wNot with
  | false =>
    rw [c, if_neg (by decide)] at h
    rw [if_neg (by decide)]
    exact ht _ _ _ h h0 h1 d0 d50
  | true =>
    rw [c, if_pos rfl, if_pos ⟨d0, by omega⟩] at h
    rw [if_pos rfl]
    obtain ⟨r0, g0, h⟩ := Option.bind_eq_some_iff.1 h
    by_cases hd : d = 50
    · rw [if_pos hd]
      have z : dnE d 0 = 4 := by unfold dnE; rw [if_pos ⟨by omega, rfl⟩]
      rw [z] at g0
      obtain ⟨e1, _⟩ := f_err l k _ _ _ _ _ (by decide) g0
      split at h
      · obtain rfl := Option.some.inj h
        exact ⟨_, rfl, by simp only [e1]; rfl, fun u => absurd (e1.symm.trans u) (by decide)⟩
      · exact absurd h (by simp)
    · rw [if_neg hd]
      have z : dnE d 0 = 0 := by unfold dnE; rw [if_neg (fun q => absurd q.1 (by omega))]
      unfold isI at g0
      rw [z, c, if_pos rfl] at g0
      obtain ⟨q0, a1, a2, a3⟩ := hn _ _ _ g0 (by omega) (hl.next h1 (isP_k c)) (by omega) (by omega)
      rw [a1, Option.bind_some]
      split at h
      · obtain rfl := Option.some.inj h
        refine ⟨_, rfl, a2, fun u => ?_⟩
        obtain ⟨b1, b2, b3, b4, b5⟩ := a3 u
        exact ⟨b1, by simp only [b2], by simp only [b3]; omega, b4, b5⟩
      · exact absurd h (by simp)
theorem atom_rr {l : List S91} (hl : Ls l) {k : Nat} (ho : MF l k .or) : MF l (k + 1) .atom := by
  intro i d r h h0 h1 d0 d50
  simp only [pr] at h
  simp only [rr]
  by_cases c1 : (tokP l i 0).f0 = 3
  · rw [if_pos c1] at h ⊢
    obtain rfl := Option.some.inj h
    have := hl.next h1 (by rw [c1]; decide)
    exact ⟨_, rfl, rfl, fun _ => ⟨rfl, rfl, rfl, by simp only; omega, this⟩⟩
  rw [if_neg c1] at h ⊢
  by_cases c2 : (tokP l i 0).f0 = 4
  · rw [if_pos c2] at h ⊢
    obtain rfl := Option.some.inj h
    have := hl.next h1 (by rw [c2]; decide)
    have ht : txP (tokP l i 0).f1 = valP 2 0 (tokP l i 0).f1 := by
      have := hl.text i c2
      unfold txP
      rw [if_neg (by omega)]
    exact ⟨_, rfl, rfl, fun _ => ⟨rfl, ht.symm, rfl, by simp only; omega, this⟩⟩
  rw [if_neg c2] at h ⊢
  cases c3 : isP l i 0 wNull with
  | true =>
    rw [c3, if_pos rfl] at h
    rw [if_pos rfl]
    obtain rfl := Option.some.inj h
    have := hl.next h1 (isP_k c3)
    exact ⟨_, rfl, rfl, fun _ => ⟨rfl, rfl, rfl, by simp only; omega, this⟩⟩
  | false =>
    rw [c3, if_neg (by decide)] at h
    rw [if_neg (by decide)]
    cases c4 : isP l i 0 wOpen with
    | false =>
      rw [c4, if_neg (by decide)] at h
      rw [if_neg (by decide)]
      obtain rfl := Option.some.inj h
      exact ⟨_, rfl, rfl, fun u => ⟨rfl, rfl, rfl, (hl.co h1 h0 u).1, (hl.co h1 h0 u).2⟩⟩
    | true =>
      rw [c4, if_pos rfl, if_pos ⟨d0, by omega⟩] at h
      rw [if_pos rfl]
      obtain ⟨r0, g0, h⟩ := Option.bind_eq_some_iff.1 h
      by_cases hd : d = 50
      · rw [if_pos hd]
        have z : dnE d 0 = 4 := by unfold dnE; rw [if_pos ⟨by omega, rfl⟩]
        rw [z] at g0
        obtain ⟨e1, _⟩ := f_err l k _ _ _ _ _ (by decide) g0
        split at h
        · obtain rfl := Option.some.inj h
          have e2 : muE l r0.i r0.e wShut = 4 := by rw [mu_off (by rw [e1]; decide), e1]
          exact ⟨_, rfl, by simp only [e2]; rfl, fun u => absurd (e2.symm.trans u) (by decide)⟩
        · exact absurd h (by simp)
      · rw [if_neg hd]
        have z : dnE d 0 = 0 := by unfold dnE; rw [if_neg (fun q => absurd q.1 (by omega))]
        unfold isI at g0
        rw [z, c4, if_pos rfl] at g0
        obtain ⟨q0, a1, a2, a3⟩ := ho _ _ _ g0 (by omega) (hl.next h1 (isP_k c4)) (by omega) (by omega)
        rw [a1, Option.bind_some]
        split at h
        · obtain rfl := Option.some.inj h
          by_cases he : r0.e = 0
          · obtain ⟨b1, b2, b3, b4, b5⟩ := a3 he
            refine ⟨_, rfl, by simp only [a2, b1], fun u => ?_⟩
            simp only [he] at u
            have m := hl.mu b5 b4 _ u
            exact ⟨by simp only [a2, b1], b2, by simp only [b3]; omega, by simp only [he]; exact m.1, by simp only [he]; exact m.2⟩
          · have e2 : muE l r0.i r0.e wShut = r0.e := mu_off he
            have e3 : muE l q0.i q0.e wShut = r0.e := by rw [mu_off (by rw [a2]; exact he), a2]
            exact ⟨_, rfl, by simp only [e2, e3], fun u => absurd (e2.symm.trans u) he⟩
        · exact absurd h (by simp)
theorem tst_rr {l : List S91} (hl : Ls l) {d : Int} {r q : Re} (h : Rel l d r q) : Rel l d (tst l r) (tst l q) := by
  obtain ⟨a1, a2⟩ := id h
  by_cases he : r.e = 0
  · obtain ⟨b1, b2, b3, b4, b5⟩ := a2 he
    unfold tst
    rw [a1, b1, b2]
    rw [he] at *
    cases c1 : isP l r.i 0 wIs with
    | false => rw [if_neg (by decide), if_neg (by decide)]; exact h
    | true =>
      rw [if_pos rfl, if_pos rfl]
      have n1 := hl.next b5 (isP_k c1)
      cases c2 : isP l (r.i + 1) 0 wNot with
      | false =>
        rw [if_neg (by decide), if_neg (by decide)]
        refine ⟨rfl, fun u => ?_⟩
        have m := hl.mu n1 (by omega) _ u
        exact ⟨rfl, rfl, b3, m.1, m.2⟩
      | true =>
        rw [if_pos rfl, if_pos rfl]
        have n2 := hl.next n1 (isP_k c2)
        refine ⟨rfl, fun u => ?_⟩
        have m := hl.mu n2 (by omega) _ u
        exact ⟨rfl, rfl, b3, m.1, m.2⟩
  · rw [tst_off he, tst_off (by rw [a1]; exact he)]
    exact ⟨a1, a2⟩
theorem test_rr {l : List S91} (hl : Ls l) {k : Nat} (hs : MF l k .sum) : MF l (k + 1) .test := by
  intro i d r h h0 h1 d0 d50
  simp only [pr] at h
  simp only [rr]
  obtain ⟨r0, g0, h⟩ := Option.bind_eq_some_iff.1 h
  obtain ⟨q0, a1, a2, a3⟩ := hs _ _ _ g0 h0 h1 d0 d50
  rw [a1, Option.bind_some]
  by_cases he : r0.e = 0
  · obtain ⟨b1, b2, b3, b4, b5⟩ := a3 he
    rw [a2, b1]
    cases c : six.find? (fun s => isP l r0.i r0.e s) with
    | none =>
      rw [c] at h
      obtain rfl := Option.some.inj h
      exact ⟨_, rfl, tst_rr hl ⟨a2, a3⟩⟩
    | some s =>
      rw [c] at h
      obtain ⟨r1, g1, h⟩ := Option.bind_eq_some_iff.1 h
      obtain rfl := Option.some.inj h
      have hs1 : isP l r0.i r0.e s = true := by have := List.find?_some c; simpa using this
      rw [he] at g1 hs1 ⊢
      rw [b3] at g1
      obtain ⟨q1, e1, e2, e3⟩ := hs _ _ _ g1 (by omega) (hl.next b5 (isP_k hs1)) d0 d50
      refine ⟨⟨q1.i, d, q1.e, ofP (opP s) [q0.x, q1.x]⟩, ?_, e2, fun u => ?_⟩
      · show Option.bind _ _ = _
        rw [e1, Option.bind_some]
      · obtain ⟨v1, v2, v3, v4, v5⟩ := e3 u
        exact ⟨v1, by simp only [b2, v2], v3, v4, v5⟩
  · rw [find_off he] at h
    simp only at h
    obtain rfl := Option.some.inj h
    rw [find_off (by rw [a2]; exact he)]
    exact ⟨_, rfl, tst_rr hl ⟨a2, a3⟩⟩
theorem all_rr {l : List S91} (hl : Ls l) (k : Nat) : (∀ p, MF l k p) ∧ ∀ p ss, MC l k p ss := by
  induction k with
  | zero => exact ⟨fun p i d r h => by simp [pr] at h, fun p ss i d x r h => by simp [pr] at h⟩
  | succ k ih =>
    refine ⟨fun p => ?_, fun p ss => chain_rr hl (ih.1 p) (ih.2 p ss)⟩
    cases p
    case not => exact not_rr hl (ih.1 _) (ih.1 _)
    case test => exact test_rr hl (ih.1 _)
    case atom => exact atom_rr hl (ih.1 _)
    case or | and | sum | prod =>
      intro i d r h h0 h1 d0 d50
      simp only [pr] at h
      simp only [rr]
      obtain ⟨r0, g0, h⟩ := Option.bind_eq_some_iff.1 h
      obtain ⟨q0, a1, a2⟩ := ih.1 _ _ _ _ g0 h0 h1 d0 d50
      rw [a1, Option.bind_some]
      exact link_rr (y := fun z => z) (ih.2 _ _) a2 h d0 d50
def fiE (l : List S91) (i e : Int) : Int := if e = 0 ∧ i < l.length ∧ (tokP l i 0).f0 = 0 then 0 else flE e 1
theorem expr_rr {l : List S91} {k : Nat} {e0 : Int} {r : Re} (h : pr l k (.f .or) 0 0 e0 = some r) (hl : e0 = 0 → Ls l ∧ 0 < l.length) :
    ∃ q, rr l k (.f .or) 0 0 e0 = some q ∧ fiE l q.i q.e = enE l r.i r.e ∧ (enE l r.i r.e = 0 → q.x = r.x) := by
  by_cases he : e0 = 0
  · subst he
    obtain ⟨hl, h1⟩ := hl rfl
    obtain ⟨q, a1, a2, a3⟩ := (all_rr hl k).1 .or 0 0 r h (Int.le_refl 0) (by omega) (Int.le_refl 0) (by decide)
    refine ⟨q, a1, ?_, ?_⟩
    · unfold fiE enE
      rw [a2]
      by_cases hr : r.e = 0
      · obtain ⟨b1, b2, b3, b4, b5⟩ := a3 hr
        rw [b1, hr]
        by_cases c : (tokP l r.i 0).f0 = 0
        · rw [if_pos ⟨rfl, b5, c⟩, if_neg (fun u => u.2 c)]
        · rw [if_neg (fun u => c u.2.2), if_pos ⟨rfl, c⟩]
          rfl
      · rw [if_neg (fun u => hr u.1), if_neg (fun u => hr u.1), fl_e hr]
    · intro u
      have hr : r.e = 0 := by
        unfold enE at u
        split at u
        · exact absurd u (by decide)
        · exact u
      exact (a3 hr).2.1
  · obtain ⟨b1, b2⟩ := f_err l k _ _ _ _ _ he h
    obtain ⟨q, c1, c2⟩ := b2 0 0
    refine ⟨q, c1, ?_, fun u => ?_⟩
    · unfold fiE enE
      rw [c2, b1, if_neg (fun u => he u.1), if_neg (fun u => he u.1), fl_e he]
    · unfold enE at u
      rw [b1, if_neg (fun u => he u.1)] at u
      exact absurd u he
end Go.Proofs.Ytcfgjaggccnoaaa.PParseSmall
namespace Go.Proofs.Ytcfgjaggccnoaaa.PParseSmall
open Go.RowKit Go.Proofs.YtcfgjaggccnoaaaW.PrintWords Go.Proofs.YtcfgjaggccnoaaaW.PrintLast Go.Proofs.YtcfgjaggccnoaaaW.PrintMore
attribute [local go_sem] max2_int min2_int max_two min_two max_three min_three max_four min_four
set_option linter.unusedVariables false
set_option linter.unusedSimpArgs false
set_option maxRecDepth 100000
set_option maxHeartbeats 4000000
abbrev atV (A : Option Addr) (n c : Nat) (i e : Int) : Value := .agg #[.slice A n c, .int .i64 i, .int .i64 e]
theorem put3_ {W : World} {gb t : Nat} {c0 c1 c2 v0 v1 v2 : Value} (hb : W.heap[gb]? = some (.cells #[c0, c1, c2] t (0, 0))) : (((W.setCell ⟨gb, 0, none⟩ v0).setCell ⟨gb, 1, none⟩ v1).setCell ⟨gb, 2, none⟩ v2).heap[gb]? = some (.cells #[v0, v1, v2] t (0, 0)) := by
  replace hb := blk_put (cs := #[c0, c1, c2]) (cs' := #[v0, c1, c2]) hb 0 v0 rfl
  replace hb := blk_put (cs := #[v0, c1, c2]) (cs' := #[v0, v1, c2]) hb 1 v1 rfl
  replace hb := blk_put (cs := #[v0, v1, c2]) (cs' := #[v0, v1, v2]) hb 2 v2 rfl
  exact hb
theorem r_step (A : Option Addr) (n c : Nat) (i e : Int) (w : World) (h0 : 0 ≤ i) (h1 : i ≤ 1000000) :
    Calls Try.prog 92 #[atV A n c i e] w fun r w' => r = .returned (atV A n c (i + 1) e) ∧ Below w.heap.size w w' := by
  go_enter Try.func92, Try.ntmps92
  go_wp2
  exact bodyPost_ret (results_cell_row rfl _ _ (w.heap.size + 1) 95 #[.slice A n c, .int .i64 (i + 1), .int .i64 e] (0, 0) _ rfl (by have := blk_new (w.alloc (Obj.cells #[Value.slice A n c, Value.int IntKind.i64 (i + 1), Value.int IntKind.i64 e] 95)) (Obj.cells #[Value.slice A n c, Value.int IntKind.i64 (i + 1), Value.int IntKind.i64 e] 95); rw [World.size_alloc] at this; exact this) Try.underlying95 rfl (by kernel_rfl)) rfl ⟨rfl, below_alloc (below_alloc (Below.refl _ _) _) _⟩
theorem r_fail (A : Option Addr) (n c : Nat) (i e x : Int) (w : World) :
    Calls Try.prog 95 #[atV A n c i e, .int .i64 x] w fun r w' => r = .returned (atV A n c i (flE e x)) ∧ Below w.heap.size w w' := by
  by_cases he : e = 0
  · subst he
    go_enter Try.func95, Try.ntmps95
    go_wp2
    exact bodyPost_ret (results_cell_row rfl _ _ (w.heap.size + 1) 95 #[.slice A n c, .int .i64 i, .int .i64 x] (0, 0) _ rfl (by have := blk_new (w.alloc (Obj.cells #[Value.slice A n c, Value.int IntKind.i64 i, Value.int IntKind.i64 x] 95)) (Obj.cells #[Value.slice A n c, Value.int IntKind.i64 i, Value.int IntKind.i64 x] 95); rw [World.size_alloc] at this; exact this) Try.underlying95 rfl (by kernel_rfl)) rfl ⟨rfl, below_alloc (below_alloc (Below.refl _ _) _) _⟩
  · have hb : (e == 0) = false := beq_eq_false_iff_ne.2 he
    have hf : flE e x = e := if_neg he
    rw [hf]
    clear hf he
    go_enter Try.func95, Try.ntmps95
    go_wp2
    exact bodyPost_ret (results_cell_row rfl _ _ (w.heap.size + 1) 95 #[.slice A n c, .int .i64 i, .int .i64 e] (0, 0) _ rfl (by have := blk_new (w.alloc (Obj.cells #[Value.slice A n c, Value.int IntKind.i64 i, Value.int IntKind.i64 e] 95)) (Obj.cells #[Value.slice A n c, Value.int IntKind.i64 i, Value.int IntKind.i64 e] 95); rw [World.size_alloc] at this; exact this) Try.underlying95 rfl (by kernel_rfl)) rfl ⟨rfl, below_alloc (below_alloc (Below.refl _ _) _) _⟩
def kiP (l : List S91) (i e : Int) : Int := if e = 0 ∧ i < l.length then (rd_T91 l i).f0 else -1
abbrev o95 (A : Option Addr) (n c : Nat) (i e : Int) : Obj := Obj.cells #[.slice A n c, .int .i64 i, .int .i64 e] 95
theorem r_kind {l : List S91} {A : Option Addr} {c : Nat} {i e k : Int} {w : World} (hC : Kd.C k91 w A l.length l) (h0 : 0 ≤ i) (hk : kiP l i e = k) :
    Calls Try.prog 94 #[atV A l.length c i e] w fun r w' => r = .returned (.int .i64 k) ∧ Below w.heap.size w w' := by
  subst hk
  unfold kiP
  by_cases he : e = 0
  · subst he
    by_cases hi : i < l.length
    · rw [if_pos ⟨rfl, hi⟩]
      have hd : decide ((l.length : Int) ≤ i) = false := decide_eq_false (by omega)
      obtain ⟨ad, rfl, t0, t1, t2, t3⟩ := at_T91 (Kd.C_old hC (below_alloc (Below.refl _ _) (o95 A l.length c i 0))) i h0 hi
      clear hC
      go_enter Try.func94, Try.ntmps94
      go_wp2
      go_ret
      exact ⟨rfl, below_alloc (Below.refl _ _) _⟩
    · rw [if_neg (fun q => hi q.2)]
      have hd : decide ((l.length : Int) ≤ i) = true := decide_eq_true (by omega)
      clear hC
      go_enter Try.func94, Try.ntmps94
      go_wp2
      go_ret
      exact ⟨rfl, below_alloc (Below.refl _ _) _⟩
  · rw [if_neg (fun q => he q.1)]
    have hd : (e != 0) = true := bne_iff_ne.2 he
    clear hC he
    go_enter Try.func94, Try.ntmps94
    go_wp2
    go_ret
    exact ⟨rfl, below_alloc (Below.refl _ _) _⟩
theorem r_is {l : List S91} {A : Option Addr} {c : Nat} {i e : Int} {w : World} {b : Bool} (hC : Kd.C k91 w A l.length l) (h0 : 0 ≤ i) (s : ByteArray) (hb : isP l i e s = b) :
    Calls Try.prog 91 #[atV A l.length c i e, .string s] w fun r w' => r = .returned (.bool b) ∧ Below w.heap.size w w' := by
  subst hb
  unfold isP tokP
  by_cases he : e = 0
  · subst he
    by_cases hi : i < l.length
    · rw [if_pos ⟨rfl, hi⟩]
      have hd : decide ((l.length : Int) ≤ i) = false := decide_eq_false (by omega)
      obtain ⟨ad, rfl, t0, t1, t2, t3⟩ := at_T91 (Kd.C_old hC (below_alloc (Below.refl _ _) (o95 A l.length c i 0))) i h0 hi
      clear hC
      generalize rd_T91 l i = t at *
      by_cases k2 : t.f0 = 2
      · have q2 : (t.f0 == 2) = true := beq_iff_eq.2 k2
        have r2 : isT t s = (t.f1.toList == s.toList) := by unfold isT; rw [q2]; rfl
        have R := am_ r2; clear r2 k2
        go_enter Try.func91, Try.ntmps91
        go_wp2
        go_ret
        exact ⟨by rw [R.out]; rfl, below_alloc (below_alloc (Below.refl _ _) _) _⟩
      · have q2 : (t.f0 == 2) = false := beq_eq_false_iff_ne.2 k2
        by_cases k5 : t.f0 = 5
        · have q5 : (t.f0 == 5) = true := beq_iff_eq.2 k5
          have r2 : isT t s = (t.f1.toList == s.toList) := by unfold isT; rw [q2, q5]; rfl
          have R := am_ r2; clear r2 k2 k5
          go_enter Try.func91, Try.ntmps91
          go_wp2
          go_ret
          exact ⟨by rw [R.out]; rfl, below_alloc (below_alloc (Below.refl _ _) _) _⟩
        · have q5 : (t.f0 == 5) = false := beq_eq_false_iff_ne.2 k5
          have r2 : isT t s = false := by unfold isT; rw [q2, q5]; rfl
          have R := am_ r2; clear r2 k2 k5
          go_enter Try.func91, Try.ntmps91
          go_wp2
          go_ret
          exact ⟨by rw [R.out]; rfl, below_alloc (below_alloc (Below.refl _ _) _) _⟩
    · rw [if_neg (fun q => hi q.2)]
      have hd : decide ((l.length : Int) ≤ i) = true := decide_eq_true (by omega)
      clear hC
      go_enter Try.func91, Try.ntmps91
      go_wp2
      go_ret
      exact ⟨rfl, below_alloc (Below.refl _ _) _⟩
  · rw [if_neg (fun q => he q.1)]
    have hd : (e != 0) = true := bne_iff_ne.2 he
    have hf : (e == 0) = false := beq_eq_false_iff_ne.2 he
    rw [hf]
    clear hC he hf
    go_enter Try.func91, Try.ntmps91
    go_wp2
    go_ret
    exact ⟨rfl, below_alloc (Below.refl _ _) _⟩
theorem bcell {W w1 : World} (hb : Below W.heap.size W w1) : (∀ b o, b < W.heap.size → w1.cell? ⟨b, o, none⟩ = W.cell? ⟨b, o, none⟩) ∧ (∀ b o, b < W.heap.size → w1.frozen? ⟨b, o, none⟩ = W.frozen? ⟨b, o, none⟩) :=
  ⟨fun b o h => hb.cell (p := ⟨b, o, none⟩) h, fun b o h => hb.frozen (p := ⟨b, o, none⟩) h⟩
theorem blk2 (w : World) (o o' : Obj) : ((w.alloc o).alloc o').heap[w.heap.size + 1]? = some o' := by
  have := blk_new (w.alloc o) o'
  rw [World.size_alloc] at this
  exact this
theorem two_new {w W w1 : World} {o o' : Obj} (e : W = (w.alloc o).alloc o') (hb : Below W.heap.size W w1) : w1.heap[w.heap.size]? = some o ∧ w1.heap[w.heap.size + 1]? = some o' ∧ Below w.heap.size w w1 ∧ w.heap.size + 1 < w1.heap.size := by
  subst e
  have h1 := blk_below (blk_alloc (blk_new w o) o') hb
  have h2 := blk_below (blk2 w o o') hb
  exact ⟨h1, h2, (below_alloc (below_alloc (Below.refl _ _) _) _).trans (hb.mono (by simp; omega)), blk_lt h2⟩
theorem r_must {l : List S91} {A : Option Addr} {c : Nat} {i e : Int} {w : World} (hC : Kd.C k91 w A l.length l) (h0 : 0 ≤ i) (h1 : i ≤ l.length) (hl : l.length ≤ 1000000) (s : ByteArray) :
    Calls Try.prog 162 #[atV A l.length c i e, .string s] w fun r w' => r = .returned (atV A l.length c (muI l i e s) (muE l i e s)) ∧ Below w.heap.size w w' := by
  have HC := Lib.hid hC; clear hC
  have h2 : i ≤ 1000000 := by omega
  unfold muI muE
  cases hb : isP l i e s with
  | true =>
    rw [if_pos rfl, if_pos rfl]
    have HB := Lib.hid hb; clear hb
    go_enter Try.func162, Try.ntmps162
    go_wp2_with (first
      | (go_at_call 91; refine (r_is (Kd.C_old HC.out (below_alloc (below_alloc (Below.refl _ _) _) _)) h0 s HB.out).mono ?_; rintro r w1 ⟨rfl, b1⟩; obtain ⟨x1, x2, x3, x4⟩ := two_new rfl b1; have X2 := Lib.hid x2; have X3 := Lib.hid x3; have X4 := Lib.hid x4; obtain ⟨c0, c1, c2, f0, f1, f2⟩ := bw3_ x1; clear b1 x1 x2 x3 x4)
      | (go_at_call 92; refine (r_step A l.length c i e w1 h0 h2).mono ?_; rintro r w2 ⟨rfl, b2⟩; have X5 := Lib.hid (blk_below X2.out b2); have X6 := Lib.hid (below_step X3.out b2); obtain ⟨d0, d1, d2, g0, g1, g2⟩ := bw3_ X5.out; clear b2))
    exact bodyPost_ret (results_cell_row rfl _ _ _ 95 #[.slice A l.length c, .int .i64 (i + 1), .int .i64 e] (0, 0) _ rfl (put3_ X5.out) Try.underlying95 rfl (by kernel_rfl)) rfl ⟨rfl, by repeat (first | (with_reducible exact X6.out) | refine below_set ?_ (Nat.le_succ _))⟩
  | false =>
    rw [if_neg (by decide), if_neg (by decide)]
    have HB := Lib.hid hb; clear hb
    go_enter Try.func162, Try.ntmps162
    go_wp2_with (first
      | (go_at_call 91; refine (r_is (Kd.C_old HC.out (below_alloc (below_alloc (Below.refl _ _) _) _)) h0 s HB.out).mono ?_; rintro r w1 ⟨rfl, b1⟩; obtain ⟨x1, x2, x3, x4⟩ := two_new rfl b1; have X2 := Lib.hid x2; have X3 := Lib.hid x3; have X4 := Lib.hid x4; obtain ⟨c0, c1, c2, f0, f1, f2⟩ := bw3_ x1; clear b1 x1 x2 x3 x4)
      | (go_at_call 95; refine (r_fail A l.length c i e 1 w1).mono ?_; rintro r w2 ⟨rfl, b2⟩; have X5 := Lib.hid (blk_below X2.out b2); have X6 := Lib.hid (below_step X3.out b2); obtain ⟨d0, d1, d2, g0, g1, g2⟩ := bw3_ X5.out; clear b2))
    exact bodyPost_ret (results_cell_row rfl _ _ _ 95 #[.slice A l.length c, .int .i64 i, .int .i64 (flE e 1)] (0, 0) _ rfl (put3_ X5.out) Try.underlying95 rfl (by kernel_rfl)) rfl ⟨rfl, by repeat (first | (with_reducible exact X6.out) | refine below_set ?_ (Nat.le_succ _))⟩
end Go.Proofs.Ytcfgjaggccnoaaa.PParseSmall
namespace Go.Proofs.Ytcfgjaggccnoaaa.PParseSmall
open Go.RowKit Go.Proofs.YtcfgjaggccnoaaaW.PrintWords Go.Proofs.YtcfgjaggccnoaaaW.PrintLast Go.Proofs.YtcfgjaggccnoaaaW.PrintMore
attribute [local go_sem] max2_int min2_int max_two min_two max_three min_three max_four min_four
set_option linter.unusedVariables false
set_option linter.unusedSimpArgs false
set_option maxRecDepth 100000
set_option maxHeartbeats 4000000
theorem lit2 {P : Program} {ops : Array Oper} {Q : Exit → Act → World → Prop} {o : Oper} {rest : List Oper} {a : Act} {W : World} {x y : S27} {A B : Option Addr} {c b : Nat} {ok : Nat → Prop} {N' : Tmp} (hgd : o.guard = none) (hd : o.dst = some N') (hx : Tr W ok x A c) (hy : Tr W ok y B b) (hf : ok W.heap.size)
    (hrun : (execOp a.eval o).run P W = .ok (.value (.slice (some ⟨W.heap.size, 0, none⟩) 2 2)) (W.alloc (.cells #[.int .i64 x.f0, .string x.f1, .string x.f2, .int .i64 x.f3, .int .i64 x.f4, .int .i64 x.f5.f0, .int .i64 x.f5.f1, .string x.f5.f2, .slice A x.f6.length c, .int .i64 y.f0, .string y.f1, .string y.f2, .int .i64 y.f3, .int .i64 y.f4, .int .i64 y.f5.f0, .int .i64 y.f5.f1, .string y.f5.f2, .slice B y.f6.length b] 27)))
    (h : ∀ A1 c1 w1, Kd.V k27 27 w1 0 ok (.slice A1 2 c1) [x, y] → Below W.heap.size W w1 → wpList P ops Q rest (a.put o.dst (.slice A1 2 c1)) w1) : wpList P ops Q (o :: rest) a W := by
  refine Kd.N_lit k27 W.heap.size 27 hgd hd (xs := [x, y]) (ok := ok) (okp := ok) hrun (reps2 hx hy) (fun _ q => q) hf (Below.refl _ _) (Nat.le_refl _) (by simp) ?_
  intro v1 w1 hn hb _ _
  obtain ⟨A1, c1, rfl, hl, hF⟩ := Kd.N_V (base' := 0) hn
  exact h A1 c1 w1 ⟨A1, c1, rfl, hl, hF⟩ hb
theorem three_new {w W w1 : World} {o o' o2 : Obj} (e : W = ((w.alloc o).alloc o').alloc o2) (hb : Below W.heap.size W w1) : w1.heap[w.heap.size]? = some o ∧ w1.heap[w.heap.size + 1]? = some o' ∧ w1.heap[w.heap.size + 2]? = some o2 ∧ Below w.heap.size w w1 ∧ w.heap.size + 2 < w1.heap.size := by
  subst e
  have h0 := blk_below (blk_alloc (blk_alloc (blk_new w o) o') o2) hb
  have h1 := blk_below (blk_alloc (blk2 w o o') o2) hb
  have h2 := blk2 (w.alloc o) o' o2
  rw [World.size_alloc] at h2
  have h2 := blk_below h2 hb
  exact ⟨h0, h1, h2, (below_alloc (below_alloc (below_alloc (Below.refl _ _) _) _) _).trans (hb.mono (by simp; omega)), blk_lt h2⟩
theorem Tr.old {w W : World} {ok : Nat → Prop} {x : S27} {A : Option Addr} {c : Nat} (h : Tr w ok x A c) (hb : Below w.heap.size w W) : Tr W (fun k => (ok k ∧ k < w.heap.size) ∨ w.heap.size + 3 ≤ k) x A c := (h.mono fun k hk ho => .inl ⟨ho, hk⟩).below hb
theorem r_two (op : Int) (x y : S27) {A B : Option Addr} {c b : Nat} {ok : Nat → Prop} {w : World} (hx : Tr w ok x A c) (hy : Tr w ok y B b) :
    Calls Try.prog 93 #[.int .i64 op, exV x A c, exV y B b] w fun r w' => ∃ vA vc, r = .returned (exV (ofP op [x, y]) vA vc) ∧ Tr w' (fun k => ok k ∨ w.heap.size ≤ k) (ofP op [x, y]) vA vc ∧ Below w.heap.size w w' := by
  have HX := Lib.hid hx; have HY := Lib.hid hy; clear hx hy
  unfold exV
  go_enter Try.func93, Try.ntmps93
  go_wp2_with ((with_reducible refine gate_dst (N := 10) rfl ?_); refine lit2 (N' := 10) ?hg ?hd (HX.out.old (below_alloc (below_alloc (below_alloc (Below.refl _ _) _) _) _)) (HY.out.old (below_alloc (below_alloc (below_alloc (Below.refl _ _) _) _) _)) ?hf ?hr ?_; (case hd => rfl); (case hg => rfl); (case hf => exact .inr (by simp)); (case hr => first | (go_simp; done) | (go_simp; rfl)); intro A1 c1 w1 v1 b1; obtain ⟨x0, x1, x2, x3, x4⟩ := three_new rfl b1; have X2 := Lib.hid x2; have X3 := Lib.hid x3; have X4 := Lib.hid x4; have V := Lib.hid v1; obtain ⟨p0, p1, p2, p3, p4, p5, p6, p7, p8, q0, q1, q2, q3, q4, q5, q6, q7, q8⟩ := bw9_ x2; clear b1 x0 x1 x2 x3 x4 v1; simp only [Act.put, sa_, sz_, ss_])
  refine bodyPost_ret (results_cell_row rfl _ _ _ 27 #[.int .i64 op, .string ⟨#[]⟩, .string ⟨#[]⟩, .int .i64 0, .int .i64 0, .int .i64 0, .int .i64 0, .string ⟨#[]⟩, .slice A1 2 c1] (0, 0) _ rfl (put9_ X2.out) Try.underlying27 rfl (by kernel_rfl)) rfl ⟨A1, c1, rfl, ?_, ?_⟩
  · obtain ⟨A2, c2, e2, l2, f2⟩ := V.out
    obtain ⟨rfl, rfl⟩ : A1 = A2 ∧ c1 = c2 := by injection e2 with e3 e4 e5; exact ⟨e3, e5⟩
    have T : Tr w1 (fun k => (ok k ∧ k < w.heap.size) ∨ w.heap.size + 3 ≤ k) (ofP op [x, y]) A1 c1 := ⟨l2, f2⟩
    exact (T.chg chg9_ (by omega)).mono fun k _ hk => hk.elim (fun q => .inl q.1) (fun q => .inr (by omega))
  · exact X3.out.trans (chg9_.1.mono (by omega))
end Go.Proofs.Ytcfgjaggccnoaaa.PParseSmall
namespace Go.Proofs.Ytcfgjaggccnoaaa.PParseSmall
open Go.RowKit Go.Proofs.YtcfgjaggccnoaaaW.PrintWords Go.Proofs.YtcfgjaggccnoaaaW.PrintLast Go.Proofs.YtcfgjaggccnoaaaW.PrintMore
attribute [local go_sem] max2_int min2_int max_two min_two max_three min_three max_four min_four
set_option linter.unusedVariables false
set_option linter.unusedSimpArgs false
set_option maxRecDepth 100000
set_option maxHeartbeats 4000000
structure RS (w0 w : World) (L : List (Nat × Array Value × TypeId)) (T : List (S27 × Option Addr × Nat)) : Prop where
  bl : Below w0.heap.size w0 w
  bx : ∀ b ∈ L, w.heap[b.1]? = some (.cells b.2.1 b.2.2 (0, 0))
  lo : ∀ b ∈ L, w0.heap.size ≤ b.1
  nd : (L.map (·.1)).Nodup
  tr : ∀ t ∈ T, Tr w (fun k => w0.heap.size ≤ k ∧ k ∉ L.map (·.1)) t.1 t.2.1 t.2.2
section
variable {w0 w w1 : World} {L : List (Nat × Array Value × TypeId)} {T T' : List (S27 × Option Addr × Nat)} {g : Nat} {cs cs' : Array Value} {t : TypeId} {x : S27} {A : Option Addr} {c : Nat}
theorem RS.start (w : World) : RS w w [] [] := ⟨Below.refl _ _, by simp, by simp, by simp, by simp⟩
theorem RS.get (h : RS w0 w L T) (i : Nat) (e : L[i]? = some (g, cs, t)) : w.heap[g]? = some (.cells cs t (0, 0)) := h.bx _ (List.mem_of_getElem? e)
theorem RS.tre (h : RS w0 w L T) (i : Nat) (e : T[i]? = some (x, A, c)) : Tr w (fun k => w0.heap.size ≤ k ∧ k ∉ L.map (·.1)) x A c := h.tr _ (List.mem_of_getElem? e)
theorem RS.below (h : RS w0 w L T) (k : Below w.heap.size w w1) : RS w0 w1 L T :=
  ⟨h.bl.trans (k.mono h.bl.size), fun b hb => blk_below (h.bx b hb) k, h.lo, h.nd, fun t ht => (h.tr t ht).below k⟩
theorem RS.drew (h : RS w0 w L T) : RS w0 w.drew L T := h.below (Below.drew (Below.refl _ _))
theorem RS.lt (h : RS w0 w L T) {b : Nat × Array Value × TypeId} (hb : b ∈ L) : b.1 < w.heap.size := blk_lt (h.bx b hb)
theorem RS.box (h : RS w0 w L T) (hb : w1.heap[g]? = some (.cells cs t (0, 0))) (k : Below w.heap.size w w1) (hg : w.heap.size ≤ g) : RS w0 w1 ((g, cs, t) :: L) T := by
  have h1 := h.below k
  refine ⟨h1.bl, ?_, ?_, ?_, ?_⟩
  · intro b hm
    rcases List.mem_cons.1 hm with rfl | hm
    · exact hb
    · exact h1.bx b hm
  · intro b hm
    rcases List.mem_cons.1 hm with rfl | hm
    · exact Nat.le_trans h.bl.size hg
    · exact h.lo b hm
  · rw [List.map_cons, List.nodup_cons]
    refine ⟨fun hm => ?_, h.nd⟩
    obtain ⟨b, hb1, hb2⟩ := List.mem_map.1 hm
    have := h.lt hb1
    omega
  · intro t ht
    refine ((h.tr t ht).mono fun q hl hq => ?_).below k
    refine ⟨hq.1, fun hm => ?_⟩
    rw [List.map_cons] at hm
    rcases List.mem_cons.1 hm with hm | hm
    · omega
    · exact hq.2 hm
theorem RS.put (h : RS w0 w L T) (i : Nat) (e : L[i]? = some (g, cs, t)) (hb : w1.heap[g]? = some (.cells cs' t (0, 0))) (k : Chg g w w1) : RS w0 w1 (L.set i (g, cs', t)) T := by
  have hm : (g, cs, t) ∈ L := List.mem_of_getElem? e
  have hmap : (L.set i (g, cs', t)).map (·.1) = L.map (·.1) := by
    rw [List.map_set]
    have hg : (L.map (·.1))[i]'(by simpa using (List.getElem?_eq_some_iff.1 e).1) = g := by rw [List.getElem_map, (List.getElem?_eq_some_iff.1 e).2]
    conv => lhs; arg 3; rw [← hg]
    exact List.set_getElem_self _
  have hi : i < L.length := (List.getElem?_eq_some_iff.1 e).1
  have hgi : L[i].1 = g := by rw [(List.getElem?_eq_some_iff.1 e).2]
  have hne : ∀ j (hj : j < L.length), j ≠ i → L[j].1 ≠ g := by
    intro j hj hji hc
    have hp := List.pairwise_iff_getElem.1 h.nd
    rcases Nat.lt_or_gt_of_ne hji with q | q
    · exact hp j i (by simpa using hj) (by simpa using hi) q (by rw [List.getElem_map, List.getElem_map, hc, hgi])
    · exact hp i j (by simpa using hi) (by simpa using hj) q (by rw [List.getElem_map, List.getElem_map, hc, hgi])
  refine ⟨h.bl.trans (k.1.mono (h.lo _ hm)), ?_, ?_, by rw [hmap]; exact h.nd, ?_⟩
  · intro b hb'
    obtain ⟨j, hj, rfl⟩ := List.getElem_of_mem hb'
    have hj' : j < L.length := by simpa using hj
    rw [List.getElem_set]
    split
    · exact hb
    · next q => exact k.blk (h.bx _ (List.getElem_mem hj')) (hne j hj' (fun e => q e.symm))
  · intro b hb'
    rcases List.mem_or_eq_of_mem_set hb' with q | q
    · exact h.lo b q
    · rw [q]; exact (h.lo _ hm : w0.heap.size ≤ g)
  · intro t ht
    rw [hmap]
    exact (h.tr t ht).chg k fun q => q.2 (List.mem_map.2 ⟨_, hm, rfl⟩)
theorem RS.add (h : RS w0 w L T) (ht : Tr w (fun k => w0.heap.size ≤ k ∧ k ∉ L.map (·.1)) x A c) : RS w0 w L ((x, A, c) :: T) :=
  ⟨h.bl, h.bx, h.lo, h.nd, fun t hm => (List.mem_cons.1 hm).elim (fun e => e ▸ ht) (fun hm => h.tr t hm)⟩
theorem RS.call (h : RS w0 w L T) (k : Below w.heap.size w w1) (ht : Tr w1 (fun k => w.heap.size ≤ k) x A c) : RS w0 w1 L ((x, A, c) :: T) := by
  refine (h.below k).add (ht.mono fun q hl hq => ⟨Nat.le_trans h.bl.size hq, fun hm => ?_⟩)
  obtain ⟨b, hb1, hb2⟩ := List.mem_map.1 hm
  have := h.lt hb1
  omega
theorem RS.callO (h : RS w0 w L T) (k : Below w.heap.size w w1) (ht : Tr w1 (fun k => (w0.heap.size ≤ k ∧ k ∉ L.map (·.1)) ∨ w.heap.size ≤ k) x A c) : RS w0 w1 L ((x, A, c) :: T) := by
  refine (h.below k).add (ht.mono fun q hl hq => hq.elim id fun hq => ⟨Nat.le_trans h.bl.size hq, fun hm => ?_⟩)
  obtain ⟨b, hb1, hb2⟩ := List.mem_map.1 hm
  have := h.lt hb1
  omega
theorem RS.sub (h : RS w0 w L T) (hs : ∀ t ∈ T', t ∈ T) : RS w0 w L T' := ⟨h.bl, h.bx, h.lo, h.nd, fun t ht => h.tr t (hs t ht)⟩
theorem RS.out (h : RS w0 w L T) (i : Nat) (e : T[i]? = some (x, A, c)) : Tr w (fun k => w0.heap.size ≤ k) x A c := (h.tre i e).mono fun _ _ q => q.1
end
end Go.Proofs.Ytcfgjaggccnoaaa.PParseSmall
