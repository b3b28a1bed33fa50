import Derived.Test.YtcfgjaggccnoaaaPParseSmallx8
import Derived.StillTailTactics
import Derived.Outline
import Derived.Defers
namespace Go.Proofs.Ytcfgjaggccnoaaa.PParseSmall
open Go.RowKit Go.Proofs.YtcfgjaggccnoaaaW.PrintWords Go.Proofs.YtcfgjaggccnoaaaW.PrintLast Go.Proofs.YtcfgjaggccnoaaaW.PrintMore
attribute [local go_sem] max2_int min2_int max_two min_two max_three min_three max_four min_four
set_option linter.unusedVariables false
set_option linter.unusedSimpArgs false
set_option maxRecDepth 100000
set_option maxHeartbeats 4000000
/-! the parser's variable and what calls do to it -/
/-- The parser's variable, told of any world. -/
def Ps (W : World) (g : Nat) (A : Option Addr) (n c : Nat) (i d e : Int) : Prop := W.heap[g]? = some (.cells #[.slice A n c, .int .i64 i, .int .i64 d, .int .i64 e] 89 (0, 0))
/-- What was is as it was, but for the block g. -/
def Chg (g : Nat) (w w' : World) : Prop := Below g w w' ∧ KeepBut w w' g none
theorem Chg.refl (g : Nat) (w : World) : Chg g w w := ⟨Below.refl g w, KeepBut.refl w g none⟩
theorem Chg.trans {g : Nat} {w w1 w2 : World} (h : Chg g w w1) (k : Chg g w1 w2) : Chg g w w2 := ⟨h.1.trans k.1, h.2.trans k.2 (.inl rfl)⟩
theorem Chg.below {g : Nat} {w w1 : World} (hg : g < w.heap.size) (h : Below w.heap.size w w1) : Chg g w w1 := ⟨h.mono (Nat.le_of_lt hg), KeepBut.of_below h g none⟩
theorem Chg.set {g : Nat} {w w1 : World} (h : Chg g w w1) (j : Nat) (u : Value) : Chg g w (w1.setCell ⟨g, j, none⟩ u) := ⟨h.1.setCell (Nat.le_refl _) _, h.2.set_ j u⟩
theorem Chg.alloc {g : Nat} {w w1 : World} (hg : g < w.heap.size) (h : Chg g w w1) (o : Obj) : Chg g w (w1.alloc o) := ⟨h.1.alloc (Nat.le_trans (Nat.le_of_lt hg) h.2.1) o, keep_alloc h.2 o⟩
theorem Chg.drewN {g : Nat} {w w1 : World} (h : Chg g w w1) (n : Nat) : Chg g w (w1.drewN n) := ⟨pw_below_drewN h.1 n, h.2⟩
theorem Chg.size {g : Nat} {w w1 : World} (h : Chg g w w1) : w.heap.size ≤ w1.heap.size := h.2.1
theorem Chg.blk {g : Nat} {w w1 : World} (h : Chg g w w1) {b : Nat} {o : Obj} (hb : w.heap[b]? = some o) (hn : b ≠ g) : w1.heap[b]? = some o := h.2.blk hb hn (by simp)
theorem Ps.lt {w : World} {g : Nat} {A : Option Addr} {n c : Nat} {i d e : Int} (h : Ps w g A n c i d e) : g < w.heap.size := blk_lt h
theorem Ps.alloc {w : World} {g : Nat} {A : Option Addr} {n c : Nat} {i d e : Int} (h : Ps w g A n c i d e) (o : Obj) : Ps (w.alloc o) g A n c i d e := blk_alloc h o
theorem Ps.drewN {w : World} {g : Nat} {A : Option Addr} {n c : Nat} {i d e : Int} (h : Ps w g A n c i d e) (m : Nat) : Ps (w.drewN m) g A n c i d e := h
theorem Ps.below {w w1 : World} {g : Nat} {A : Option Addr} {n c : Nat} {i d e : Int} (h : Ps w g A n c i d e) (hb : Below w.heap.size w w1) : Ps w1 g A n c i d e := (hb.block g h.lt).trans h
theorem Ps.far {w : World} {g : Nat} {A : Option Addr} {n c : Nat} {i d e : Int} (h : Ps w g A n c i d e) {p : Addr} (hp : p.block ≠ g) (u : Value) : Ps (w.setCell p u) g A n c i d e := (Below.heap_setCell w p u g (fun q => hp q.symm)).trans h
theorem Ps.at_ {w : World} {g : Nat} {A : Option Addr} {n c : Nat} {i d e : Int} (h : Ps w g A n c i d e) (x : Int) : Ps (w.setCell ⟨g, 1, none⟩ (.int .i64 x)) g A n c x d e := blk_put (cs := #[.slice A n c, .int .i64 i, .int .i64 d, .int .i64 e]) h 1 _ rfl
theorem Ps.deep {w : World} {g : Nat} {A : Option Addr} {n c : Nat} {i d e : Int} (h : Ps w g A n c i d e) (x : Int) : Ps (w.setCell ⟨g, 2, none⟩ (.int .i64 x)) g A n c i x e := blk_put (cs := #[.slice A n c, .int .i64 i, .int .i64 d, .int .i64 e]) h 2 _ rfl
theorem Ps.err {w : World} {g : Nat} {A : Option Addr} {n c : Nat} {i d e : Int} (h : Ps w g A n c i d e) (x : Int) : Ps (w.setCell ⟨g, 3, none⟩ (.int .i64 x)) g A n c i d x := blk_put (cs := #[.slice A n c, .int .i64 i, .int .i64 d, .int .i64 e]) h 3 _ rfl
/-! ok, fail, down, up -/
def flE (e x : Int) : Int := if e = 0 then x else e
def dnE (d e : Int) : Int := if d + 1 > 50 ∧ e = 0 then 4 else e
theorem ok_any {g : Nat} {A : Option Addr} {n c : Nat} {i d e : Int} {w : World} (h : Ps w g A n c i d e) :
    Calls Try.prog 43 #[.pointer (some ⟨g, 0, none⟩)] w fun r w' => r = .returned (.bool (e == 0)) ∧ w' = w := by
  obtain ⟨c0, c1, c2, c3, f0, f1, f2, f3⟩ := bw4_ h
  go_enter Try.func43, Try.ntmps43
  go_wp2
  go_ret
  exact ⟨rfl, rfl⟩
theorem ok_no {g : Nat} {A : Option Addr} {n c : Nat} {i d e : Int} {w : World} (h : Ps w g A n c i d e) (he : e ≠ 0) :
    Calls Try.prog 43 #[.pointer (some ⟨g, 0, none⟩)] w fun r w' => r = .returned (.bool false) ∧ w' = w := (ok_any h).mono fun r w' ⟨a, b⟩ => ⟨by rw [a, beq_eq_false_iff_ne.2 he], b⟩
theorem ok_yes {g : Nat} {A : Option Addr} {n c : Nat} {i d : Int} {w : World} (h : Ps w g A n c i d 0) :
    Calls Try.prog 43 #[.pointer (some ⟨g, 0, none⟩)] w fun r w' => r = .returned (.bool true) ∧ w' = w := (ok_any h).mono fun r w' ⟨a, b⟩ => ⟨a, b⟩
theorem fail_any {g : Nat} {A : Option Addr} {n c : Nat} {i d e : Int} {w : World} (h : Ps w g A n c i d e) (x : Int) :
    Calls Try.prog 82 #[.pointer (some ⟨g, 0, none⟩), .int .i64 x] w fun r w' => r = .returned (.tuple #[]) ∧ Ps w' g A n c i d (flE e x) ∧ Chg g w w' := by
  obtain ⟨c0, c1, c2, c3, f0, f1, f2, f3⟩ := bw4_ h
  by_cases he : e = 0
  · subst he
    have H := Lib.hid h; clear h
    go_enter Try.func82, Try.ntmps82
    go_wp2
    go_end0
    exact ⟨rfl, H.out.err x, (Chg.refl g w).set 3 _⟩
  · have hf : flE e x = e := if_neg he
    rw [hf]
    clear hf
    have H := Lib.hid h; clear h
    have hb : (e == 0) = false := beq_eq_false_iff_ne.2 he
    go_enter Try.func82, Try.ntmps82
    go_wp2
    go_end0
    exact ⟨rfl, H.out, Chg.refl g w⟩
theorem up_any {g : Nat} {A : Option Addr} {n c : Nat} {i d e : Int} {w : World} (h : Ps w g A n c i d e) (h0 : -1000 ≤ d) (h1 : d ≤ 1000) :
    Calls Try.prog 152 #[.pointer (some ⟨g, 0, none⟩)] w fun r w' => r = .returned (.tuple #[]) ∧ Ps w' g A n c i (d - 1) e ∧ Chg g w w' := by
  obtain ⟨c0, c1, c2, c3, f0, f1, f2, f3⟩ := bw4_ h
  have H := Lib.hid h; clear h
  go_enter Try.func152, Try.ntmps152
  go_wp2
  go_end0
  exact ⟨rfl, H.out.deep _, (Chg.refl g w).set 2 _⟩
theorem down_any {g : Nat} {A : Option Addr} {n c : Nat} {i d e : Int} {w : World} (h : Ps w g A n c i d e) (h0 : -1000 ≤ d) (h1 : d ≤ 1000) :
    Calls Try.prog 151 #[.pointer (some ⟨g, 0, none⟩)] w fun r w' => r = .returned (.tuple #[]) ∧ Ps w' g A n c i (d + 1) (dnE d e) ∧ Chg g w w' := by
  obtain ⟨c0, c1, c2, c3, f0, f1, f2, f3⟩ := bw4_ h
  have h2 := h.deep (d + 1)
  have H := Lib.hid h; clear h
  have H2 := Lib.hid h2; clear h2
  obtain ⟨b0, b1, b2, b3, g0, g1, g2, g3⟩ := bw4_ H2.out
  by_cases hd : d + 1 > 50
  · have hd2 : decide (50 < d + 1) = true := decide_eq_true hd
    go_enter Try.func151, Try.ntmps151
    go_wp2_with (go_at_call 82; refine (fail_any H2.out 4).mono ?_; rintro r w' ⟨rfl, hp, hc⟩)
    go_end0
    refine ⟨rfl, ?_, ((Chg.refl g w).set 2 _).trans hc⟩
    unfold dnE
    unfold flE at hp
    by_cases he : e = 0
    · rw [if_pos ⟨hd, he⟩]
      rw [if_pos he] at hp
      exact hp
    · rw [if_neg (fun q => he q.2)]
      rw [if_neg he] at hp
      exact hp
  · have hd2 : decide (50 < d + 1) = false := decide_eq_false hd
    go_enter Try.func151, Try.ntmps151
    go_wp2
    go_end0
    refine ⟨rfl, ?_, (Chg.refl g w).set 2 _⟩
    unfold dnE
    rw [if_neg (fun q => absurd q.1 (by omega))]
    exact H2.out
end Go.Proofs.Ytcfgjaggccnoaaa.PParseSmall
