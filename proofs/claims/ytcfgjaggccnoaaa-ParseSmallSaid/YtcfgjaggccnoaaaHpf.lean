import Derived.Test.YtcfgjaggccnoaaaHpe
namespace Go.Proofs.Ytcfgjaggccnoaaa.PParseSmall
open Go.RowKit Go.Proofs.YtcfgjaggccnoaaaW.PrintWords Go.Proofs.YtcfgjaggccnoaaaW.PrintLast Go.Proofs.YtcfgjaggccnoaaaW.PrintMore
attribute [local go_sem] max2_int min2_int max_two min_two max_three min_three max_four min_four
set_option linter.unusedVariables false
set_option linter.unusedSimpArgs false
set_option maxRecDepth 100000
set_option maxHeartbeats 4000000
/-! the parser's state, whole -/
def Tok (w : World) (g : Nat) (A : Option Addr) (l : List S91) : Prop := ∃ wB, Kd.C k91 wB A l.length l ∧ Below wB.heap.size wB w ∧ wB.heap.size ≤ g
structure St (w : World) (g : Nat) (A : Option Addr) (c : Nat) (l : List S91) (i d e : Int) : Prop where
  ps : Ps w g A l.length c i d e
  tk : Tok w g A l
  i0 : 0 ≤ i
  i1 : i ≤ l.length
  hl : l.length ≤ 1000000
theorem Tok.now {w : World} {g : Nat} {A : Option Addr} {l : List S91} (h : Tok w g A l) : Kd.C k91 w A l.length l := by
  obtain ⟨wB, hc, hb, _⟩ := h
  exact Kd.C_below hc hb
theorem Tok.chg {w w' : World} {g : Nat} {A : Option Addr} {l : List S91} (h : Tok w g A l) (k : Chg g w w') : Tok w' g A l := by
  obtain ⟨wB, hc, hb, hg⟩ := h
  exact ⟨wB, hc, hb.trans (k.1.mono hg), hg⟩
theorem St.lt {w : World} {g : Nat} {A : Option Addr} {c : Nat} {l : List S91} {i d e : Int} (h : St w g A c l i d e) : g < w.heap.size := h.ps.lt
theorem St.go {w w' : World} {g : Nat} {A : Option Addr} {c : Nat} {l : List S91} {i d e i' d' e' : Int} (h : St w g A c l i d e) (k : Chg g w w') (p : Ps w' g A l.length c i' d' e') (h0 : 0 ≤ i') (h1 : i' ≤ l.length) : St w' g A c l i' d' e' := ⟨p, h.tk.chg k, h0, h1, h.hl⟩
theorem St.below {w w' : World} {g : Nat} {A : Option Addr} {c : Nat} {l : List S91} {i d e : Int} (h : St w g A c l i d e) (k : Below w.heap.size w w') : St w' g A c l i d e := h.go (Chg.below h.lt k) (h.ps.below k) h.i0 h.i1
theorem Chg.far' {g gb : Nat} {w w' : World} (hg : g < w.heap.size) (h : Chg gb w w') (hb : g < gb) : KeepBut w w' gb none := h.2
theorem tok_le (l : List S91) (i e : Int) (h : (tokP l i e).f0 ≠ 0) : e = 0 ∧ i < l.length := by
  unfold tokP at h
  split at h
  · assumption
  · exact absurd rfl h
theorem isP_le (l : List S91) (i e : Int) (s : ByteArray) (h : isP l i e s = true) : e = 0 ∧ i < l.length := by
  unfold isP isT at h
  simp only [Bool.and_eq_true, Bool.or_eq_true, beq_iff_eq] at h
  refine tok_le l i e ?_
  rcases h.2.1 with q | q <;> rw [q] <;> decide
def nmI (l : List S91) (i e : Int) : Int := if (tokP l i e).f0 = 1 then i + 1 else i
def nmE (l : List S91) (i e : Int) : Int := if (tokP l i e).f0 = 1 then e else flE e 1
def nmS (l : List S91) (i e : Int) : ByteArray := if (tokP l i e).f0 = 1 then (tokP l i e).f1 else ⟨#[]⟩
theorem name_st {w : World} {g : Nat} {A : Option Addr} {c : Nat} {l : List S91} {i d e : Int} (h : St w g A c l i d e) :
    Calls Try.prog 194 #[.pointer (some ⟨g, 0, none⟩)] w fun r w' => r = .returned (.string (nmS l i e)) ∧ St w' g A c l (nmI l i e) d (nmE l i e) ∧ Chg g w w' := by
  have h0 := h.i0; have h1 := h.i1
  unfold nmS nmI nmE
  by_cases k : (tokP l i e).f0 = 1
  · rw [if_pos k, if_pos k, if_pos k]
    have q := tok_le l i e (by rw [k]; decide)
    refine (name_yes h.ps h.tk.now h.i0 h.i1 h.hl k).mono ?_
    rintro r w' ⟨hr, hp, hc⟩
    exact ⟨hr, h.go hc hp (by omega) (by omega), hc⟩
  · rw [if_neg k, if_neg k, if_neg k]
    refine (name_no h.ps h.tk.now h.i0 k).mono ?_
    rintro r w' ⟨hr, hp, hc⟩
    exact ⟨hr, h.go hc hp h0 h1, hc⟩
theorem take_yes_st {w : World} {g : Nat} {A : Option Addr} {c : Nat} {l : List S91} {i d e : Int} (h : St w g A c l i d e) (s : ByteArray) (hs : isP l i e s = true) :
    Calls Try.prog 121 #[.pointer (some ⟨g, 0, none⟩), .string s] w fun r w' => r = .returned (.bool true) ∧ St w' g A c l (i + 1) d e ∧ Chg g w w' := by
  have h0 := h.i0; have q := isP_le l i e s hs
  refine (take_yes h.ps h.tk.now h.i0 h.i1 h.hl s hs).mono ?_
  rintro r w' ⟨hr, hp, hc⟩
  exact ⟨hr, h.go hc hp (by omega) (by omega), hc⟩
theorem take_no_st {w : World} {g : Nat} {A : Option Addr} {c : Nat} {l : List S91} {i d e : Int} (h : St w g A c l i d e) (s : ByteArray) (hs : isP l i e s = false) :
    Calls Try.prog 121 #[.pointer (some ⟨g, 0, none⟩), .string s] w fun r w' => r = .returned (.bool false) ∧ St w' g A c l i d e ∧ Chg g w w' := by
  refine (take_no h.ps h.tk.now h.i0 s hs).mono ?_
  rintro r w' ⟨hr, hp, hc⟩
  exact ⟨hr, h.go hc hp h.i0 h.i1, hc⟩
theorem is_st {w : World} {g : Nat} {A : Option Addr} {c : Nat} {l : List S91} {i d e : Int} (h : St w g A c l i d e) (s : ByteArray) (b : Bool) (hs : isP l i e s = b) :
    Calls Try.prog 148 #[.pointer (some ⟨g, 0, none⟩), .string s] w fun r w' => r = .returned (.bool b) ∧ St w' g A c l i d e ∧ Chg g w w' := by
  refine (is_any h.ps h.tk.now h.i0 s).mono ?_
  rintro r w' ⟨hr, hb⟩
  exact ⟨by rw [hr, hs], h.below hb, Chg.below h.lt hb⟩
def muI (l : List S91) (i e : Int) (s : ByteArray) : Int := if isP l i e s = true then i + 1 else i
def muE (l : List S91) (i e : Int) (s : ByteArray) : Int := if isP l i e s = true then e else flE e 1
theorem must_st {w : World} {g : Nat} {A : Option Addr} {c : Nat} {l : List S91} {i d e : Int} (h : St w g A c l i d e) (s : ByteArray) :
    Calls Try.prog 160 #[.pointer (some ⟨g, 0, none⟩), .string s] w fun r w' => r = .returned (.tuple #[]) ∧ St w' g A c l (muI l i e s) d (muE l i e s) ∧ Chg g w w' := by
  have h0 := h.i0; have h1 := h.i1
  unfold muI muE
  cases hs : isP l i e s with
  | true =>
    rw [if_pos rfl, if_pos rfl]
    have q := isP_le l i e s hs
    refine (must_yes h.ps h.tk.now h.i0 h.i1 h.hl s hs).mono ?_
    rintro r w' ⟨hr, hp, hc⟩
    exact ⟨hr, h.go hc hp (by omega) (by omega), hc⟩
  | false =>
    rw [if_neg (by decide), if_neg (by decide)]
    refine (must_no h.ps h.tk.now h.i0 s hs).mono ?_
    rintro r w' ⟨hr, hp, hc⟩
    exact ⟨hr, h.go hc hp h0 h1, hc⟩
theorem tok_st {w : World} {g : Nat} {A : Option Addr} {c : Nat} {l : List S91} {i d e : Int} (h : St w g A c l i d e) (t : S91) (ht : tokP l i e = t) :
    Calls Try.prog 81 #[.pointer (some ⟨g, 0, none⟩)] w fun r w' => r = .returned (.agg #[.int .i64 t.f0, .string t.f1, .int .i64 t.f2, .int .i64 t.f3]) ∧ St w' g A c l i d e ∧ Below w.heap.size w w' :=
  (tok_agg h.ps h.tk.now h.i0 t ht).mono fun r w' ⟨hr, hb⟩ => ⟨hr, h.below hb, hb⟩
theorem down_st {w : World} {g : Nat} {A : Option Addr} {c : Nat} {l : List S91} {i d e : Int} (h : St w g A c l i d e) (h0 : -1000 ≤ d) (h1 : d ≤ 1000) :
    Calls Try.prog 151 #[.pointer (some ⟨g, 0, none⟩)] w fun r w' => r = .returned (.tuple #[]) ∧ St w' g A c l i (d + 1) (dnE d e) ∧ Chg g w w' :=
  (down_any h.ps h0 h1).mono fun r w' ⟨hr, hp, hc⟩ => ⟨hr, h.go hc hp h.i0 h.i1, hc⟩
/-- A variable of one's own is told of what a call on the parser left. -/
theorem Chg.box {g gb : Nat} {w w' : World} (h : Chg g w w') {o : Obj} (hb : w.heap[gb]? = some o) (hn : gb ≠ g) : w'.heap[gb]? = some o := h.blk hb hn
theorem St.box {w w' : World} {g gb : Nat} {A : Option Addr} {c : Nat} {l : List S91} {i d e : Int} (h : St w g A c l i d e) (k : Chg gb w w') (hg : g < gb) : St w' g A c l i d e := by
  obtain ⟨wB, hc, hb, hB⟩ := h.tk
  exact ⟨k.blk h.ps (by omega), ⟨wB, hc, hb.trans (k.1.mono (by omega)), hB⟩, h.i0, h.i1, h.hl⟩
end Go.Proofs.Ytcfgjaggccnoaaa.PParseSmall
