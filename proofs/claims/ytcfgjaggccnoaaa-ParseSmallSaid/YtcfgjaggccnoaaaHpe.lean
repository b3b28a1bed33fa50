import Derived.Test.YtcfgjaggccnoaaaHpd
namespace Go.Proofs.Ytcfgjaggccnoaaa.PParseSmall
open Go.RowKit Go.Proofs.YtcfgjaggccnoaaaW.PrintWords Go.Proofs.YtcfgjaggccnoaaaW.PrintLast Go.Proofs.YtcfgjaggccnoaaaW.PrintMore
attribute [local go_sem] max2_int min2_int max_two min_two max_three min_three max_four min_four
set_option linter.unusedVariables false
set_option linter.unusedSimpArgs false
set_option maxRecDepth 100000
set_option maxHeartbeats 4000000
/-! trees: their values, and the blocks that they lie in -/
def exV (x : S27) (A : Option Addr) (c : Nat) : Value := .agg #[.int .i64 x.f0, .string x.f1, .string x.f2, .int .i64 x.f3, .int .i64 x.f4, .int .i64 x.f5.f0, .int .i64 x.f5.f1, .string x.f5.f2, .slice A x.f6.length c]
def Tr (W : World) (ok : Nat → Prop) (x : S27) (A : Option Addr) (c : Nat) : Prop := x.f6.length ≤ c ∧ Kd.F k27 W ok A x.f6.length x.f6
section
variable {W W1 w : World} {ok ok' : Nat → Prop} {x y : S27} {A A' : Option Addr} {c c' g b e : Nat}
theorem Tr.step (h : Tr W ok x A c) (hm : ∀ k, ok k → k < W.heap.size → W1.heap[k]? = W.heap[k]?) : Tr W1 ok x A c := ⟨h.1, Kd.F_step h.2 hm⟩
theorem Tr.mono (h : Tr W ok x A c) (hm : ∀ k, k < W.heap.size → ok k → ok' k) : Tr W ok' x A c := ⟨h.1, Kd.F_mono (Kd.F_bound h.2) (fun k hk => hm k hk.2 hk.1)⟩
theorem Tr.chg (h : Tr W ok x A c) (k : Chg g W W1) (hg : ¬ ok g) : Tr W1 ok x A c := h.step fun q hq hl => k.2.2 q hl (fun e => hg (e ▸ hq)) (by simp)
theorem Tr.below (h : Tr W ok x A c) (k : Below W.heap.size W W1) : Tr W1 ok x A c := h.step fun q hq hl => k.block q hl
theorem Tr.to_FK (h : Tr W ok x A c) : Kd.FK k27 W ok x [.int .i64 x.f0, .string x.f1, .string x.f2, .int .i64 x.f3, .int .i64 x.f4, .int .i64 x.f5.f0, .int .i64 x.f5.f1, .string x.f5.f2, .slice A x.f6.length c] := k27_mkF W ok x h.1 h.2
theorem Tr.leaf (h : ∀ ok, Tr w ok x A c) : ∀ ok, Tr W ok x A c := fun ok => ⟨(h ok).1, fun W' _ => (h (fun _ => False)).2 W' (fun _ q => q.elim)⟩
theorem Tr.empty {ws : Value} (h : Kd.R k27 e w b ok' ws []) (hx : x.f6 = []) : ∃ A c, ws = .slice A x.f6.length c ∧ ∀ W ok, Tr W ok x A c := by
  obtain ⟨A, c, he, hl, hr⟩ := Kd.R_reads h
  refine ⟨A, c, by rw [hx]; exact he, fun W ok => ⟨by rw [hx]; exact Nat.zero_le _, ?_⟩⟩
  rw [hx]
  exact fun W' _ => ⟨rfl, by simp, fun q => absurd q (Nat.lt_irrefl 0)⟩
theorem reps2 (h : Tr W ok x A c) (k : Tr W ok y A' c') : Reps (Kd.FK k27 W ok) 9 [x, y] [.int .i64 x.f0, .string x.f1, .string x.f2, .int .i64 x.f3, .int .i64 x.f4, .int .i64 x.f5.f0, .int .i64 x.f5.f1, .string x.f5.f2, .slice A x.f6.length c, .int .i64 y.f0, .string y.f1, .string y.f2, .int .i64 y.f3, .int .i64 y.f4, .int .i64 y.f5.f0, .int .i64 y.f5.f1, .string y.f5.f2, .slice A' y.f6.length c'] := Reps.c9 h.to_FK (Reps.c9 k.to_FK (Reps.none _ _))
theorem reps1 (h : Tr W ok x A c) : Reps (Kd.FK k27 W ok) 9 [x] [.int .i64 x.f0, .string x.f1, .string x.f2, .int .i64 x.f3, .int .i64 x.f4, .int .i64 x.f5.f0, .int .i64 x.f5.f1, .string x.f5.f2, .slice A x.f6.length c] := Reps.c9 h.to_FK (Reps.none _ _)
end
def ofP (op : Int) (l : List S27) : S27 := ⟨op, ⟨#[]⟩, ⟨#[]⟩, 0, 0, ⟨0, 0, ⟨#[]⟩⟩, l⟩
def colP (a b : ByteArray) : S27 := ⟨15, a, b, 0, 0, ⟨0, 0, ⟨#[]⟩⟩, []⟩
def valP (a b : Int) (s : ByteArray) : S27 := ⟨16, ⟨#[]⟩, ⟨#[]⟩, 0, 0, ⟨a, b, s⟩, []⟩
theorem ofP_f (op : Int) (l : List S27) (hs : l.length ≤ 100) : tree_Of.f op l = some (op, ⟨#[]⟩, ⟨#[]⟩, 0, 0, 0, 0, ⟨#[]⟩, l) := by
  unfold tree_Of.f api_Expr.f
  rw [Option.bind_some, if_pos (by rw [List.length_nil]; omega), Option.bind_some, List.nil_append]
theorem of_any (op : Int) (l : List S27) (hs : l.length ≤ 100) {A : Option Addr} {c b : Nat} {P : Nat → Prop} {w : World} (h : Kd.V k27 27 w b P (.slice A l.length c) l) :
    Calls Try.prog 122 #[.int .i64 op, .slice A l.length c] w fun r w' => ∃ vA vc, r = .returned (exV (ofP op l) vA vc) ∧ Tr w' (fun k => P k ∨ w.heap.size ≤ k) (ofP op l) vA vc ∧ Below w.heap.size w w' := by
  refine (tree_Of.calls op P A c l _ _ _ _ _ _ _ _ _ w h (ofP_f op l hs)).mono ?_
  rintro r w' ⟨v, hr, hn, hb⟩
  obtain ⟨A1, c1, e1, l1, f1⟩ := Kd.N_V (base' := 0) hn
  subst e1
  exact ⟨A1, c1, hr, ⟨l1, f1⟩, hb⟩
theorem col_any (a b : ByteArray) (w : World) :
    Calls Try.prog 195 #[.string a, .string b] w fun r w' => ∃ vA vc, r = .returned (exV (colP a b) vA vc) ∧ (∀ W ok, Tr W ok (colP a b) vA vc) ∧ Below w.heap.size w w' := by
  refine (tree_Col.calls a b _ _ _ _ _ _ _ _ _ w (by unfold tree_Col.f; rfl)).mono ?_
  rintro r w' ⟨v, hr, hn, hb⟩
  obtain ⟨A1, c1, e1, q⟩ := Tr.empty (x := colP a b) hn rfl
  subst e1
  exact ⟨A1, c1, hr, q, hb⟩
theorem val_any (x : Int) (y : Int) (s : ByteArray) (w : World) :
    Calls Try.prog 187 #[.agg #[.int .i64 x, .int .i64 y, .string s]] w fun r w' => ∃ vA vc, r = .returned (exV (valP x y s) vA vc) ∧ (∀ W ok, Tr W ok (valP x y s) vA vc) ∧ Below w.heap.size w w' := by
  refine (tree_Val.calls x y s _ _ _ _ _ _ _ _ _ w (by unfold tree_Val.f; rfl)).mono ?_
  rintro r w' ⟨v, hr, hn, hb⟩
  obtain ⟨A1, c1, e1, q⟩ := Tr.empty (x := valP x y s) hn rfl
  subst e1
  exact ⟨A1, c1, hr, q, hb⟩
end Go.Proofs.Ytcfgjaggccnoaaa.PParseSmall
