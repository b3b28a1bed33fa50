import Derived.Test.YtcfgjaggccnoaaaHpi
import Derived.Defers
import Derived.Deep.LoopGhost
namespace Go.Proofs.Ytcfgjaggccnoaaa.PParseSmall
open Go.RowKit Go.Proofs.YtcfgjaggccnoaaaW.PrintWords Go.Proofs.YtcfgjaggccnoaaaW.PrintLast Go.Proofs.YtcfgjaggccnoaaaW.PrintMore
attribute [local go_sem] max2_int min2_int max_two min_two max_three min_three max_four min_four
set_option linter.unusedVariables false
set_option linter.unusedSimpArgs false
set_option maxRecDepth 100000
set_option maxHeartbeats 4000000
/-! chain: what its loop keeps -/
theorem opP_f (s : ByteArray) : parse_opOf.f s = some (opP s) := by
  unfold opP parse_opOf.f
  repeat' split
  all_goals rfl
/-- The string a word's row holds. -/
def Sg (w : World) (g b0 : Nat) (S : Option Addr) (ss : List ByteArray) : Prop := Kd.F Kd.string w (fun k => k ≠ g ∧ k < b0) S ss.length ss
theorem Sg.chg {w w' : World} {g b0 : Nat} {S : Option Addr} {ss : List ByteArray} (h : Sg w g b0 S ss) (k : Chg g w w') : Sg w' g b0 S ss := Kd.F_step h fun q hq hl => k.2.2 q hl hq.1 (by simp)
theorem Sg.box {w w' : World} {g gb b0 : Nat} {S : Option Addr} {ss : List ByteArray} (h : Sg w g b0 S ss) (k : Chg gb w w') (hb : b0 ≤ gb) : Sg w' g b0 S ss := Kd.F_step h fun q hq hl => k.2.2 q hl (by have := hq.2; omega) (by simp)
theorem Sg.cell {w : World} {g b0 : Nat} {S : Option Addr} {ss : List ByteArray} (h : Sg w g b0 S ss) (i : Int) (h0 : 0 ≤ i) (h1 : i < ss.length) : ∃ ad, S = some ad ∧ w.cell? (ad.add i.toNat) = some (.string (rdOf ByteArray.empty ss i)) := Kd.at_string (Kd.F_now h) i h0 h1
abbrev cl27 (x : S27) (vA : Option Addr) (vc : Nat) : Array Value := #[.int .i64 x.f0, .string x.f1, .string x.f2, .int .i64 x.f3, .int .i64 x.f4, .int .i64 x.f5.f0, .int .i64 x.f5.f1, .string x.f5.f2, .slice vA x.f6.length vc]
structure CS (w0 : World) (g g6 g7 : Nat) (A : Option Addr) (c : Nat) (l : List S91) (S : Option Addr) (ss : List ByteArray) (w : World) (i d e : Int) (x : S27) (vA : Option Addr) (vc : Nat) : Prop where
  st : St w g A c l i d e
  ch : Chg g w0 w
  b6 : w.heap[g6]? = some (.cells #[.int .i64 0, .string ⟨#[]⟩, .string ⟨#[]⟩, .int .i64 0, .int .i64 0, .int .i64 0, .int .i64 0, .string ⟨#[]⟩, .slice none 0 0] 27 (0, 0))
  b7 : w.heap[g7]? = some (.cells (cl27 x vA vc) 27 (0, 0))
  tr : Tr w (fun k => w0.heap.size ≤ k ∧ k ≠ g6 ∧ k ≠ g7) x vA vc
  sg : Sg w g w0.heap.size S ss
  hg : g < w0.heap.size
  h6 : w0.heap.size ≤ g6
  h67 : g6 < g7
section
variable {w0 w w' : World} {g g6 g7 c vc : Nat} {A S vA : Option Addr} {l : List S91} {ss : List ByteArray} {i d e i' d' e' : Int} {x : S27}
theorem CS.chg (h : CS w0 g g6 g7 A c l S ss w i d e x vA vc) (k : Chg g w w') (st : St w' g A c l i' d' e') : CS w0 g g6 g7 A c l S ss w' i' d' e' x vA vc :=
  have hg := h.hg; have h6 := h.h6; have h67 := h.h67
  ⟨st, h.ch.trans k, k.box h.b6 (by omega), k.box h.b7 (by omega), h.tr.chg k (by omega), h.sg.chg k, hg, h6, h67⟩
theorem CS.below (h : CS w0 g g6 g7 A c l S ss w i d e x vA vc) (k : Below w.heap.size w w') : CS w0 g g6 g7 A c l S ss w' i d e x vA vc := h.chg (Chg.below h.st.lt k) (h.st.below k)
theorem CS.put (h : CS w0 g g6 g7 A c l S ss w i d e x vA vc) {x' : S27} {vA' : Option Addr} {vc' : Nat} (k : Chg g7 w w') (hb : w'.heap[g7]? = some (.cells (cl27 x' vA' vc') 27 (0, 0))) (ht : Tr w (fun k => w0.heap.size ≤ k ∧ k ≠ g6 ∧ k ≠ g7) x' vA' vc') : CS w0 g g6 g7 A c l S ss w' i d e x' vA' vc' :=
  have hg := h.hg; have h6 := h.h6; have h67 := h.h67
  ⟨h.st.box k (by omega), h.ch.own k (by omega) (by omega), k.box h.b6 (by omega), hb, ht.chg k (by omega), h.sg.box k (by omega), hg, h6, h67⟩
theorem CS.done (h : CS w0 g g6 g7 A c l S ss w i d e x vA vc) {v0 v1 v2 v3 v4 v5 v6 v7 v8 : Value} : Done w0 g A c l ⟨i, d, e, x⟩ (.returned (exV x vA vc)) (((((((((w.setCell ⟨g6, 0, none⟩ v0).setCell ⟨g6, 1, none⟩ v1).setCell ⟨g6, 2, none⟩ v2).setCell ⟨g6, 3, none⟩ v3).setCell ⟨g6, 4, none⟩ v4).setCell ⟨g6, 5, none⟩ v5).setCell ⟨g6, 6, none⟩ v6).setCell ⟨g6, 7, none⟩ v7).setCell ⟨g6, 8, none⟩ v8) :=
  have hg := h.hg; have h6 := h.h6
  ⟨vA, vc, rfl, h.st.box chg9_ (by omega), h.ch.own chg9_ h6 (by omega), (h.tr.chg chg9_ (fun q => q.2.1 rfl)).mono fun _ _ q => q.1⟩
end
section
variable {ops : Array Oper} {Q : Exit → Act → World → Prop}
theorem Gr.fn (p : Gr) : ∃ fn, Try.prog.funcs[p.num]? = some fn ∧ (fn.name == "runtime.NumGoroutine") = false ∧ fn.body.isSome = true := by
  cases p
  · exact ⟨_, Try.func41, by kernel_rfl, rfl⟩
  · exact ⟨_, Try.func80, by kernel_rfl, rfl⟩
  · exact ⟨_, Try.func124, by kernel_rfl, rfl⟩
  · exact ⟨_, Try.func150, by kernel_rfl, rfl⟩
  · exact ⟨_, Try.func159, by kernel_rfl, rfl⟩
  · exact ⟨_, Try.func167, by kernel_rfl, rfl⟩
  · exact ⟨_, Try.func179, by kernel_rfl, rfl⟩
theorem Gr.run (p : Gr) {o : Oper} {a : Act} {w : World} {q : Tmp} {v0 : Value} (hop : o.op = .call { callee := .value (.tmp q), args := #[], argTypes := #[] }) (hv : a.eval (.tmp q) = .func (.func p.num) #[v0] #[]) : (execOp a.eval o).run Try.prog w = .ok (.enter p.num #[v0]) w := by
  obtain ⟨fn, hf, hn, hb⟩ := p.fn
  have he := enters_ hf hn hb #[v0] w
  unfold execOp
  simp [hop, resolve, Deferred.ofValue, invoke, hv, he]
/-- A call of a part of the grammar that stands in a variable. -/
theorem goesP_ (p : Gr) {rest : List Oper} {oi : Oper} {a : Act} {w : World} (N : Option Tmp) (hd : oi.dst = N) (hg : oi.guard = none) {q : Tmp} (v0 : Value)
    (hop : oi.op = .call { callee := .value (.tmp q), args := #[], argTypes := #[] }) (hv : a.eval (.tmp q) = .func (.func p.num) #[v0] #[])
    (h : Calls Try.prog p.num #[v0] w fun e w' => ∃ v, e = .returned v ∧ wpList Try.prog ops Q rest (a.put N v) w') : wpList Try.prog ops Q (oi :: rest) a w := by
  refine wpList_plain hg fun K hK => ?_
  unfold Oper.wp
  rw [p.run hop hv, Oper.upon_enter]
  refine h.mono fun e w'' hh => ?_
  obtain ⟨v, rfl, hk⟩ := hh
  subst hd
  exact hK _ _ hk
theorem goesR_ (p : Gr) {oi : Oper} {a : Act} {w : World} {K : Act → World → Prop} (N : Option Tmp) {q : Tmp} (v0 : Value) (hw : Region.wanted oi (yielded ops a.tmps) = true) (hN : oi.dst = N)
    (hop : oi.op = .call { callee := .value (.tmp q), args := #[], argTypes := #[] }) (hv : a.eval (.tmp q) = .func (.func p.num) #[v0] #[])
    (h : Calls Try.prog p.num #[v0] w fun e w' => ∃ v, e = .returned v ∧ K (a.put N v) w') : if Region.wanted oi (yielded ops a.tmps) = true then Oper.wp Try.prog oi a w K Q else K (a.put N undef) w :=
  call_ p.num #[v0] hw hN (p.run hop hv) h
end
theorem rdOf_mem (ss : List ByteArray) (j : Int) (h0 : 0 ≤ j) (h1 : j < ss.length) : rdOf ByteArray.empty ss j ∈ ss := by
  unfold rdOf
  rw [List.getD_eq_getElem?_getD, List.getElem?_eq_getElem (by omega)]
  exact List.getElem_mem _
theorem find_at {f : ByteArray → Bool} {ss : List ByteArray} {s : ByteArray} (h : ss.find? f = some s) : f s = true ∧ ∃ m : Nat, m < ss.length ∧ rdOf ByteArray.empty ss m = s ∧ ∀ j : Int, 0 ≤ j → j < m → f (rdOf ByteArray.empty ss j) = false := by
  obtain ⟨h1, m, hm, rfl, hb⟩ := List.find?_eq_some_iff_getElem.1 h
  refine ⟨h1, m, hm, ?_, ?_⟩
  · unfold rdOf
    rw [List.getD_eq_getElem?_getD, List.getElem?_eq_getElem (by omega)]
    rfl
  · intro j h0 hj
    unfold rdOf
    rw [List.getD_eq_getElem?_getD, List.getElem?_eq_getElem (by omega)]
    simpa using hb j.toNat (by omega)
theorem w64 (n : Int) (h : -9223372036854775808 ≤ n ∧ n ≤ 9223372036854775807) : wrap64 n = n := by unfold wrap64; omega
theorem txt_ne {s : ByteArray} (h : s ≠ ⟨#[]⟩) : (s.toList == ([] : List UInt8)) = false := by
  refine beq_eq_false_iff_ne.2 fun q => h ?_
  rw [ByteArray.toList_eq] at q
  obtain ⟨⟨x⟩⟩ := s
  simp only at q
  rw [q]
theorem lit2s {P : Program} {ops : Array Oper} {Q : Exit → Act → World → Prop} {o : Oper} {a : Act} {Kc : Act → World → Prop} {W : World} {x y : S27} {A B : Option Addr} {c b : Nat} {ok : Nat → Prop} {N' : Tmp} (hw : Region.wanted o (yielded ops a.tmps) = true) (hd : o.dst = some N') (hx : Tr W ok x A c) (hy : Tr W ok y B b) (hf : ok W.heap.size)
    (hrun : (execOp a.eval o).run P W = .ok (.value (.slice (some ⟨W.heap.size, 0, none⟩) 2 2)) (W.alloc (.cells #[.int .i64 x.f0, .string x.f1, .string x.f2, .int .i64 x.f3, .int .i64 x.f4, .int .i64 x.f5.f0, .int .i64 x.f5.f1, .string x.f5.f2, .slice A x.f6.length c, .int .i64 y.f0, .string y.f1, .string y.f2, .int .i64 y.f3, .int .i64 y.f4, .int .i64 y.f5.f0, .int .i64 y.f5.f1, .string y.f5.f2, .slice B y.f6.length b] 27)))
    (h : ∀ A1 c1 w1, Kd.V k27 27 w1 0 ok (.slice A1 2 c1) [x, y] → Below W.heap.size W w1 → Kc (a.put (some N') (.slice A1 2 c1)) w1) : if Region.wanted o (yielded ops a.tmps) = true then Oper.wp P o a W Kc Q else Kc (a.put (some N') undef) W := by
  rw [← hd]
  refine Kd.N_lit_step k27 W.heap.size 27 hw hd (xs := [x, y]) (ok := ok) (okp := ok) hrun (reps2 hx hy) (fun _ q => q) hf (Below.refl _ _) (Nat.le_refl _) (by simp) ?_
  intro v1 w1 hn hb _ _
  obtain ⟨A1, c1, rfl, hl, hF⟩ := Kd.N_V (base' := 0) hn
  rw [hd]
  exact h A1 c1 w1 ⟨A1, c1, rfl, hl, hF⟩ hb
section
variable {w0 w w' : World} {g g6 g7 c vc : Nat} {A S vA : Option Addr} {l : List S91} {ss : List ByteArray} {i d e : Int} {x : S27}
theorem CS.fresh (h : CS w0 g g6 g7 A c l S ss w i d e x vA vc) : w0.heap.size ≤ w.heap.size ∧ w.heap.size ≠ g6 ∧ w.heap.size ≠ g7 :=
  have h1 := blk_lt h.b6; have h2 := blk_lt h.b7
  ⟨h.ch.size, by omega, by omega⟩
theorem Tr.aft (h : CS w0 g g6 g7 A c l S ss w i d e x vA vc) {W : World} {y : S27} {B : Option Addr} {b : Nat} (t : Tr W (fun k => w.heap.size ≤ k) y B b) : Tr W (fun k => w0.heap.size ≤ k ∧ k ≠ g6 ∧ k ≠ g7) y B b :=
  t.mono fun k _ hk => by
    have h1 := blk_lt h.b6; have h2 := blk_lt h.b7; have h3 := h.ch.size
    exact ⟨by omega, by omega, by omega⟩
theorem Tr.new (h : CS w0 g g6 g7 A c l S ss w i d e x vA vc) {W : World} {y : S27} {B : Option Addr} {b : Nat} (t : Tr W (fun k => (w0.heap.size ≤ k ∧ k ≠ g6 ∧ k ≠ g7) ∨ w.heap.size ≤ k) y B b) : Tr W (fun k => w0.heap.size ≤ k ∧ k ≠ g6 ∧ k ≠ g7) y B b :=
  t.mono fun k _ hk => by
    have h1 := blk_lt h.b6; have h2 := blk_lt h.b7; have h3 := h.ch.size
    rcases hk with hk | hk
    · exact hk
    · exact ⟨by omega, by omega, by omega⟩
end
end Go.Proofs.Ytcfgjaggccnoaaa.PParseSmall
