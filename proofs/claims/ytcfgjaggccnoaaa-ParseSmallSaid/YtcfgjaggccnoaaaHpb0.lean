import Derived.Test.YtcfgjaggccnoaaaHpa
namespace Go.Proofs.Ytcfgjaggccnoaaa.PParseSmall
open Go.RowKit Go.Proofs.YtcfgjaggccnoaaaW.PrintWords Go.Proofs.YtcfgjaggccnoaaaW.PrintLast Go.Proofs.YtcfgjaggccnoaaaW.PrintMore
attribute [local go_sem] max2_int min2_int max_two min_two max_three min_three max_four min_four
set_option linter.unusedVariables false
set_option linter.unusedSimpArgs false
set_option maxRecDepth 100000
set_option maxHeartbeats 4000000
/-- The next token; the end's, behind an error. -/
def tokP (l : List S91) (i e : Int) : S91 := if e = 0 ∧ i < l.length then rd_T91 l i else ⟨0, ⟨#[]⟩, 0, 0⟩
abbrev tkV (t : S91) : Value := .agg #[.int .i64 t.f0, .string t.f1, .int .i64 t.f2, .int .i64 t.f3]
theorem belw_ {w W : World} (h : Below w.heap.size w W := by repeat (first | (with_reducible exact Below.refl _ _) | refine below_set ?_ (Nat.le_refl _) | refine below_set ?_ (by assumption) | apply pw_below_drewN | refine Below.drew ?_ | refine below_alloc ?_ _)) : Below w.heap.size w W := h
theorem put4_ {W : World} {gb t : Nat} {c0 c1 c2 c3 v0 v1 v2 v3 : Value} (hb : W.heap[gb]? = some (.cells #[c0, c1, c2, c3] t (0, 0))) : ((((W.setCell ⟨gb, 0, none⟩ v0).setCell ⟨gb, 1, none⟩ v1).setCell ⟨gb, 2, none⟩ v2).setCell ⟨gb, 3, none⟩ v3).heap[gb]? = some (.cells #[v0, v1, v2, v3] t (0, 0)) := by
  replace hb := blk_put (cs := #[c0, c1, c2, c3]) (cs' := #[v0, c1, c2, c3]) hb 0 v0 rfl
  replace hb := blk_put (cs := #[v0, c1, c2, c3]) (cs' := #[v0, v1, c2, c3]) hb 1 v1 rfl
  replace hb := blk_put (cs := #[v0, v1, c2, c3]) (cs' := #[v0, v1, v2, c3]) hb 2 v2 rfl
  replace hb := blk_put (cs := #[v0, v1, v2, c3]) (cs' := #[v0, v1, v2, v3]) hb 3 v3 rfl
  exact hb
theorem put9_ {W : World} {gb t : Nat} {c0 c1 c2 c3 c4 c5 c6 c7 c8 v0 v1 v2 v3 v4 v5 v6 v7 v8 : Value} (hb : W.heap[gb]? = some (.cells #[c0, c1, c2, c3, c4, c5, c6, c7, c8] t (0, 0))) : (((((((((W.setCell ⟨gb, 0, none⟩ v0).setCell ⟨gb, 1, none⟩ v1).setCell ⟨gb, 2, none⟩ v2).setCell ⟨gb, 3, none⟩ v3).setCell ⟨gb, 4, none⟩ v4).setCell ⟨gb, 5, none⟩ v5).setCell ⟨gb, 6, none⟩ v6).setCell ⟨gb, 7, none⟩ v7).setCell ⟨gb, 8, none⟩ v8).heap[gb]? = some (.cells #[v0, v1, v2, v3, v4, v5, v6, v7, v8] t (0, 0)) := by
  replace hb := blk_put (cs := #[c0, c1, c2, c3, c4, c5, c6, c7, c8]) (cs' := #[v0, c1, c2, c3, c4, c5, c6, c7, c8]) hb 0 v0 rfl
  replace hb := blk_put (cs := #[v0, c1, c2, c3, c4, c5, c6, c7, c8]) (cs' := #[v0, v1, c2, c3, c4, c5, c6, c7, c8]) hb 1 v1 rfl
  replace hb := blk_put (cs := #[v0, v1, c2, c3, c4, c5, c6, c7, c8]) (cs' := #[v0, v1, v2, c3, c4, c5, c6, c7, c8]) hb 2 v2 rfl
  replace hb := blk_put (cs := #[v0, v1, v2, c3, c4, c5, c6, c7, c8]) (cs' := #[v0, v1, v2, v3, c4, c5, c6, c7, c8]) hb 3 v3 rfl
  replace hb := blk_put (cs := #[v0, v1, v2, v3, c4, c5, c6, c7, c8]) (cs' := #[v0, v1, v2, v3, v4, c5, c6, c7, c8]) hb 4 v4 rfl
  replace hb := blk_put (cs := #[v0, v1, v2, v3, v4, c5, c6, c7, c8]) (cs' := #[v0, v1, v2, v3, v4, v5, c6, c7, c8]) hb 5 v5 rfl
  replace hb := blk_put (cs := #[v0, v1, v2, v3, v4, v5, c6, c7, c8]) (cs' := #[v0, v1, v2, v3, v4, v5, v6, c7, c8]) hb 6 v6 rfl
  replace hb := blk_put (cs := #[v0, v1, v2, v3, v4, v5, v6, c7, c8]) (cs' := #[v0, v1, v2, v3, v4, v5, v6, v7, c8]) hb 7 v7 rfl
  replace hb := blk_put (cs := #[v0, v1, v2, v3, v4, v5, v6, v7, c8]) (cs' := #[v0, v1, v2, v3, v4, v5, v6, v7, v8]) hb 8 v8 rfl
  exact hb
section
variable {P : Program} {ops : Array Oper} {Q : Exit → Act → World → Prop} {o : Oper} {rest : List Oper} {a : Act}
theorem sto91 {W : World} {gb t : Nat} {c0 c1 c2 c3 v0 v1 v2 v3 : Value} (hb : W.heap[gb]? = some (.cells #[c0, c1, c2, c3] t (0, 0))) (hgd : o.guard = none) {T : TypeId} {p : Tmp} {v : Operand} (ho : o.op = .store T (.tmp p) v) (hN : o.dst = none)
    (hrun : (execOp a.eval o).run P W = .ok .skip ((((W.setCell ⟨gb, 0, none⟩ v0).setCell ⟨gb, 1, none⟩ v1).setCell ⟨gb, 2, none⟩ v2).setCell ⟨gb, 3, none⟩ v3))
    (h : ∀ w', w'.heap[gb]? = some (.cells #[v0, v1, v2, v3] t (0, 0)) → Chg gb W w' → wpList P ops Q rest a w') : wpList P ops Q (o :: rest) a W :=
  store_event hgd ho hN hrun fun w' e => h w' (by rw [e]; exact put4_ hb) (by rw [e]; exact (((((Chg.refl gb W).set 0 v0).set 1 v1).set 2 v2).set 3 v3))
theorem sto27 {W : World} {gb t : Nat} {c0 c1 c2 c3 c4 c5 c6 c7 c8 v0 v1 v2 v3 v4 v5 v6 v7 v8 : Value} (hb : W.heap[gb]? = some (.cells #[c0, c1, c2, c3, c4, c5, c6, c7, c8] t (0, 0))) (hgd : o.guard = none) {T : TypeId} {p : Tmp} {v : Operand} (ho : o.op = .store T (.tmp p) v) (hN : o.dst = none)
    (hrun : (execOp a.eval o).run P W = .ok .skip (((((((((W.setCell ⟨gb, 0, none⟩ v0).setCell ⟨gb, 1, none⟩ v1).setCell ⟨gb, 2, none⟩ v2).setCell ⟨gb, 3, none⟩ v3).setCell ⟨gb, 4, none⟩ v4).setCell ⟨gb, 5, none⟩ v5).setCell ⟨gb, 6, none⟩ v6).setCell ⟨gb, 7, none⟩ v7).setCell ⟨gb, 8, none⟩ v8))
    (h : ∀ w', w'.heap[gb]? = some (.cells #[v0, v1, v2, v3, v4, v5, v6, v7, v8] t (0, 0)) → Chg gb W w' → wpList P ops Q rest a w') : wpList P ops Q (o :: rest) a W :=
  store_event hgd ho hN hrun fun w' e => h w' (by rw [e]; exact put9_ hb) (by rw [e]; exact ((((((((((Chg.refl gb W).set 0 v0).set 1 v1).set 2 v2).set 3 v3).set 4 v4).set 5 v5).set 6 v6).set 7 v7).set 8 v8))
end
theorem Kd.C_old {α : Type} {d : Kd α} {w W : World} {A : Option Addr} {n : Nat} {xs : List α} (h : Kd.C d w A n xs) (hb : Below w.heap.size w W) : Kd.C d W A n xs := Kd.C_below h hb
end Go.Proofs.Ytcfgjaggccnoaaa.PParseSmall
