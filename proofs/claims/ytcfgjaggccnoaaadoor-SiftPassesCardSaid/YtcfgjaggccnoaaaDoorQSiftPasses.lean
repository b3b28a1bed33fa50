import Derived.Test.YtcfgjaggccnoaaaDoorProg
import Derived.Below
import Derived.Deep.Draws
import Derived.Deep.AppendLies
import Derived.Maps.AppendAt
import Derived.OwnWalk
import Derived.Laws.BytesArg
import Derived.Laws.MakeOwn
import Derived.Laws.OwnMore
import Derived.Deep.OwnRows
import Derived.Tactics
import Derived.Lib.ConvBytes
import Derived.Laws.Slices
import Derived.WalkKit
import Derived.KernelRfl
import Derived.RowKit3
import Derived.Deep.LoopGhost
import Derived.Deep.QuietTactic
import Derived.BigQuiet
import Derived.WideLaws
import Derived.Deep.DeepCutAuto
import Derived.Deep.CutBlock
import Derived.Deep.RegionHeld3
import Derived.Laws.Rows
import Derived.Lib.AppendStr
import Derived.ArgAppend
import Derived.Laws.IdiomCopy
import Derived.OrdersHeld
import Derived.Laws.BitsLemmas
import Derived.RowKit
import Derived.Lib.BitFns
import Derived.Lib.ItoaMem
import Derived.Lib.LaidTab
import Derived.Lib.Slices
import Derived.Lib.Small
import Derived.Lib.SmallJoins
import Derived.Lib.Strings
import Derived.Lib.Walk
import Derived.Test.YtcfgjaggccnoaaaDoorShelf
import Derived.Laws.Cover1
import Derived.Lib.SliceRun
import Derived.Test.YtcfgjaggccnoaaaDoorUSiftPasses0
namespace Go.Proofs.YtcfgjaggccnoaaaDoor.PSiftPasses
open Go.RowKit Go.Proofs.YtcfgjaggccnoaaaDoorW.PrintWords Go.Proofs.YtcfgjaggccnoaaaDoorW.PrintLast Go.Proofs.YtcfgjaggccnoaaaDoorW.PrintMore
set_option linter.unusedVariables false
/-- The second world is the first, with objects made and orders drawn. -/
inductive XQ : World → World → Prop
  | refl (W : World) : XQ W W
  | alloc {W W' : World} (h : XQ W W') (o : Obj) : XQ W (W'.alloc o)
  | drewN {W W' : World} (h : XQ W W') (n : Nat) : XQ W (W'.drewN n)
  | drew {W W' : World} (h : XQ W W') : XQ W W'.drew
theorem am_ {p : Prop} (h : p) : Aside0 p := ⟨h⟩
theorem bl_ {n : Nat} {w W : World} (h : Below n w W := by repeat (first | (with_reducible first | exact HB.out | apply below_alloc | apply pw_below_drewN | apply below_drew1 | refine below_set ?_ (Aside0.out (by assumption))) | exact HB.out)) : Below n w W := h
theorem bk_ {W W' : World} {g : Nat} {o : Obj} (h : W.heap[g]? = some o) (q : XQ W W' := by repeat (first | (with_reducible first | exact XQ.refl _ | apply XQ.alloc | apply XQ.drewN | apply XQ.drew) | exact XQ.refl _)) : W'.heap[g]? = some o := by
  induction q with
  | refl => exact h
  | alloc _ o' ih => exact blk_alloc ih o'
  | drewN _ n ih => exact blk_drewN ih n
  | drew _ ih => exact blk_drew ih
theorem bp_ {W W' : World} {g : Nat} {o : Obj} (h : W.heap[g]? = some o) (q : XQ W W' := by repeat (first | (with_reducible first | apply XQ.alloc | apply XQ.drewN | apply XQ.drew | exact XQ.refl _) | exact XQ.refl _)) : W'.heap[g]? = some o := bk_ h q
theorem kr_ {α : Type} {d : Kd α} {e base : Nat} {ok : Nat → Prop} {W W' : World} {v : Value} {xs : List α} (h : Kd.R d e W base ok v xs) (q : XQ W W' := by repeat (first | (with_reducible first | exact XQ.refl _ | apply XQ.alloc | apply XQ.drewN | apply XQ.drew) | exact XQ.refl _)) : Kd.R d e W' base ok v xs := by
  induction q with
  | refl => exact h
  | alloc _ o' ih => exact Kd.R_alloc ih o'
  | drewN _ n ih => exact Kd.R_drewN ih n
  | drew _ ih => exact Kd.R_drew ih
theorem kv_ {α : Type} {d : Kd α} {e base : Nat} {ok : Nat → Prop} {W W' : World} {v : Value} {xs : List α} (h : Kd.V d e W base ok v xs) (q : XQ W W' := by repeat (first | (with_reducible first | exact XQ.refl _ | apply XQ.alloc | apply XQ.drewN | apply XQ.drew) | exact XQ.refl _)) : Kd.V d e W' base ok v xs := by
  induction q with
  | refl => exact h
  | alloc _ o' ih => exact Kd.V_alloc ih o'
  | drewN _ n ih => exact Kd.V_drewN ih n
  | drew _ ih => exact Kd.V_drew ih
theorem kn_ {α : Type} {d : Kd α} {e base : Nat} {ok : Nat → Prop} {W W' : World} {v : Value} {xs : List α} (h : Kd.N d e W base ok v xs) (q : XQ W W' := by repeat (first | (with_reducible first | exact XQ.refl _ | apply XQ.alloc | apply XQ.drewN | apply XQ.drew) | exact XQ.refl _)) : Kd.N d e W' base ok v xs := by
  induction q with
  | refl => exact h
  | alloc _ o' ih => exact Kd.N_alloc ih o'
  | drewN _ n ih => exact Kd.N_drewN ih n
  | drew _ ih => exact Kd.N_drew ih
theorem ew_ {p : Prop} (h : p := by first | rfl | (simp [errW_none, errW_some] <;> rfl) | (simp [*, errW_none, errW_some] <;> rfl)) : p := h
theorem as_ {p : Prop} (h : p := by first | (with_reducible assumption) | assumption) : p := h
theorem rs_ {p : Prop} (h : p := by first | rfl | (simp; done) | (simp [*]; done)) : p := h
end Go.Proofs.YtcfgjaggccnoaaaDoor.PSiftPasses
