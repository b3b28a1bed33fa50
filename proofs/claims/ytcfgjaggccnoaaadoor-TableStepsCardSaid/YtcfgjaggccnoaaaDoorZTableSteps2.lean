-- Written by wip/pack.py, a program of mine: the texts that this law stands on, as far as it uses them; Lean checks it.
import Derived.Test.YtcfgjaggccnoaaaDoorProg
import Derived.Shelf.LaysM
import Derived.Shelf.Strconv.Itoa3
import Derived.Below
import Derived.Deep.Draws
import Derived.Deep.AppendLies
import Derived.Maps.AppendAt
import Derived.OwnWalk
import Derived.Laws.BytesArg
import Derived.Laws.MakeOwn
import Derived.Laws.OwnMore
import Derived.Deep.OwnRows
import Derived.Tactics
import Derived.Lib.ConvBytes
import Derived.Laws.Slices
import Derived.WalkKit
import Derived.KernelRfl
import Derived.RowKit3
import Derived.Deep.LoopGhost
import Derived.Deep.QuietTactic
import Derived.BigQuiet
import Derived.WideLaws
import Derived.Deep.DeepCutAuto
import Derived.Deep.CutBlock
import Derived.Deep.RegionHeld3
import Derived.Laws.Rows
import Derived.Lib.AppendStr
import Derived.ArgAppend
import Derived.Laws.IdiomCopy
import Derived.RowKit
import Derived.OrdersHeld
import Derived.Laws.BitsLemmas
import Derived.Laws.StructEq
import Derived.Lib.BitFns
import Derived.Lib.ItoaMem
import Derived.Lib.LaidTab
import Derived.Lib.Slices
import Derived.Lib.Small
import Derived.Lib.SmallJoins
import Derived.Lib.Strings
import Derived.Lib.Walk
import Derived.Laws.Cover1
import Derived.Lib.SliceRun
import Derived.StillTailTactics
import Derived.Test.YtcfgjaggccnoaaaDoorZTableSteps1
namespace Go.Proofs.YtcfgjaggccnoaaaDoor.PTableSteps
open Go.RowKit Go.Proofs.YtcfgjaggccnoaaaDoorW.PrintWords Go.Proofs.YtcfgjaggccnoaaaDoorW.PrintLast Go.Proofs.YtcfgjaggccnoaaaDoorW.PrintMore
attribute [local go_sem] max2_int min2_int max_two min_two max_three min_three max_four min_four
set_option linter.unusedVariables false
set_option linter.unusedSimpArgs false
set_option maxRecDepth 100000
set_option maxHeartbeats 4000000
structure Tb where
  seed : Int
  n : Nat
  ch : Nat → List S116
  sl : Bool
def Tb.push (T : Tb) (j : Nat) (p : S116) : Tb := { T with ch := fun i => if i = j then T.ch j ++ [p] else T.ch i }
def upv (v : Nat → Value) (j : Nat) (u : Value) : Nat → Value := fun i => if i = j then u else v i
theorem upv_at (v : Nat → Value) (j : Nat) (u : Value) : upv v j u j = u := if_pos rfl
theorem upv_ne (v : Nat → Value) {i j : Nat} (u : Value) (h : i ≠ j) : upv v j u i = v i := if_neg h
abbrev tcells (T : Tb) (gB : Nat) (v : Nat → Value) : Array Value := #[.int .i64 T.seed, .slice (some ⟨gB, 0, none⟩) T.n T.n, v T.n, .bool T.sl]
structure TB (w : World) (base : Nat) (S D : Nat → Prop) (gT : Nat) (T : Tb) (gB : Nat) (v : Nat → Value) : Prop where
  tb : w.heap[gT]? = some (.cells (tcells T gB v) 102 (0, 0))
  bb : ∃ cs : Array Value, w.heap[gB]? = some (.cells cs 100 (0, 0)) ∧ cs.size = T.n ∧ ∀ j, j < T.n → cs[j]? = some (v j)
  n1 : 1 ≤ T.n
  n2 : T.n ≤ 4096
  sT : S gT
  sB : S gB
  sD : ∀ k, S k → D k
  dl : ∀ k, D k → base ≤ k ∧ k < w.heap.size
  ch : ∀ j, j ≤ T.n → Kd.N k116 116 w base (fun k => D k ∧ (S k → some k = (v j).ownBlock)) (v j) (T.ch j)
  ow : ∀ j, j ≤ T.n → ∀ k, (v j).ownBlock = some k → S k
  ne : ∀ i j, i ≤ T.n → j ≤ T.n → i ≠ j → ∀ k, (v i).ownBlock = some k → (v j).ownBlock ≠ some k
def Kp (S : Nat → Prop) (w w' : World) : Prop := w.heap.size ≤ w'.heap.size ∧ ∀ k, k < w.heap.size → ¬ S k → w'.heap[k]? = w.heap[k]?
theorem Kp.refl (S : Nat → Prop) (w : World) : Kp S w w := ⟨Nat.le_refl _, fun _ _ _ => rfl⟩
theorem Kp.of_below {S : Nat → Prop} {w w' : World} (h : Below w.heap.size w w') : Kp S w w' := ⟨h.size, fun k hk _ => h.block k hk⟩
theorem Kp.trans {S S' : Nat → Prop} {w w1 w2 : World} (h : Kp S w w1) (k : Kp S' w1 w2) (hs : ∀ x, S' x → S x ∨ w.heap.size ≤ x) : Kp S w w2 :=
  ⟨Nat.le_trans h.1 k.1, fun x hx hn => (k.2 x (Nat.lt_of_lt_of_le hx h.1) (fun q => (hs x q).elim hn (by omega))).trans (h.2 x hx hn)⟩
section
variable {w w1 : World} {base gT gB : Nat} {S D : Nat → Prop} {T : Tb} {v : Nat → Value}
theorem TB.step (h : TB w base S D gT T gB v) (hs : w.heap.size ≤ w1.heap.size) (hm : ∀ k, D k → w1.heap[k]? = w.heap[k]?) : TB w1 base S D gT T gB v := by
  obtain ⟨cs, hb, hz, hc⟩ := h.bb
  exact ⟨(hm gT (h.sD _ h.sT)).trans h.tb, ⟨cs, (hm gB (h.sD _ h.sB)).trans hb, hz, hc⟩, h.n1, h.n2, h.sT, h.sB, h.sD, fun k hk => ⟨(h.dl k hk).1, Nat.lt_of_lt_of_le (h.dl k hk).2 hs⟩,
    fun j hj => Kd.N_step (h.ch j hj) (fun k hk _ => hm k hk.1), h.ow, h.ne⟩
theorem TB.below (h : TB w base S D gT T gB v) (hb : Below w.heap.size w w1) : TB w1 base S D gT T gB v := h.step hb.size fun k hk => hb.block k (h.dl k hk).2
theorem TB.kp {S' : Nat → Prop} (h : TB w base S D gT T gB v) (hk : Kp S' w w1) (hd : ∀ k, D k → ¬ S' k) : TB w1 base S D gT T gB v := h.step hk.1 fun k hD => hk.2 k (h.dl k hD).2 (hd k hD)
theorem TB.lt (h : TB w base S D gT T gB v) : gT < w.heap.size := (h.dl _ (h.sD _ h.sT)).2
theorem TB.slt (h : TB w base S D gT T gB v) : TB (w.setCell ⟨gT, 3, none⟩ (.bool true)) base S D gT { T with sl := true } gB v := by
  obtain ⟨cs, hb, hz, hc⟩ := h.bb
  have hn : gB ≠ gT := fun e => by rw [e, h.tb] at hb; simp at hb
  have hf : ∀ k, k ≠ gT → (w.setCell ⟨gT, 3, none⟩ (.bool true)).heap[k]? = w.heap[k]? := fun k hk => Below.heap_setCell w ⟨gT, 3, none⟩ _ k hk
  refine ⟨blk_put h.tb 3 _ rfl, ⟨cs, (hf gB hn).trans hb, hz, hc⟩, h.n1, h.n2, h.sT, h.sB, h.sD, fun k hk => ⟨(h.dl k hk).1, by rw [World.size_setCell]; exact (h.dl k hk).2⟩, fun j hj => ?_, h.ow, h.ne⟩
  refine Kd.N_step (h.ch j hj) fun k hk _ => hf k fun e => ?_
  have h1 := Kd.N_ne (h.ch j hj) (g := gT) h.tb (by decide)
  exact h1 (by rw [← e]; exact hk.2 (e ▸ h.sT))
end
end Go.Proofs.YtcfgjaggccnoaaaDoor.PTableSteps
namespace Go.Proofs.YtcfgjaggccnoaaaDoor.PTableSteps
open Go.RowKit Go.Proofs.YtcfgjaggccnoaaaDoorW.PrintWords Go.Proofs.YtcfgjaggccnoaaaDoorW.PrintLast Go.Proofs.YtcfgjaggccnoaaaDoorW.PrintMore
attribute [local go_sem] max2_int min2_int max_two min_two max_three min_three max_four min_four
set_option linter.unusedVariables false
set_option linter.unusedSimpArgs false
set_option maxRecDepth 100000
set_option maxHeartbeats 4000000
structure Pu (w w1 : World) (base : Nat) (ok : Nat → Prop) (g o : Nat) (u u1 : Value) (xs : List S116) (p : S116) : Prop where
  nn : Kd.N k116 116 w1 base ok u1 (xs ++ [p])
  cl : ∀ cs t, w.heap[g]? = some (.cells cs t (0, 0)) → w1.heap[g]? = some (.cells (cs.setIfInBounds o u1) t (0, 0))
  kp : ∀ k, k < w.heap.size → k ≠ g → some k ≠ u.ownBlock → w1.heap[k]? = w.heap[k]?
  at_ : u1.ownBlock = u.ownBlock ∨ ∃ b, u1.ownBlock = some b ∧ w.heap.size ≤ b
  sz : w.heap.size ≤ w1.heap.size
  bl : Below base w w1
def okP (D S : Nat → Prop) (u : Value) (E : Nat → Prop) (w : World) : Nat → Prop := fun k => (D k ∧ (S k → some k = u.ownBlock)) ∨ E k ∨ w.heap.size ≤ k
theorem TB.push {w w1 : World} {base gT gB g o j : Nat} {S D E : Nat → Prop} {T : Tb} {v : Nat → Value} {u1 : Value} {p : S116} (h : TB w base S D gT T gB v) (hj : j ≤ T.n) (hgo : (g = gB ∧ o = j ∧ j < T.n) ∨ (g = gT ∧ o = 2 ∧ j = T.n))
    (hE : ∀ k, E k → base ≤ k ∧ k < w.heap.size ∧ ¬ S k) (hp : Pu w w1 base (okP D S (v j) E w) g o (v j) u1 (T.ch j) p) :
    ∃ S' D', TB w1 base S' D' gT (T.push j p) gB (upv v j u1) ∧ (∀ k, S' k → S k ∨ w.heap.size ≤ k) ∧ (∀ k, D' k → D k ∨ E k ∨ w.heap.size ≤ k) ∧ Kp S w w1 := by
  obtain ⟨cs, hb, hz, hc⟩ := h.bb
  have hlt : ∀ k, D k → k < w.heap.size := fun k hk => (h.dl k hk).2
  have hS : ∀ k, S k → k < w.heap.size := fun k hk => hlt k (h.sD k hk)
  have hTB : gT ≠ gB := fun e => by rw [← e, h.tb] at hb; simp at hb
  have hnT : ∀ i, i ≤ T.n → some gT ≠ (v i).ownBlock := fun i hi => Kd.N_ne (h.ch i hi) (g := gT) h.tb (by decide)
  have hnB : ∀ i, i ≤ T.n → some gB ≠ (v i).ownBlock := fun i hi => Kd.N_ne (h.ch i hi) (g := gB) hb (by decide)
  have hgS : S g := by exact hgo.elim (fun q => q.1 ▸ h.sB) (fun q => q.1 ▸ h.sT)
  have hgn : ∀ i, i ≤ T.n → some g ≠ (v i).ownBlock := by intro i hi; exact hgo.elim (fun q => q.1 ▸ hnB i hi) (fun q => q.1 ▸ hnT i hi)
  have hbase : base ≤ w.heap.size := by have := h.dl _ (h.sD _ h.sT); omega
  have hu1 : ∀ k, some k = u1.ownBlock → S k ∧ some k = (v j).ownBlock ∨ w.heap.size ≤ k := by
    intro k hk
    rcases hp.at_ with q | ⟨b, q, r⟩
    · exact .inl ⟨h.ow j hj k (by rw [← q, ← hk]), by rw [hk, q]⟩
    · rw [q] at hk; injection hk with hk; exact .inr (by omega)
  have hu1z : ∀ k, u1.ownBlock = some k → k < w1.heap.size := fun k hk => Kd.N_lt hp.nn k hk
  refine ⟨fun k => (S k ∧ some k ≠ (v j).ownBlock) ∨ some k = u1.ownBlock, fun k => (D k ∨ E k ∨ w.heap.size ≤ k) ∧ k < w1.heap.size, ?_, ?_, fun k hk => hk.1, ?_⟩
  · refine ⟨?_, ?_, h.n1, h.n2, .inl ⟨h.sT, hnT j hj⟩, .inl ⟨h.sB, hnB j hj⟩, ?_, ?_, ?_, ?_, ?_⟩
    · rcases hgo with ⟨e1, e2, e3⟩ | ⟨e1, e2, e3⟩
      · subst e1
        have := (hp.kp gT (hS _ h.sT) hTB (hnT j hj)).trans h.tb
        rw [this]
        have : upv v j u1 T.n = v T.n := upv_ne v u1 (by omega)
        show _ = some (Obj.cells #[.int .i64 T.seed, .slice (some ⟨g, 0, none⟩) T.n T.n, upv v j u1 T.n, .bool T.sl] 102 (0, 0))
        rw [this]
      · subst e1 e2 e3
        have := hp.cl _ _ h.tb
        rw [this]
        show _ = some (Obj.cells #[.int .i64 T.seed, .slice (some ⟨gB, 0, none⟩) T.n T.n, upv v T.n u1 T.n, .bool T.sl] 102 (0, 0))
        rw [upv_at]
        rfl
    · rcases hgo with ⟨e1, e2, e3⟩ | ⟨e1, e2, e3⟩
      · subst e1 e2
        refine ⟨_, hp.cl _ _ hb, by rw [Array.size_setIfInBounds]; exact hz, fun i hi => ?_⟩
        rw [Array.getElem?_setIfInBounds]
        by_cases q : o = i
        · subst q; rw [if_pos rfl, if_pos (by omega), upv_at]
        · rw [if_neg q, upv_ne v u1 (fun e => q e.symm)]; exact hc i hi
      · subst e1 e2 e3
        refine ⟨cs, (hp.kp gB (hS _ h.sB) (fun e => hTB e.symm) (hnB _ hj)).trans hb, hz, fun i hi => ?_⟩
        have hi' : i < T.n := hi
        rw [upv_ne v u1 (by omega)]
        exact hc i hi
    · intro k hk
      rcases hk with hk | hk
      · exact ⟨.inl (h.sD k hk.1), by have := hS k hk.1; have := hp.sz; omega⟩
      · rcases hu1 k hk with q | q
        · exact ⟨.inl (h.sD k q.1), by have := hS k q.1; have := hp.sz; omega⟩
        · exact ⟨.inr (.inr q), hu1z k hk.symm⟩
    · intro k hk
      refine ⟨?_, hk.2⟩
      rcases hk.1 with q | q | q
      · exact (h.dl k q).1
      · exact (hE k q).1
      · omega
    · intro i hi
      have hi' : i ≤ T.n := hi
      by_cases e : i = j
      · subst e
        rw [upv_at]
        show Kd.N k116 116 w1 base _ u1 (if i = i then T.ch i ++ [p] else T.ch i)
        rw [if_pos rfl]
        refine Kd.N_mono (Kd.N_bound hp.nn) fun k hk => ⟨⟨?_, hk.2⟩, fun hs => ?_⟩
        · rcases hk.1 with q | q | q
          · exact .inl q.1
          · exact .inr (.inl q)
          · exact .inr (.inr q)
        · rcases hs with hs | hs
          · rcases hk.1 with q | q | q
            · exact absurd (q.2 hs.1) hs.2
            · exact absurd hs.1 (hE k q).2.2
            · have := hS k hs.1; omega
          · exact hs
      · rw [upv_ne v u1 e]
        show Kd.N k116 116 w1 base _ (v i) (if i = j then T.ch j ++ [p] else T.ch i)
        rw [if_neg e]
        have hN := Kd.N_step (w1 := w1) (Kd.N_bound (h.ch i hi')) fun k hk hkz => hp.kp k hkz (fun q => hgn i hi' (by rw [← q]; exact hk.1.2 (q ▸ hgS))) (fun q => by
          have h1 := hk.1.2 (h.ow j hj k q.symm)
          exact h.ne i j hi' hj e k h1.symm q.symm)
        refine Kd.N_mono hN fun k hk => ⟨⟨.inl hk.1.1, by have := hk.2; have := hp.sz; omega⟩, fun hs => ?_⟩
        rcases hs with hs | hs
        · exact hk.1.2 hs.1
        · rcases hu1 k hs with q | q
          · have h1 := hk.1.2 q.1
            exact absurd q.2.symm (h.ne i j hi' hj e k h1.symm)
          · have := hk.2; omega
    · intro i hi k hk
      have hi' : i ≤ T.n := hi
      by_cases e : i = j
      · subst e; rw [upv_at] at hk; exact .inr hk.symm
      · rw [upv_ne v u1 e] at hk
        exact .inl ⟨h.ow i hi' k hk, fun q => h.ne i j hi' hj e k hk q.symm⟩
    · intro a b ha hb' hab k hk
      have ha' : a ≤ T.n := ha
      have hb2 : b ≤ T.n := hb'
      by_cases e : a = j
      · subst e
        rw [upv_at] at hk
        rw [upv_ne v u1 (fun q => hab q.symm)]
        intro q
        rcases hu1 k hk.symm with r | r
        · exact h.ne a b hj hb2 hab k r.2.symm q
        · have := hS k (h.ow b hb2 k q); omega
      · rw [upv_ne v u1 e] at hk
        by_cases e' : b = j
        · subst e'
          rw [upv_at]
          intro q
          rcases hu1 k q.symm with r | r
          · exact h.ne a b ha' hj hab k hk r.2.symm
          · have := hS k (h.ow a ha' k hk); omega
        · rw [upv_ne v u1 e']
          exact h.ne a b ha' hb2 hab k hk
  · intro k hk
    rcases hk with hk | hk
    · exact .inl hk.1
    · rcases hu1 k hk with q | q
      · exact .inl q.1
      · exact .inr q
  · exact ⟨hp.sz, fun k hk hn => hp.kp k hk (fun e => hn (e ▸ hgS)) (fun e => hn (h.ow j hj k e.symm))⟩
end Go.Proofs.YtcfgjaggccnoaaaDoor.PTableSteps
namespace Go.Proofs.YtcfgjaggccnoaaaDoor.PTableSteps
open Go.RowKit Go.Proofs.YtcfgjaggccnoaaaDoorW.PrintWords Go.Proofs.YtcfgjaggccnoaaaDoorW.PrintLast Go.Proofs.YtcfgjaggccnoaaaDoorW.PrintMore
attribute [local go_sem] max2_int min2_int max_two min_two max_three min_three max_four min_four
set_option linter.unusedVariables false
set_option linter.unusedSimpArgs false
set_option maxRecDepth 100000
set_option maxHeartbeats 4000000
theorem info116 : (Tryd.prog.info? 116).map (fun i => (i.zero, i.size, i.bytes)) = some (some (.agg #[.slice none 0 0, .slice none 0 0]), 2, 48) := by kernel_rfl
section
variable {P : Program} {ops : Array Oper} {Q : Exit → Act → World → Prop} {S : World → Prop} {ds : List Nat}
theorem startW_ {id n : Nat} {a : Act} {w : World} (X : World → Prop) (l : Array Bool) (hm : P.follows .mixedOrders = true) (hn : ops.size = n) (hl : Array.replicate n false = l) (hX : X w.drew) (hS : ∀ w', X w' → S w') (h : ∀ w', X w' → S w' → wpAnyLast P .any ops Q S ds n l a w') : (Code.region id ops true).wp P Q a w :=
  start_ l hm hn hl (hS _ hX) fun hs => h _ hX hs
end
def PuD (w : World) (base : Nat) (ok : Nat → Prop) (g o : Nat) (u : Value) (xs : List S116) (p : S116) (r : Ending) (w' : World) : Prop := r = .returned (.tuple #[]) ∧ ∃ u1, Pu w w' base ok g o u u1 xs p
theorem push_any {w : World} {base g o t : Nat} {ok E : Nat → Prop} {cs : Array Value} {u : Value} {xs : List S116} {p : S116} {A0 A1 : Option Addr} {c0 c1 : Nat} (hg : w.heap[g]? = some (.cells cs t (0, 0))) (ht : 116 ≠ t) (hv : cs[o]? = some u) (hO : Kd.N k116 116 w base ok u xs) (hf : ∀ k, w.heap.size ≤ k → ok k)
    (hp : Kd.FK k116 w E p [.slice A0 p.f0.length c0, .slice A1 p.f1.length c1]) (hE : ∀ k, E k → ok k ∧ some k ≠ u.ownBlock) (hb : base ≤ w.heap.size) (hl : xs.length ≤ 1000000) (hng : ¬ ok g) (hbg : base ≤ g) :
    Calls Tryd.prog 81 #[.pointer (some ⟨g, o, none⟩), .agg #[.slice A0 p.f0.length c0, .slice A1 p.f1.length c1]] w (PuD w base ok g o u xs p) := by
  have HG := Lib.hid hg; have HV := Lib.hid hv; have HO := Lib.hid hO; have HF := Lib.hid hf; have HP := Lib.hid hp; have HE := Lib.hid hE; have HB := Lib.hid hb; have HL := Lib.hid hl; have HT := Lib.hid ht; have NG := Lib.hid hng; have BG := Lib.hid hbg
  have GL := Lib.hid (blk_lt hg)
  clear hg hv hO hf hp hE hb hl ht hng hbg
  obtain ⟨B0, B1, n0, n1, hu⟩ : ∃ (B : Option Addr) (b : Nat) (n m : Nat), u = .slice B n b := by
    obtain ⟨A, c, e⟩ := Kd.N_slice HO.out
    exact ⟨A, c, _, 0, e⟩
  subst hu
  go_enter Tryd.func81, Tryd.ntmps81
  go_wp2_with ((with_reducible refine gate_dst (N := 3) rfl ?_); refine box_event ?hg (N := 3) ?hd (cs := #[.slice A0 p.f0.length c0, .slice A1 p.f1.length c1]) (t := 116) ?hr ?_; (case hd => rfl); (case hg => rfl); (case hr => first | (go_simp; done) | (go_simp; rfl)); intro gb hg_ w1 hb_ hl_; have GB := Lib.hid hb_; have L1 := Lib.hid hl_; have HGB := Lib.hid hg_; clear hb_ hl_ hg_; simp only [Act.put, sa_, sz_, ss_])
  refine startW_ (X := fun w' => Below w.heap.size w w' ∧ gb < w'.heap.size ∧ w'.heap[gb]? = some (.cells #[.slice A0 p.f0.length c0, .slice A1 p.f1.length c1] 116 (0, 0))) (n := 11) (S := fun w' => w'.heap[g]? = some (.cells cs t (0, 0)) ∧ w'.heap[gb]? = some (.cells #[.slice A0 p.f0.length c0, .slice A1 p.f1.length c1] 116 (0, 0))) (ds := [10]) #[false, false, false, false, false, false, false, false, false, false, false] (by kernel_rfl) rfl rfl (⟨Below.drew L1.out, blk_lt GB.out, blk_drew GB.out⟩) (fun w' h => ⟨(h.1.block g GL.out).trans HG.out, h.2.2⟩) (fun w2 hX_ hHeld => ?_)
  have X2 := Lib.hid hX_; clear hX_
  refine pure_ (i := 0) (N := some 4) (v := ?_) (a' := ?_) #[true, false, false, false, false, false, false, false, false, false, false] rfl rfl (by kernel_rfl) (fun _ _ _ h => h) (Or.inl ⟨by rfl, ?_⟩) ?_ ?_; rotate_left
  · intro w'
    go_simp; (with_reducible rfl)
  rotate_left
  · simp only [Act.put, sa_, sz_, ss_, i64_w, i32_w]
    rfl
  refine pure_ (i := 1) (N := some 5) (v := ?_) (a' := ?_) #[true, true, false, false, false, false, false, false, false, false, false] rfl rfl (by kernel_rfl) (fun _ _ _ h => h) (Or.inl ⟨by rfl, ?_⟩) ?_ ?_; rotate_left
  · intro w'
    go_simp; (with_reducible rfl)
  rotate_left
  · simp only [Act.put, sa_, sz_, ss_, i64_w, i32_w]
    rfl
  refine take_ (i := 2) (N := some 6) (v := ?_) (a' := ?_) #[true, true, true, false, false, false, false, false, false, false, false] rfl rfl (by kernel_rfl) (fun _ _ _ h => h) (Or.inl ⟨by rfl, ?_⟩) hHeld ?_ ?_; rotate_left
  · intro w' hS; go_simp; (with_reducible rfl)
  rotate_left
  · simp only [Act.put, sa_, sz_, ss_, i64_w, i32_w]
    rfl
  refine take_ (i := 3) (N := some 7) (v := ?_) (a' := ?_) #[true, true, true, true, false, false, false, false, false, false, false] rfl rfl (by kernel_rfl) (fun _ _ _ h => h) (Or.inl ⟨by rfl, ?_⟩) hHeld ?_ ?_; rotate_left
  · intro w' hS; go_simp; (with_reducible rfl)
  rotate_left
  · simp only [Act.put, sa_, sz_, ss_, i64_w, i32_w]
    rfl
  refine take_ (i := 4) (N := some 8) (v := ?_) (a' := ?_) #[true, true, true, true, true, false, false, false, false, false, false] rfl rfl (by kernel_rfl) (fun _ _ _ h => h) (Or.inl ⟨by rfl, ?_⟩) hHeld ?_ ?_; rotate_left
  · intro w' hS; have hq := (blk_cell hS.1 o).trans HV.out; go_simp; (with_reducible rfl)
  rotate_left
  · simp only [Act.put, sa_, sz_, ss_, i64_w, i32_w]
    rfl
  refine take_ (i := 5) (N := some 9) (v := ?_) (a' := ?_) #[true, true, true, true, true, true, false, false, false, false, false] rfl rfl (by kernel_rfl) (fun _ _ _ h => h) (Or.inl ⟨by rfl, ?_⟩) hHeld ?_ ?_; rotate_left
  · intro w' hS; obtain ⟨s0, s1, f0, f1⟩ := bw2_ hS.2; go_simp; (with_reducible rfl)
  rotate_left
  · simp only [Act.put, sa_, sz_, ss_, i64_w, i32_w]
    rfl
  refine one_ (i := 6) (N := some 10) #[true, true, true, true, true, true, true, false, false, false, false] rfl rfl (by kernel_rfl) (by decide) (fun K hK => ?_); refine value_ (w1 := w2.alloc (.cells #[.slice A0 p.f0.length c0, .slice A1 p.f1.length c1] 116)) (v := .slice (some ⟨w2.heap.size, 0, none⟩) 1 1) (by rfl) rfl ?hr ?_; (case hr => first | (go_simp; done) | (go_simp; rfl)); refine hK.out _ _ ⟨blk_alloc hHeld.1 _, blk_alloc hHeld.2 _⟩ (fun hHeld => ?_); clear hK K; refine norm_ (a' := ?_) ?_ ?_; rotate_left
  · show Act.put _ (some 10) _ = _
    simp only [Act.put, sa_, sz_, ss_, i64_w, i32_w]; rfl
  refine one_ (i := 7) (N := some 11) #[true, true, true, true, true, true, true, true, false, false, false] rfl rfl (by kernel_rfl) (by decide) (fun K hK => ?_); refine Kd.N_append_step k116 (w0 := w) base (by rfl) (.tmp 8) (.tmp 10) 98 116 (.agg #[.slice none 0 0, .slice none 0 0]) 48 rfl Tryd.underlying98 info116 rfl (by decide) (by omega) (.slice B0 n0 B1) xs p [.slice A0 p.f0.length c0, .slice A1 p.f1.length c1] ok E rfl rfl ?aP HE.out ?aF ?aO ?aB ?aS ?aL ?_; (case aP => exact Foot.step HP.out (fun k _ hk => X2.out.1.block k hk)); (case aF => exact fun k hk => HF.out k (Nat.le_trans X2.out.1.size hk)); (case aO => exact Kd.N_below HO.out X2.out.1); (case aB => exact X2.out.1.mono HB.out); (case aS => exact Nat.le_trans HB.out X2.out.1.size); (case aL => have := HL.out; omega); intro v1 w3 hn hb3 hg3 hat3; have N3 := Lib.hid hn; have B3 := Lib.hid hb3; have G3 := Lib.hid hg3; have A3 := Lib.hid hat3; clear hn hb3 hg3 hat3; refine hK.out _ _ ⟨?_, ?_⟩ (fun hHeld => ?_)
  · exact (G3.out.block g (Nat.lt_of_lt_of_le GL.out X2.out.1.size) (Kd.N_ne HO.out HG.out HT.out)).trans ((X2.out.1.block g GL.out).trans HG.out)
  · exact (G3.out.block gb X2.out.2.1 (fun e => by have h1 := Kd.N_lt HO.out gb e.symm; have h2 := HGB.out; omega)).trans X2.out.2.2
  clear hK K; refine norm_ (a' := ?_) ?_ ?_; rotate_left
  · show Act.put _ (some 11) _ = _
    simp only [Act.put, sa_, sz_, ss_, i64_w, i32_w]; rfl
  refine pure_ (i := 8) (N := some 12) (v := ?_) (a' := ?_) #[true, true, true, true, true, true, true, true, true, false, false] rfl rfl (by kernel_rfl) (fun _ _ _ h => h) (Or.inl ⟨by rfl, ?_⟩) ?_ ?_; rotate_left
  · intro w'
    go_simp; (with_reducible rfl)
  rotate_left
  · simp only [Act.put, sa_, sz_, ss_, i64_w, i32_w]
    rfl
  refine pure_ (i := 9) (N := some 13) (v := ?_) (a' := ?_) #[true, true, true, true, true, true, true, true, true, true, false] rfl rfl (by kernel_rfl) (fun _ _ _ h => h) (Or.inl ⟨by rfl, ?_⟩) ?_ ?_; rotate_left
  · intro w'
    go_simp; (with_reducible rfl)
  rotate_left
  · simp only [Act.put, sa_, sz_, ss_, i64_w, i32_w]
    rfl
  obtain ⟨C0, d0, hv1⟩ := Kd.N_slice N3.out
  subst hv1
  have hq := (blk_cell hHeld.1 o).trans HV.out
  have hf := blk_frozen hHeld.1 o
  refine last_ (i := 10) (N := none) #[true, true, true, true, true, true, true, true, true, true, true] rfl rfl (by kernel_rfl) (by decide) (fun K hK => ?_); refine skip_ (w1 := ?_) (by rfl) rfl ?_ ?_; rotate_left
  · go_simp
    rfl
  refine hK.out _ _ ?_; clear hK K; refine done_ (by kernel_rfl) ?_
  try go_wp2
  go_end0
  have hlen : (xs ++ [p]).length = xs.length + 1 := by simp
  have N4 := N3.out; have A4 := A3.out
  rw [hlen] at N4 A4
  have hgw : w3.heap[g]? = some (.cells cs t (0, 0)) := hHeld.1
  have hf3 : ∀ k, k ≠ g → (w3.setCell ⟨g, o, none⟩ (.slice C0 (xs.length + 1) d0)).heap[k]? = w3.heap[k]? := fun k hk => Below.heap_setCell w3 ⟨g, o, none⟩ _ k hk
  refine ⟨rfl, .slice C0 (xs.length + 1) d0, ?_, fun cs' t' h => ?_, fun k hk hkg hku => ?_, ?_, ?_, B3.out.setCell BG.out _⟩
  · exact Kd.N_step N4 fun k hk _ => hf3 k fun e => NG.out (e ▸ hk)
  · have h2 := HG.out.symm.trans h
    injection h2 with h2
    injection h2 with h3 h4
    subst h3 h4
    exact blk_put hgw o _ rfl
  · exact (hf3 k hkg).trans ((G3.out.block k (Nat.lt_of_lt_of_le hk X2.out.1.size) hku).trans (X2.out.1.block k hk))
  · rcases A4 with q | ⟨b, q, r⟩
    · exact .inl q
    · exact .inr ⟨b, q, Nat.le_trans X2.out.1.size r⟩
  · rw [World.size_setCell]
    exact Nat.le_trans X2.out.1.size G3.out.size
end Go.Proofs.YtcfgjaggccnoaaaDoor.PTableSteps
namespace Go.Proofs.YtcfgjaggccnoaaaDoor.PTableSteps
open Go.RowKit Go.Proofs.YtcfgjaggccnoaaaDoorW.PrintWords Go.Proofs.YtcfgjaggccnoaaaDoorW.PrintLast Go.Proofs.YtcfgjaggccnoaaaDoorW.PrintMore
attribute [local go_sem] max2_int min2_int max_two min_two max_three min_three max_four min_four
set_option linter.unusedVariables false
set_option maxHeartbeats 8000000
set_option linter.unusedSimpArgs false
set_option maxRecDepth 100000
mutual
def r04_Much.l0 : Nat → List (List (S23)) → Int → Int → Option (Bool)
 | 0, _, _, _ => none
 | k + 1, x0, x3, x4 => if x4 < (x0.length : Int) then (r04_Much.j1 k x0 x3 x4 (decide (x4 < 60))) else (r04_Much.j1 k x0 x3 x4 false)
def r04_Much.j1 : Nat → List (List (S23)) → Int → Int → Bool → Option (Bool)
 | 0, _, _, _, _ => none
 | k + 1, x0, x3, x4, x13 => if x13 = true then (if 0 ≤ x4 then (if x4 < (x0.length : Int) then (if ((rd_L3 x0 x4).length : Int) > 40 then (some true) else (r04_Much.l1 k x0 x3 x4 0)) else (none)) else (none)) else (some (decide ((x0.length : Int) > 50)))
def r04_Much.l1 : Nat → List (List (S23)) → Int → Int → Int → Option (Bool)
 | 0, _, _, _, _ => none
 | k + 1, x0, x3, x4, x5 => if 0 ≤ x4 then (if x4 < (x0.length : Int) then (if x5 < ((rd_L3 x0 x4).length : Int) then (if 0 ≤ x5 then (r04_Much.l1 k x0 (wrap64 ((wrap64 (x3 + 1)) + (((rd_T23 (rd_L3 x0 x4) x5).f2).size : Int))) x4 (wrap64 (x5 + 1))) else (none)) else (if x3 > 2000 then (some true) else (r04_Much.l0 k x0 x3 (wrap64 (x4 + 1))))) else (none)) else (none)
end
def r04_Much.f (k : Nat) (l0 : List (List (S23))) : Option (Bool) := r04_Much.l0 k l0 0 0
theorem r04_Much.mono_l : ∀ k, (∀ y0 y1 y2, LeO (r04_Much.l0 k y0 y1 y2) (r04_Much.l0 (k + 1) y0 y1 y2)) ∧ (∀ y0 y1 y2 y3, LeO (r04_Much.j1 k y0 y1 y2 y3) (r04_Much.j1 (k + 1) y0 y1 y2 y3)) ∧ (∀ y0 y1 y2 y3, LeO (r04_Much.l1 k y0 y1 y2 y3) (r04_Much.l1 (k + 1) y0 y1 y2 y3))
 | 0 => ⟨fun _ _ _ r h => by simp [r04_Much.l0] at h, fun _ _ _ _ r h => by simp [r04_Much.j1] at h, fun _ _ _ _ r h => by simp [r04_Much.l1] at h⟩
 | k + 1 => by
  obtain ⟨ih0, ih1, ih2⟩ := r04_Much.mono_l k; refine ⟨?_, ?_, ?_⟩
  ·intro y0 y1 y2
   unfold r04_Much.l0
   repeat' first
   | (with_reducible exact ih0 _ _ _)
   | (with_reducible exact ih1 _ _ _ _)
   | (with_reducible exact ih2 _ _ _ _)
   | (with_reducible exact LeO.refl _)
   | (with_reducible exact LeO.none _)
   | (with_reducible refine LeO.ite ?_ ?_)
   | (with_reducible refine LeO.bind ?_ (fun _ => ?_))
   | exact ih0 _ _ _
   | exact ih1 _ _ _ _
   | exact ih2 _ _ _ _
   | exact LeO.none _
   | refine LeO.ite ?_ ?_
   | refine LeO.bind ?_ (fun _ => ?_)
  ·intro y0 y1 y2 y3
   unfold r04_Much.j1
   repeat' first
   | (with_reducible exact ih0 _ _ _)
   | (with_reducible exact ih1 _ _ _ _)
   | (with_reducible exact ih2 _ _ _ _)
   | (with_reducible exact LeO.refl _)
   | (with_reducible exact LeO.none _)
   | (with_reducible refine LeO.ite ?_ ?_)
   | (with_reducible refine LeO.bind ?_ (fun _ => ?_))
   | exact ih0 _ _ _
   | exact ih1 _ _ _ _
   | exact ih2 _ _ _ _
   | exact LeO.none _
   | refine LeO.ite ?_ ?_
   | refine LeO.bind ?_ (fun _ => ?_)
  ·intro y0 y1 y2 y3
   unfold r04_Much.l1
   repeat' first
   | (with_reducible exact ih0 _ _ _)
   | (with_reducible exact ih1 _ _ _ _)
   | (with_reducible exact ih2 _ _ _ _)
   | (with_reducible exact LeO.refl _)
   | (with_reducible exact LeO.none _)
   | (with_reducible refine LeO.ite ?_ ?_)
   | (with_reducible refine LeO.bind ?_ (fun _ => ?_))
   | exact ih0 _ _ _
   | exact ih1 _ _ _ _
   | exact ih2 _ _ _ _
   | exact LeO.none _
   | refine LeO.ite ?_ ?_
   | refine LeO.bind ?_ (fun _ => ?_)
theorem r04_Much.mono : ∀ a0 k, LeO (r04_Much.f k a0) (r04_Much.f (k + 1) a0) := by
 intro a0 k; obtain ⟨ih0, ih1, ih2⟩ := r04_Much.mono_l k; unfold r04_Much.f
 repeat' first
   | (with_reducible exact ih0 _ _ _)
   | (with_reducible exact ih1 _ _ _ _)
   | (with_reducible exact ih2 _ _ _ _)
   | (with_reducible exact LeO.refl _)
   | (with_reducible exact LeO.none _)
   | (with_reducible refine LeO.ite ?_ ?_)
   | (with_reducible refine LeO.bind ?_ (fun _ => ?_))
   | exact ih0 _ _ _
   | exact ih1 _ _ _ _
   | exact ih2 _ _ _ _
   | exact LeO.none _
   | refine LeO.ite ?_ ?_
   | refine LeO.bind ?_ (fun _ => ?_)
theorem r04_Much.calls (k : Nat) (A0 : Option Addr) (c0 : Nat) (l0 : List (List (S23))) (r : Bool) (w : World) (hr0 : Kd.C (Kd.slice 23 k23) w A0 l0.length l0) (hc0 : l0.length ≤ c0) (h : r04_Much.f k l0 = some r) :
  Calls Tryd.prog 11 #[.slice A0 l0.length c0] w fun e w' => e = .returned (.bool r) ∧ Drawn0 w w' := by
 have HR0 := am_ hr0; have HC0 := am_ hc0; clear hr0 hc0; have H : (r04_Much.l0 k l0 0 0) = some r := h; clear h; have H' := am_ H; clear H
 go_enter Tryd.func11, Tryd.ntmps11
 go_wp2
 go_loopg [3, 4] k (fun kq v3 v4 w' => ∃ (x3_1 : Int) (x4_1 : Int), v3 = .int .i64 x3_1 ∧ v4 = .int .i64 x4_1 ∧ Aside0 (r04_Much.l0 kq l0 x3_1 x4_1 = some r) ∧ Aside0 (kq ≤ k) ∧ Drawn0 w w')
 case atStart => exact ⟨(0), (0), (rs_), (rs_), H', ⟨Nat.le_refl _⟩, by repeat (first | exact Drawn0.refl _ | apply Drawn0.step)⟩
 case round =>
  clear H'; (try clear c1); obtain ⟨x3_1, x4_1, rfl, rfl, HA, HK1, ⟨m1, rfl⟩⟩ := hrel
  cases gk with
  | zero => exact absurd HA.out (by simp [r04_Much.l0])
  | succ k1 =>
   have H := HA.out; clear HA; simp only [r04_Much.l0] at H; have HC2 := am_ H; clear H
   go_upto_region 3 with (fail)
   go_cut [13] (fun v13 wc => ∃ (kq : Nat) (x13_1 : Bool), v13 = .bool x13_1 ∧ Aside0 (r04_Much.j1 kq l0 x3_1 x4_1 x13_1 = some r) ∧ Aside0 (kq ≤ k1) ∧ Drawn0 w wc)
   case first =>
    have H := HC2.out; clear HC2
    by_cases c3 : x4_1 < (l0.length : Int)
    ·rw [if_pos c3] at H
     have c3b0 : decide (x4_1 < (l0.length : Int)) = true := decide_eq_true c3; clear c3; (first | rw [c3b0] | (simp only [i64_w, i32_w]; rw [c3b0]) | skip); have H' := am_ H; clear H
     go_wp2
     go_meet
     case rel => exact ⟨_, (decide (x4_1 < 60)), (rs_), H', ⟨by have := HK1.out; first | omega | exact Nat.le_refl _⟩, by repeat (first | exact Drawn0.refl _ | apply Drawn0.step)⟩
    ·rw [if_neg c3] at H
     have c3b0 : decide (x4_1 < (l0.length : Int)) = false := decide_eq_false c3; clear c3; (first | rw [c3b0] | (simp only [i64_w, i32_w]; rw [c3b0]) | skip); have H' := am_ H; clear H
     go_wp2
     go_meet
     case rel => exact ⟨_, (false), (rs_), H', ⟨by have := HK1.out; first | omega | exact Nat.le_refl _⟩, by repeat (first | exact Drawn0.refl _ | apply Drawn0.step)⟩
   case rest =>
    clear HC2; (try clear c1); (try clear p2); (try clear c3); (try clear c3b0); obtain ⟨kq, x13_1, rfl, HA, HJ1, ⟨mc1, rfl⟩⟩ := hcut
    cases kq with
    | zero => exact absurd HA.out (by simp [r04_Much.j1])
    | succ kj1 =>
     have H := HA.out; clear HA; simp only [r04_Much.j1] at H
     by_cases c4 : x13_1 = true
     ·subst c4
      have H1 : (if 0 ≤ x4_1 then (if x4_1 < (l0.length : Int) then (if ((rd_L3 l0 x4_1).length : Int) > 40 then (some true) else (r04_Much.l1 kj1 l0 x3_1 x4_1 0)) else (none)) else (none)) = some r := by rw [if_pos rfl] at H; exact H
      clear H; have H := H1; clear H1
      by_cases c5 : 0 ≤ x4_1
      ·rw [if_pos c5] at H
       have c5b0 : decide (0 ≤ x4_1) = true := decide_eq_true c5; clear c5
       by_cases c6 : x4_1 < (l0.length : Int)
       ·rw [if_pos c6] at H
        have c6b0 : decide (x4_1 < (l0.length : Int)) = true := decide_eq_true c6; clear c6
        by_cases c7 : ((rd_L3 l0 x4_1).length : Int) > 40
        ·rw [if_pos c7] at H
         have c7b0 : decide (40 < ((rd_L3 l0 x4_1).length : Int)) = true := decide_eq_true c7; have c7b1 : decide (40 < (rd_L3 l0 x4_1).length) = true := decide_eq_true (by omega); clear c7; obtain rfl := Option.some.inj H; have p101 : 0 ≤ (x4_1 : Int) := of_decide_eq_true (as_); have q101 : x4_1 < (l0.length : Int) := of_decide_eq_true (as_); obtain ⟨ad101, A101_0, c101_0, e101, hx101_0, hl101_0, hi101_0⟩ := at_L3 HR0.out x4_1 p101 q101; cases e101; have HR101_0 := am_ hi101_0; have HC101_0 := am_ hl101_0; clear hi101_0 hl101_0; replace p101 := eq_true p101; replace q101 := eq_true q101
         go_wp2
         go_ret
         exact ⟨rs_, by repeat (first | exact Drawn0.refl _ | apply Drawn0.step)⟩
        ·rw [if_neg c7] at H
         have c7b0 : decide (40 < ((rd_L3 l0 x4_1).length : Int)) = false := decide_eq_false c7; have c7b1 : decide (40 < (rd_L3 l0 x4_1).length) = false := decide_eq_false (by omega); clear c7; have H' := am_ H; clear H; have p101 : 0 ≤ (x4_1 : Int) := of_decide_eq_true (as_); have q101 : x4_1 < (l0.length : Int) := of_decide_eq_true (as_); obtain ⟨ad101, A101_0, c101_0, e101, hx101_0, hl101_0, hi101_0⟩ := at_L3 HR0.out x4_1 p101 q101; cases e101; have HR101_0 := am_ hi101_0; have HC101_0 := am_ hl101_0; clear hi101_0 hl101_0; replace p101 := eq_true p101; replace q101 := eq_true q101
         go_wp2
         go_loopg [3, 5] kj1 (fun kq v3 v5 w' => ∃ (x3_3 : Int) (x5_3 : Int), v3 = .int .i64 x3_3 ∧ v5 = .int .i64 x5_3 ∧ Aside0 (r04_Much.l1 kq l0 x3_3 x4_1 x5_3 = some r) ∧ Aside0 (kq ≤ kj1) ∧ Drawn0 w w')
         case atStart => exact ⟨(x3_1), (0), (rs_), (rs_), H', ⟨Nat.le_refl _⟩, by repeat (first | exact Drawn0.refl _ | apply Drawn0.step)⟩
         case round =>
          clear H'; (try clear c1); (try clear p1); (try clear q1); (try clear hx1); (try clear p2); (try clear c3); (try clear c3b0); (try clear c4); (try clear c5); (try clear c5b0); (try clear c6); (try clear c6b0); (try clear c7); (try clear c7b0); (try clear c7b1); (try clear hx101_0); (try clear p101); (try clear p2); (try clear q101); obtain ⟨x3_3, x5_3, rfl, rfl, HA, HK3, ⟨m3, rfl⟩⟩ := hrel
          cases gk with
          | zero => exact absurd HA.out (by simp [r04_Much.l1])
          | succ k3 =>
           have H := HA.out; clear HA; simp only [r04_Much.l1] at H
           by_cases c8 : 0 ≤ x4_1
           ·rw [if_pos c8] at H
            have c8b0 : decide (0 ≤ x4_1) = true := decide_eq_true c8; clear c8
            by_cases c9 : x4_1 < (l0.length : Int)
            ·rw [if_pos c9] at H
             have c9b0 : decide (x4_1 < (l0.length : Int)) = true := decide_eq_true c9; clear c9
             by_cases c10 : x5_3 < ((rd_L3 l0 x4_1).length : Int)
             ·rw [if_pos c10] at H
              have c10b0 : decide (x5_3 < ((rd_L3 l0 x4_1).length : Int)) = true := decide_eq_true c10; clear c10
              by_cases c11 : 0 ≤ x5_3
              ·rw [if_pos c11] at H
               have c11b0 : decide (0 ≤ x5_3) = true := decide_eq_true c11; clear c11; have H' := am_ H; clear H; have p102 : 0 ≤ (x4_1 : Int) := of_decide_eq_true (as_); have q102 : x4_1 < (l0.length : Int) := of_decide_eq_true (as_); obtain ⟨ad102, A102_0, c102_0, e102, hx102_0, hl102_0, hi102_0⟩ := at_L3 HR0.out x4_1 p102 q102; obtain rfl : ad101 = ad102 := (by injection e102); have HR102_0 := am_ hi102_0; have HC102_0 := am_ hl102_0; clear hi102_0 hl102_0; replace p102 := eq_true p102; replace q102 := eq_true q102; have p103 : 0 ≤ (x4_1 : Int) := of_decide_eq_true (as_); have q103 : x4_1 < (l0.length : Int) := of_decide_eq_true (as_); obtain ⟨ad103, A103_0, c103_0, e103, hx103_0, hl103_0, hi103_0⟩ := at_L3 HR0.out x4_1 p103 q103; obtain rfl : ad101 = ad103 := (by injection e103); have HR103_0 := am_ hi103_0; have HC103_0 := am_ hl103_0; clear hi103_0 hl103_0; replace p103 := eq_true p103; replace q103 := eq_true q103; have ea_ := Option.some.inj (hx102_0.symm.trans hx103_0)
               injection ea_ with ea_ en_ ec_
               subst ea_; subst ec_; clear en_; have p104 : 0 ≤ (x5_3 : Int) := of_decide_eq_true (as_); have q104 : x5_3 < ((rd_L3 l0 x4_1).length : Int) := of_decide_eq_true (as_); obtain ⟨ad104, e104, hx104_0, hx104_1, hx104_2⟩ := at_T23 HR103_0.out x5_3 p104 q104; cases e104; replace p104 := eq_true p104; replace q104 := eq_true q104
               go_wp2
               go_roundg k3
               case measure => have := HK1.out; have := HJ1.out; have := HK3.out; omega
               case rel => exact ⟨(wrap64 ((wrap64 (x3_3 + 1)) + (((rd_T23 (rd_L3 l0 x4_1) x5_3).f2).size : Int))), (wrap64 (x5_3 + 1)), (rs_), (rs_), H', ⟨by have := HK1.out; have := HJ1.out; have := HK3.out; omega⟩, by repeat (first | exact Drawn0.refl _ | apply Drawn0.step)⟩
              ·rw [if_neg c11] at H
               exact absurd H (by simp)
             ·rw [if_neg c10] at H
              have c10b0 : decide (x5_3 < ((rd_L3 l0 x4_1).length : Int)) = false := decide_eq_false c10; clear c10
              by_cases c12 : x3_3 > 2000
              ·rw [if_pos c12] at H
               have c12b0 : decide (2000 < x3_3) = true := decide_eq_true c12; clear c12; obtain rfl := Option.some.inj H; have p102 : 0 ≤ (x4_1 : Int) := of_decide_eq_true (as_); have q102 : x4_1 < (l0.length : Int) := of_decide_eq_true (as_); obtain ⟨ad102, A102_0, c102_0, e102, hx102_0, hl102_0, hi102_0⟩ := at_L3 HR0.out x4_1 p102 q102; obtain rfl : ad101 = ad102 := (by injection e102); have HR102_0 := am_ hi102_0; have HC102_0 := am_ hl102_0; clear hi102_0 hl102_0; replace p102 := eq_true p102; replace q102 := eq_true q102
               go_wp2
               go_ret
               exact ⟨rs_, by repeat (first | exact Drawn0.refl _ | apply Drawn0.step)⟩
              ·rw [if_neg c12] at H
               have c12b0 : decide (2000 < x3_3) = false := decide_eq_false c12; clear c12; have H' := am_ H; clear H; have p102 : 0 ≤ (x4_1 : Int) := of_decide_eq_true (as_); have q102 : x4_1 < (l0.length : Int) := of_decide_eq_true (as_); obtain ⟨ad102, A102_0, c102_0, e102, hx102_0, hl102_0, hi102_0⟩ := at_L3 HR0.out x4_1 p102 q102; obtain rfl : ad101 = ad102 := (by injection e102); have HR102_0 := am_ hi102_0; have HC102_0 := am_ hl102_0; clear hi102_0 hl102_0; replace p102 := eq_true p102; replace q102 := eq_true q102
               go_wp2
               go_roundg k3
               case measure => have := HK1.out; have := HJ1.out; have := HK3.out; omega
               case rel => exact ⟨(x3_3), (wrap64 (x4_1 + 1)), (rs_), (rs_), H', ⟨by have := HK1.out; have := HJ1.out; have := HK3.out; omega⟩, by repeat (first | exact Drawn0.refl _ | apply Drawn0.step)⟩
            ·rw [if_neg c9] at H
             exact absurd H (by simp)
           ·rw [if_neg c8] at H
            exact absurd H (by simp)
       ·rw [if_neg c6] at H
        exact absurd H (by simp)
      ·rw [if_neg c5] at H
       exact absurd H (by simp)
     ·replace c4 := Bool.eq_false_iff.mpr c4
      subst c4
      have H1 : (some (decide ((l0.length : Int) > 50))) = some r := by rw [if_neg (show ¬ (false = true) by decide)] at H; exact H
      clear H; have H := H1; clear H1; obtain rfl := Option.some.inj H
      go_wp2
      go_ret
      exact ⟨rs_, by repeat (first | exact Drawn0.refl _ | apply Drawn0.step)⟩
def r34_Much.l0 : Nat → List (S39) → List (List (S23)) → Int → Option (Bool)
 | 0, _, _, _ => none
 | k + 1, x0, x3, x4 => if x4 < (x0.length : Int) then (if 0 ≤ x4 then (if x3.length < 5864062014805 then (if (((rd_T39 x0 x4).f2).length : Int) > 40 then (some true) else ((r04_Much.f k (([(rd_T39 x0 x4).f2] : List (List (S23))))).bind fun t114 => (if t114 = true then (some true) else (r34_Much.l0 k x0 (x3 ++ [(rd_T39 x0 x4).f1]) (wrap64 (x4 + 1)))))) else (none)) else (none)) else ((r04_Much.f k x3).bind fun t115 => (some t115))
def r34_Much.f (k : Nat) (l0 : List (S39)) : Option (Bool) := if (l0.length : Int) > 40 then (some true) else (r34_Much.l0 k l0 ([] : List (List (S23))) 0)
theorem r34_Much.mono_l : ∀ k, (∀ y0 y1 y2, LeO (r34_Much.l0 k y0 y1 y2) (r34_Much.l0 (k + 1) y0 y1 y2))
 | 0 => fun _ _ _ r h => by simp [r34_Much.l0] at h
 | k + 1 => by
  have ih0 := r34_Much.mono_l k
  ·intro y0 y1 y2
   unfold r34_Much.l0
   repeat' first
   | (with_reducible exact ih0 _ _ _)
   | (with_reducible exact r04_Much.mono _ _)
   | (with_reducible exact LeO.refl _)
   | (with_reducible exact LeO.none _)
   | (with_reducible refine LeO.ite ?_ ?_)
   | (with_reducible refine LeO.bind ?_ (fun _ => ?_))
   | exact ih0 _ _ _
   | exact r04_Much.mono _ _
   | exact LeO.none _
   | refine LeO.ite ?_ ?_
   | refine LeO.bind ?_ (fun _ => ?_)
theorem r34_Much.mono : ∀ a0 k, LeO (r34_Much.f k a0) (r34_Much.f (k + 1) a0) := by
 intro a0 k; have ih0 := r34_Much.mono_l k; unfold r34_Much.f
 repeat' first
   | (with_reducible exact ih0 _ _ _)
   | (with_reducible exact r04_Much.mono _ _)
   | (with_reducible exact LeO.refl _)
   | (with_reducible exact LeO.none _)
   | (with_reducible refine LeO.ite ?_ ?_)
   | (with_reducible refine LeO.bind ?_ (fun _ => ?_))
   | exact ih0 _ _ _
   | exact r04_Much.mono _ _
   | exact LeO.none _
   | refine LeO.ite ?_ ?_
   | refine LeO.bind ?_ (fun _ => ?_)
theorem r34_Much.calls (k : Nat) (P0_ : Nat → Prop) (A0 : Option Addr) (c0 : Nat) (l0 : List (S39)) (r : Bool) (w : World) (hs0 : Kd.V k39 39 w w.heap.size (fun k_ => P0_ k_) (.slice A0 l0.length c0) l0) (h : r34_Much.f k l0 = some r) :
  Calls Tryd.prog 17 #[.slice A0 l0.length c0] w fun e w' => e = .returned (.bool r) ∧ Below w.heap.size w w' := by
 have HO0 := am_ (show Kd.V k39 39 w w.heap.size (fun k_ => (P0_ k_ ∨ w.heap.size ≤ k_)) (.slice A0 l0.length c0) l0 from Kd.V_mono hs0 (fun k_ hk => .inl hk)); have HB := am_ (Below.refl w.heap.size w); have H : (if (l0.length : Int) > 40 then (some true) else (r34_Much.l0 k l0 ([] : List (List (S23))) 0)) = some r := h; clear h
 by_cases c2 : (l0.length : Int) > 40
 ·rw [if_pos c2] at H
  have c2b0 : decide (40 < (l0.length : Int)) = true := decide_eq_true c2; have c2b1 : decide (40 < l0.length) = true := decide_eq_true (by omega); clear c2; obtain rfl := Option.some.inj H
  go_enter Tryd.func17, Tryd.ntmps17
  go_wp2
  go_ret
  exact ⟨ew_, bl_⟩
 ·rw [if_neg c2] at H
  have c2b0 : decide (40 < (l0.length : Int)) = false := decide_eq_false c2; have c2b1 : decide (40 < l0.length) = false := decide_eq_false (by omega); clear c2; have H' := am_ H; clear H
  go_enter Tryd.func17, Tryd.ntmps17
  go_wp2
  go_loopg [3, 4] k (fun kq v3 v4 w' => ∃ (x3_1 : List (List (S23))) (x4_1 : Int), v4 = .int .i64 x4_1 ∧ Aside0 (r34_Much.l0 kq l0 x3_1 x4_1 = some r) ∧ Aside0 (kq ≤ k) ∧ Aside0 (Kd.V k39 39 w' w.heap.size (fun k_ => (P0_ k_ ∨ w.heap.size ≤ k_) ∧ some k_ ≠ (v3 : Value).ownBlock) (.slice A0 l0.length c0) l0) ∧ Aside0 (Kd.N (Kd.slice 23 k23) 24 w' w.heap.size (fun k_ => (P0_ k_ ∨ w.heap.size ≤ k_)) v3 x3_1) ∧ Aside0 (Below w.heap.size w w'))
  case atStart => exact ⟨(([] : List (List (S23)))), (0), (rs_), H', ⟨Nat.le_refl _⟩, ⟨by (with_reducible repeat (first | apply Kd.V_alloc | apply Kd.V_drewN | apply Kd.V_drew)); exact Kd.V_mono HO0.out (fun _ hk => ⟨hk, (by simp [Value.ownBlock])⟩)⟩, ⟨by first | exact Kd.S_nil _ _ _ _ _ | exact Kd.N_nil _ _ _ _ _ | exact Kd.V_nil _ _ _ _ _ | exact Kd.Q_nil _ _ _ _ _ | exact Kd.R_nil _ _ _ _ _⟩, ⟨bl_⟩⟩
  case round =>
   clear H'; (try clear c1); (try clear c2); (try clear c2b0); (try clear c2b1); (try clear p2); obtain ⟨x3_1, x4_1, rfl, HA, HK1, HO_0, HO_3, HB⟩ := hrel
   cases gk with
   | zero => exact absurd HA.out (by simp [r34_Much.l0])
   | succ k1 =>
    have H := HA.out; clear HA; simp only [r34_Much.l0] at H
    by_cases c3 : x4_1 < (l0.length : Int)
    ·rw [if_pos c3] at H
     have c3b0 : decide (x4_1 < (l0.length : Int)) = true := decide_eq_true c3; clear c3
     by_cases c4 : 0 ≤ x4_1
     ·rw [if_pos c4] at H
      have c4b0 : decide (0 ≤ x4_1) = true := decide_eq_true c4; clear c4
      by_cases c5 : x3_1.length < 5864062014805
      ·rw [if_pos c5] at H
       have LMc5 := am_ c5; clear c5
       obtain ⟨y106, hy106⟩ : ∃ y_ : List (List (S23)), y_ = (x3_1 ++ [(rd_T39 l0 x4_1).f1]) := ⟨_, rfl⟩
       replace H : (if (((rd_T39 l0 x4_1).f2).length : Int) > 40 then (some true) else ((r04_Much.f k1 (([(rd_T39 l0 x4_1).f2] : List (List (S23))))).bind fun t114 => (if t114 = true then (some true) else (r34_Much.l0 k1 l0 y106 (wrap64 (x4_1 + 1)))))) = some r := by first | (rw [hy106]; with_reducible exact H) | (have H2_ := (Option.bind_some _ _).symm.trans H; rw [hy106]; with_reducible exact H2_) | (have H2_ := (Option.bind_some _ _).symm.trans H; with_reducible exact H2_) | with_reducible exact H | (rw [hy106]; exact H) | exact H
       have Ny106 := am_ hy106; clear hy106
       by_cases c6 : (((rd_T39 l0 x4_1).f2).length : Int) > 40
       ·rw [if_pos c6] at H
        have c6b0 : decide (40 < (((rd_T39 l0 x4_1).f2).length : Int)) = true := decide_eq_true c6; have c6b1 : decide (40 < ((rd_T39 l0 x4_1).f2).length) = true := decide_eq_true (by omega); clear c6; obtain rfl := Option.some.inj H; have p105 : 0 ≤ (x4_1 : Int) := of_decide_eq_true (as_); have q105 : x4_1 < (l0.length : Int) := of_decide_eq_true (as_); obtain ⟨ad105, A105_1, c105_1, A105_2, c105_2, e105, hx105_0, hx105_1, hx105_2, hl105_1, hi105_1, hl105_2, hi105_2⟩ := at_T39 (Kd.V_reads' HO_0.out).2.2 x4_1 p105 q105; cases e105; obtain ⟨ce105, hce105, hMe105, hcc105⟩ := Kd.V_get HO_0.out z39 x4_1 p105 (by first | exact q105 | exact of_decide_eq_true (as_) | (have e_ := (Kd.V_reads' HO_0.out).1; omega)); obtain ⟨ua105_1, uc105_1, ua105_2, uc105_2, rfl, ul105_1, ge105_1, ul105_2, ge105_2⟩ := k39_openF hMe105; have hv105_1 := hcc105 1 _ rfl; rw [add_field _ _ 1 (by omega)] at hv105_1; replace hv105_1 := Option.some.inj (hv105_1.symm.trans hx105_1)
        injection hv105_1 with hva_ hvn_ hvc_
        rw [hva_] at ge105_1; rw [hvc_] at ul105_1; have HL105_1 := am_ (show Kd.V k23 23 _ w.heap.size _ _ ((rd_T39 l0 x4_1).f1) from Kd.V_mk ul105_1 ge105_1); clear hva_ hvn_ hvc_ ge105_1 ul105_1; have hv105_2 := hcc105 2 _ rfl; rw [add_field _ _ 2 (by omega)] at hv105_2; replace hv105_2 := Option.some.inj (hv105_2.symm.trans hx105_2)
        injection hv105_2 with hva_ hvn_ hvc_
        rw [hva_] at ge105_2; rw [hvc_] at ul105_2; have HL105_2 := am_ (show Kd.V k23 23 _ w.heap.size _ _ ((rd_T39 l0 x4_1).f2) from Kd.V_mk ul105_2 ge105_2); clear hva_ hvn_ hvc_ ge105_2 ul105_2; clear hcc105 hce105; have HR105_1 := am_ hi105_1; have HC105_1 := am_ hl105_1; clear hi105_1 hl105_1; have HR105_2 := am_ hi105_2; have HC105_2 := am_ hl105_2; clear hi105_2 hl105_2; replace p105 := eq_true p105; replace q105 := eq_true q105
        go_wp2_with (first | ((with_reducible refine gate_builtin (b := .append) (xs := #[.tmp 14, .tmp 20]) rfl ?_); (try (refine gate_guard (by rfl) ?_; dsimp only)); at_builtin; refine Kd.N_append (Kd.slice 23 k23) (w0 := w) w.heap.size rfl (.tmp 14) (.tmp 20) 26 24 (.slice none 0 0) 24 rfl Tryd.underlying26 info24 rfl (by decide) (by omega) u3 x3_1 ((rd_T39 l0 x4_1).f1) [.slice A105_1 ((rd_T39 l0 x4_1).f1).length c105_1] (fun k_ => (P0_ k_ ∨ w.heap.size ≤ k_)) (fun k_ => ((fun k_ => (P0_ k_ ∨ w.heap.size ≤ k_))) k_ ∧ some k_ ≠ (u3 : Value).ownBlock) rfl rfl ?aP (fun _ hk => hk) ?aF ?aO ?aB ?aS ?aL ?_; (case aP => exact (Kd.FK_slice_mk (Kd.V_reads' (Kd.V_mono (ok' := (fun k_ => ((fun k_ => (P0_ k_ ∨ w.heap.size ≤ k_))) k_ ∧ some k_ ≠ (u3 : Value).ownBlock)) (kv_ (HL105_1.out)) (fun k_ hk => ⟨hk.1, hk.2⟩))).2.1 (Kd.V_F (Kd.V_mono (ok' := (fun k_ => ((fun k_ => (P0_ k_ ∨ w.heap.size ≤ k_))) k_ ∧ some k_ ≠ (u3 : Value).ownBlock)) (kv_ (HL105_1.out)) (fun k_ hk => ⟨hk.1, hk.2⟩))))); (case aB => exact (bl_)); (case aF => exact (fun k_ hk => (.inr (Nat.le_trans (below_size (bl_)) hk)))); (case aO => exact (kn_ HO_3.out)); (case aS => exact (below_size (bl_))); (case aL => have := LMc5.out; omega); intro v107 w7 ho hb hg hat; rw [← Ny106.out] at ho; replace HO_0 := am_ (Kd.V_afterv (ok := (fun k_ => (P0_ k_ ∨ w.heap.size ≤ k_))) (kv_ HO_0.out) hg hat); replace HL105_1 := am_ (Kd.V_afterv (ok := (fun k_ => (P0_ k_ ∨ w.heap.size ≤ k_))) (kv_ HL105_1.out) hg hat); replace HL105_2 := am_ (Kd.V_afterv (ok := (fun k_ => (P0_ k_ ∨ w.heap.size ≤ k_))) (kv_ HL105_2.out) hg hat); have HO108 := am_ (ho); replace HB := am_ (hb); clear HO_3; clear ho hb hg hat; have p109 : 0 ≤ (x4_1 : Int) := of_decide_eq_true (as_); have q109 : x4_1 < (l0.length : Int) := of_decide_eq_true (as_); obtain ⟨ad109, A109_1, c109_1, A109_2, c109_2, e109, hx109_0, hx109_1, hx109_2, hl109_1, hi109_1, hl109_2, hi109_2⟩ := at_T39 (Kd.V_reads' HO_0.out).2.2 x4_1 p109 q109; obtain rfl : ad105 = ad109 := (by injection e109); obtain ⟨ce109, hce109, hMe109, hcc109⟩ := Kd.V_get HO_0.out z39 x4_1 p109 (by first | exact q109 | exact of_decide_eq_true (as_) | (have e_ := (Kd.V_reads' HO_0.out).1; omega)); obtain ⟨ua109_1, uc109_1, ua109_2, uc109_2, rfl, ul109_1, ge109_1, ul109_2, ge109_2⟩ := k39_openF hMe109; have hv109_1 := hcc109 1 _ rfl; rw [add_field _ _ 1 (by omega)] at hv109_1; replace hv109_1 := Option.some.inj (hv109_1.symm.trans hx109_1); injection hv109_1 with hva_ hvn_ hvc_; rw [hva_] at ge109_1; rw [hvc_] at ul109_1; have HL109_1 := am_ (show Kd.V k23 23 _ w.heap.size _ _ ((rd_T39 l0 x4_1).f1) from Kd.V_mk ul109_1 ge109_1); clear hva_ hvn_ hvc_ ge109_1 ul109_1; have hv109_2 := hcc109 2 _ rfl; rw [add_field _ _ 2 (by omega)] at hv109_2; replace hv109_2 := Option.some.inj (hv109_2.symm.trans hx109_2); injection hv109_2 with hva_ hvn_ hvc_; rw [hva_] at ge109_2; rw [hvc_] at ul109_2; have HL109_2 := am_ (show Kd.V k23 23 _ w.heap.size _ _ ((rd_T39 l0 x4_1).f2) from Kd.V_mk ul109_2 ge109_2); clear hva_ hvn_ hvc_ ge109_2 ul109_2; clear hcc109 hce109; have HR109_1 := am_ hi109_1; have HC109_1 := am_ hl109_1; clear hi109_1 hl109_1; have HR109_2 := am_ hi109_2; have HC109_2 := am_ hl109_2; clear hi109_2 hl109_2; replace p109 := eq_true p109; replace q109 := eq_true q109))
        go_ret
        exact ⟨ew_, bl_⟩
       ·rw [if_neg c6] at H
        have c6b0 : decide (40 < (((rd_T39 l0 x4_1).f2).length : Int)) = false := decide_eq_false c6; have c6b1 : decide (40 < ((rd_T39 l0 x4_1).f2).length) = false := decide_eq_false (by omega); clear c6
        obtain ⟨y111, hy111⟩ : ∃ y_ : List (List (S23)), y_ = (([(rd_T39 l0 x4_1).f2] : List (List (S23)))) := ⟨_, rfl⟩
        replace H : ((r04_Much.f k1 y111).bind fun t114 => (if t114 = true then (some true) else (r34_Much.l0 k1 l0 y106 (wrap64 (x4_1 + 1))))) = some r := by first | (rw [hy111]; with_reducible exact H) | (have H2_ := (Option.bind_some _ _).symm.trans H; rw [hy111]; with_reducible exact H2_) | (have H2_ := (Option.bind_some _ _).symm.trans H; with_reducible exact H2_) | with_reducible exact H | (rw [hy111]; exact H) | exact H
        have Ny111 := am_ hy111; clear hy111; replace H := Option.bind_eq_some_iff.mp H; obtain ⟨t114, A80, H⟩ := H; replace H : (if t114 = true then (some true) else (r34_Much.l0 k1 l0 y106 (wrap64 (x4_1 + 1)))) = some r := H; have A8 := am_ A80; clear A80
        by_cases c9 : t114 = true
        ·subst c9
         have H1 : (some true) = some r := by rw [if_pos rfl] at H; exact H
         clear H; have H := H1; clear H1; obtain rfl := Option.some.inj H; have p105 : 0 ≤ (x4_1 : Int) := of_decide_eq_true (as_); have q105 : x4_1 < (l0.length : Int) := of_decide_eq_true (as_); obtain ⟨ad105, A105_1, c105_1, A105_2, c105_2, e105, hx105_0, hx105_1, hx105_2, hl105_1, hi105_1, hl105_2, hi105_2⟩ := at_T39 (Kd.V_reads' HO_0.out).2.2 x4_1 p105 q105; cases e105; obtain ⟨ce105, hce105, hMe105, hcc105⟩ := Kd.V_get HO_0.out z39 x4_1 p105 (by first | exact q105 | exact of_decide_eq_true (as_) | (have e_ := (Kd.V_reads' HO_0.out).1; omega)); obtain ⟨ua105_1, uc105_1, ua105_2, uc105_2, rfl, ul105_1, ge105_1, ul105_2, ge105_2⟩ := k39_openF hMe105; have hv105_1 := hcc105 1 _ rfl; rw [add_field _ _ 1 (by omega)] at hv105_1; replace hv105_1 := Option.some.inj (hv105_1.symm.trans hx105_1)
         injection hv105_1 with hva_ hvn_ hvc_
         rw [hva_] at ge105_1; rw [hvc_] at ul105_1; have HL105_1 := am_ (show Kd.V k23 23 _ w.heap.size _ _ ((rd_T39 l0 x4_1).f1) from Kd.V_mk ul105_1 ge105_1); clear hva_ hvn_ hvc_ ge105_1 ul105_1; have hv105_2 := hcc105 2 _ rfl; rw [add_field _ _ 2 (by omega)] at hv105_2; replace hv105_2 := Option.some.inj (hv105_2.symm.trans hx105_2)
         injection hv105_2 with hva_ hvn_ hvc_
         rw [hva_] at ge105_2; rw [hvc_] at ul105_2; have HL105_2 := am_ (show Kd.V k23 23 _ w.heap.size _ _ ((rd_T39 l0 x4_1).f2) from Kd.V_mk ul105_2 ge105_2); clear hva_ hvn_ hvc_ ge105_2 ul105_2; clear hcc105 hce105; have HR105_1 := am_ hi105_1; have HC105_1 := am_ hl105_1; clear hi105_1 hl105_1; have HR105_2 := am_ hi105_2; have HC105_2 := am_ hl105_2; clear hi105_2 hl105_2; replace p105 := eq_true p105; replace q105 := eq_true q105
         go_wp2_with (first | ((with_reducible refine gate_builtin (b := .append) (xs := #[.tmp 14, .tmp 20]) rfl ?_); (try (refine gate_guard (by rfl) ?_; dsimp only)); at_builtin; refine Kd.N_append (Kd.slice 23 k23) (w0 := w) w.heap.size rfl (.tmp 14) (.tmp 20) 26 24 (.slice none 0 0) 24 rfl Tryd.underlying26 info24 rfl (by decide) (by omega) u3 x3_1 ((rd_T39 l0 x4_1).f1) [.slice A105_1 ((rd_T39 l0 x4_1).f1).length c105_1] (fun k_ => (P0_ k_ ∨ w.heap.size ≤ k_)) (fun k_ => ((fun k_ => (P0_ k_ ∨ w.heap.size ≤ k_))) k_ ∧ some k_ ≠ (u3 : Value).ownBlock) rfl rfl ?aP (fun _ hk => hk) ?aF ?aO ?aB ?aS ?aL ?_; (case aP => exact (Kd.FK_slice_mk (Kd.V_reads' (Kd.V_mono (ok' := (fun k_ => ((fun k_ => (P0_ k_ ∨ w.heap.size ≤ k_))) k_ ∧ some k_ ≠ (u3 : Value).ownBlock)) (kv_ (HL105_1.out)) (fun k_ hk => ⟨hk.1, hk.2⟩))).2.1 (Kd.V_F (Kd.V_mono (ok' := (fun k_ => ((fun k_ => (P0_ k_ ∨ w.heap.size ≤ k_))) k_ ∧ some k_ ≠ (u3 : Value).ownBlock)) (kv_ (HL105_1.out)) (fun k_ hk => ⟨hk.1, hk.2⟩))))); (case aB => exact (bl_)); (case aF => exact (fun k_ hk => (.inr (Nat.le_trans (below_size (bl_)) hk)))); (case aO => exact (kn_ HO_3.out)); (case aS => exact (below_size (bl_))); (case aL => have := LMc5.out; omega); intro v107 w10 ho hb hg hat; rw [← Ny106.out] at ho; replace HO_0 := am_ (Kd.V_afterv (ok := (fun k_ => (P0_ k_ ∨ w.heap.size ≤ k_))) (kv_ HO_0.out) hg hat); replace HL105_1 := am_ (Kd.V_afterv (ok := (fun k_ => (P0_ k_ ∨ w.heap.size ≤ k_))) (kv_ HL105_1.out) hg hat); replace HL105_2 := am_ (Kd.V_afterv (ok := (fun k_ => (P0_ k_ ∨ w.heap.size ≤ k_))) (kv_ HL105_2.out) hg hat); have HO108 := am_ (ho); replace HB := am_ (hb); clear HO_3; clear ho hb hg hat; have p109 : 0 ≤ (x4_1 : Int) := of_decide_eq_true (as_); have q109 : x4_1 < (l0.length : Int) := of_decide_eq_true (as_); obtain ⟨ad109, A109_1, c109_1, A109_2, c109_2, e109, hx109_0, hx109_1, hx109_2, hl109_1, hi109_1, hl109_2, hi109_2⟩ := at_T39 (Kd.V_reads' HO_0.out).2.2 x4_1 p109 q109; obtain rfl : ad105 = ad109 := (by injection e109); obtain ⟨ce109, hce109, hMe109, hcc109⟩ := Kd.V_get HO_0.out z39 x4_1 p109 (by first | exact q109 | exact of_decide_eq_true (as_) | (have e_ := (Kd.V_reads' HO_0.out).1; omega)); obtain ⟨ua109_1, uc109_1, ua109_2, uc109_2, rfl, ul109_1, ge109_1, ul109_2, ge109_2⟩ := k39_openF hMe109; have hv109_1 := hcc109 1 _ rfl; rw [add_field _ _ 1 (by omega)] at hv109_1; replace hv109_1 := Option.some.inj (hv109_1.symm.trans hx109_1); injection hv109_1 with hva_ hvn_ hvc_; rw [hva_] at ge109_1; rw [hvc_] at ul109_1; have HL109_1 := am_ (show Kd.V k23 23 _ w.heap.size _ _ ((rd_T39 l0 x4_1).f1) from Kd.V_mk ul109_1 ge109_1); clear hva_ hvn_ hvc_ ge109_1 ul109_1; have hv109_2 := hcc109 2 _ rfl; rw [add_field _ _ 2 (by omega)] at hv109_2; replace hv109_2 := Option.some.inj (hv109_2.symm.trans hx109_2); injection hv109_2 with hva_ hvn_ hvc_; rw [hva_] at ge109_2; rw [hvc_] at ul109_2; have HL109_2 := am_ (show Kd.V k23 23 _ w.heap.size _ _ ((rd_T39 l0 x4_1).f2) from Kd.V_mk ul109_2 ge109_2); clear hva_ hvn_ hvc_ ge109_2 ul109_2; clear hcc109 hce109; have HR109_1 := am_ hi109_1; have HC109_1 := am_ hl109_1; clear hi109_1 hl109_1; have HR109_2 := am_ hi109_2; have HC109_2 := am_ hl109_2; clear hi109_2 hl109_2; replace p109 := eq_true p109; replace q109 := eq_true q109; have p110 : 0 ≤ (x4_1 : Int) := of_decide_eq_true (as_); have q110 : x4_1 < (l0.length : Int) := of_decide_eq_true (as_); obtain ⟨ad110, A110_1, c110_1, A110_2, c110_2, e110, hx110_0, hx110_1, hx110_2, hl110_1, hi110_1, hl110_2, hi110_2⟩ := at_T39 (Kd.V_reads' HO_0.out).2.2 x4_1 p110 q110; obtain rfl : ad105 = ad110 := (by injection e110); obtain ⟨ce110, hce110, hMe110, hcc110⟩ := Kd.V_get HO_0.out z39 x4_1 p110 (by first | exact q110 | exact of_decide_eq_true (as_) | (have e_ := (Kd.V_reads' HO_0.out).1; omega)); obtain ⟨ua110_1, uc110_1, ua110_2, uc110_2, rfl, ul110_1, ge110_1, ul110_2, ge110_2⟩ := k39_openF hMe110; have hv110_1 := hcc110 1 _ rfl; rw [add_field _ _ 1 (by omega)] at hv110_1; replace hv110_1 := Option.some.inj (hv110_1.symm.trans hx110_1); injection hv110_1 with hva_ hvn_ hvc_; rw [hva_] at ge110_1; rw [hvc_] at ul110_1; have HL110_1 := am_ (show Kd.V k23 23 _ w.heap.size _ _ ((rd_T39 l0 x4_1).f1) from Kd.V_mk ul110_1 ge110_1); clear hva_ hvn_ hvc_ ge110_1 ul110_1; have hv110_2 := hcc110 2 _ rfl; rw [add_field _ _ 2 (by omega)] at hv110_2; replace hv110_2 := Option.some.inj (hv110_2.symm.trans hx110_2); injection hv110_2 with hva_ hvn_ hvc_; rw [hva_] at ge110_2; rw [hvc_] at ul110_2; have HL110_2 := am_ (show Kd.V k23 23 _ w.heap.size _ _ ((rd_T39 l0 x4_1).f2) from Kd.V_mk ul110_2 ge110_2); clear hva_ hvn_ hvc_ ge110_2 ul110_2; clear hcc110 hce110; have HR110_1 := am_ hi110_1; have HC110_1 := am_ hl110_1; clear hi110_1 hl110_1; have HR110_2 := am_ hi110_2; have HC110_2 := am_ hl110_2; clear hi110_2 hl110_2; replace p110 := eq_true p110; replace q110 := eq_true q110; have ea_ := Option.some.inj (hx109_1.symm.trans hx110_1); injection ea_ with ea_ en_ ec_; subst ea_; subst ec_; clear en_; have ea_ := Option.some.inj (hx109_2.symm.trans hx110_2); injection ea_ with ea_ en_ ec_; subst ea_; subst ec_; clear en_) | ((with_reducible refine gate_dst (N := 35) rfl ?_); (try (refine gate_guard (by rfl) ?_; dsimp only)); refine Kd.N_lit (Kd.slice 23 k23) _ 24 ?hg (N' := 35) ?hd (xs := ([(rd_T39 l0 x4_1).f2] : List (List (S23)))) (inner := [.slice A109_2 ((rd_T39 l0 x4_1).f2).length c109_2]) (ok := (fun k_ => (P0_ k_ ∨ w.heap.size ≤ k_) ∧ some k_ ≠ (v107 : Value).ownBlock)) (okp := (fun k_ => (P0_ k_ ∨ w.heap.size ≤ k_) ∧ some k_ ≠ (v107 : Value).ownBlock)) ?hr ?hp (fun _ hk => hk) ((show ∀ k_, w10.heap.size ≤ k_ → (fun k_ => (P0_ k_ ∨ w.heap.size ≤ k_) ∧ some k_ ≠ (v107 : Value).ownBlock) k_ from fun k_ hk => ⟨(.inr (Nat.le_trans (below_size (bl_)) hk)), Kd.fresh' (Kd.N_lt (kn_ HO108.out)) k_ hk⟩) _ (Nat.le_refl _)) (Below.refl _ _) (Nat.le_refl _) (by simp) ?_; (case hd => rfl); (case hg => rfl); (case hr => first | (go_simp; done) | (go_simp; rfl)); (case hp => exact (Reps.one (show Kd.FK (Kd.slice 23 k23) _ _ ((rd_T39 l0 x4_1).f2) [.slice A109_2 ((rd_T39 l0 x4_1).f2).length c109_2] from (Kd.FK_slice_mk (Kd.V_reads' (Kd.V_mono (ok' := (fun k_ => (P0_ k_ ∨ w.heap.size ≤ k_) ∧ some k_ ≠ (v107 : Value).ownBlock)) (kv_ (HL110_2.out)) (fun k_ hk => ⟨hk.1, hk.2⟩))).2.1 (Kd.V_F (Kd.V_mono (ok' := (fun k_ => (P0_ k_ ∨ w.heap.size ≤ k_) ∧ some k_ ≠ (v107 : Value).ownBlock)) (kv_ (HL110_2.out)) (fun k_ hk => ⟨hk.1, hk.2⟩))))) (Reps.none _ _))); intro v112 w11 ho12 hb hg_ hnew_; clear hg_ hnew_; (first | rw [← Ny111.out] at ho12 | (simp only [Int.reduceToNat] at ho12; rw [← Ny111.out] at ho12)); replace HO_0 := am_ (Kd.V_elder' (kv_ HO_0.out) (Kd.N_base ho12) hb); replace HL105_1 := am_ (Kd.V_elder' (kv_ HL105_1.out) (Kd.N_base ho12) hb); replace HL105_2 := am_ (Kd.V_elder' (kv_ HL105_2.out) (Kd.N_base ho12) hb); replace HO108 := am_ (Kd.N_elder' (kn_ HO108.out) (Kd.N_base ho12) hb); replace HL109_1 := am_ (Kd.V_elder' (kv_ HL109_1.out) (Kd.N_base ho12) hb); replace HL109_2 := am_ (Kd.V_elder' (kv_ HL109_2.out) (Kd.N_base ho12) hb); replace HL110_1 := am_ (Kd.V_elder' (kv_ HL110_1.out) (Kd.N_base ho12) hb); replace HL110_2 := am_ (Kd.V_elder' (kv_ HL110_2.out) (Kd.N_base ho12) hb); have HO113 := am_ (Kd.N_lower ho12 (below_size (bl_))); replace HR109_1 := am_ (Kd.C_below (by repeat (first | (with_reducible exact HR109_1.out) | (with_reducible refine Kd.C_alloc ?_ _) | (with_reducible refine Kd.C_drewN ?_ _) | (with_reducible refine Kd.C_drew ?_) | exact HR109_1.out)) hb); replace HR109_2 := am_ (Kd.C_below (by repeat (first | (with_reducible exact HR109_2.out) | (with_reducible refine Kd.C_alloc ?_ _) | (with_reducible refine Kd.C_drewN ?_ _) | (with_reducible refine Kd.C_drew ?_) | exact HR109_2.out)) hb); replace HR110_1 := am_ (Kd.C_below (by repeat (first | (with_reducible exact HR110_1.out) | (with_reducible refine Kd.C_alloc ?_ _) | (with_reducible refine Kd.C_drewN ?_ _) | (with_reducible refine Kd.C_drew ?_) | exact HR110_1.out)) hb); replace HR110_2 := am_ (Kd.C_below (by repeat (first | (with_reducible exact HR110_2.out) | (with_reducible refine Kd.C_alloc ?_ _) | (with_reducible refine Kd.C_drewN ?_ _) | (with_reducible refine Kd.C_drew ?_) | exact HR110_2.out)) hb); replace HB := am_ (below_step (bl_) hb); clear hb ho12; obtain ⟨Ao13, co13, eo13⟩ := Kd.N_slice HO113.out; subst eo13) | (go_at_call 11; (with_reducible refine (r04_Much.calls k1 _ _ y111 true _ ?side1 ?side2 A8.out).mono ?_); (case side1 => repeat (first | exact (Kd.N_reads' HO113.out).2.2 | (with_reducible refine Kd.C_alloc ?_ _) | (with_reducible refine Kd.C_drewN ?_ _) | (with_reducible refine Kd.C_drew ?_))); (case side2 => exact (Kd.N_reads' HO113.out).2.1); rintro e w' ⟨rfl, ⟨nd, rfl⟩⟩))
         go_ret
         exact ⟨ew_, bl_⟩
        ·replace c9 := Bool.eq_false_iff.mpr c9
         subst c9
         have H1 : (r34_Much.l0 k1 l0 y106 (wrap64 (x4_1 + 1))) = some r := by rw [if_neg (show ¬ (false = true) by decide)] at H; exact H
         clear H; have H := H1; clear H1; have H' := am_ H; clear H; have p105 : 0 ≤ (x4_1 : Int) := of_decide_eq_true (as_); have q105 : x4_1 < (l0.length : Int) := of_decide_eq_true (as_); obtain ⟨ad105, A105_1, c105_1, A105_2, c105_2, e105, hx105_0, hx105_1, hx105_2, hl105_1, hi105_1, hl105_2, hi105_2⟩ := at_T39 (Kd.V_reads' HO_0.out).2.2 x4_1 p105 q105; cases e105; obtain ⟨ce105, hce105, hMe105, hcc105⟩ := Kd.V_get HO_0.out z39 x4_1 p105 (by first | exact q105 | exact of_decide_eq_true (as_) | (have e_ := (Kd.V_reads' HO_0.out).1; omega)); obtain ⟨ua105_1, uc105_1, ua105_2, uc105_2, rfl, ul105_1, ge105_1, ul105_2, ge105_2⟩ := k39_openF hMe105; have hv105_1 := hcc105 1 _ rfl; rw [add_field _ _ 1 (by omega)] at hv105_1; replace hv105_1 := Option.some.inj (hv105_1.symm.trans hx105_1)
         injection hv105_1 with hva_ hvn_ hvc_
         rw [hva_] at ge105_1; rw [hvc_] at ul105_1; have HL105_1 := am_ (show Kd.V k23 23 _ w.heap.size _ _ ((rd_T39 l0 x4_1).f1) from Kd.V_mk ul105_1 ge105_1); clear hva_ hvn_ hvc_ ge105_1 ul105_1; have hv105_2 := hcc105 2 _ rfl; rw [add_field _ _ 2 (by omega)] at hv105_2; replace hv105_2 := Option.some.inj (hv105_2.symm.trans hx105_2)
         injection hv105_2 with hva_ hvn_ hvc_
         rw [hva_] at ge105_2; rw [hvc_] at ul105_2; have HL105_2 := am_ (show Kd.V k23 23 _ w.heap.size _ _ ((rd_T39 l0 x4_1).f2) from Kd.V_mk ul105_2 ge105_2); clear hva_ hvn_ hvc_ ge105_2 ul105_2; clear hcc105 hce105; have HR105_1 := am_ hi105_1; have HC105_1 := am_ hl105_1; clear hi105_1 hl105_1; have HR105_2 := am_ hi105_2; have HC105_2 := am_ hl105_2; clear hi105_2 hl105_2; replace p105 := eq_true p105; replace q105 := eq_true q105
         go_wp2_with (first | ((with_reducible refine gate_builtin (b := .append) (xs := #[.tmp 14, .tmp 20]) rfl ?_); (try (refine gate_guard (by rfl) ?_; dsimp only)); at_builtin; refine Kd.N_append (Kd.slice 23 k23) (w0 := w) w.heap.size rfl (.tmp 14) (.tmp 20) 26 24 (.slice none 0 0) 24 rfl Tryd.underlying26 info24 rfl (by decide) (by omega) u3 x3_1 ((rd_T39 l0 x4_1).f1) [.slice A105_1 ((rd_T39 l0 x4_1).f1).length c105_1] (fun k_ => (P0_ k_ ∨ w.heap.size ≤ k_)) (fun k_ => ((fun k_ => (P0_ k_ ∨ w.heap.size ≤ k_))) k_ ∧ some k_ ≠ (u3 : Value).ownBlock) rfl rfl ?aP (fun _ hk => hk) ?aF ?aO ?aB ?aS ?aL ?_; (case aP => exact (Kd.FK_slice_mk (Kd.V_reads' (Kd.V_mono (ok' := (fun k_ => ((fun k_ => (P0_ k_ ∨ w.heap.size ≤ k_))) k_ ∧ some k_ ≠ (u3 : Value).ownBlock)) (kv_ (HL105_1.out)) (fun k_ hk => ⟨hk.1, hk.2⟩))).2.1 (Kd.V_F (Kd.V_mono (ok' := (fun k_ => ((fun k_ => (P0_ k_ ∨ w.heap.size ≤ k_))) k_ ∧ some k_ ≠ (u3 : Value).ownBlock)) (kv_ (HL105_1.out)) (fun k_ hk => ⟨hk.1, hk.2⟩))))); (case aB => exact (bl_)); (case aF => exact (fun k_ hk => (.inr (Nat.le_trans (below_size (bl_)) hk)))); (case aO => exact (kn_ HO_3.out)); (case aS => exact (below_size (bl_))); (case aL => have := LMc5.out; omega); intro v107 w14 ho hb hg hat; rw [← Ny106.out] at ho; replace HO_0 := am_ (Kd.V_afterv (ok := (fun k_ => (P0_ k_ ∨ w.heap.size ≤ k_))) (kv_ HO_0.out) hg hat); replace HL105_1 := am_ (Kd.V_afterv (ok := (fun k_ => (P0_ k_ ∨ w.heap.size ≤ k_))) (kv_ HL105_1.out) hg hat); replace HL105_2 := am_ (Kd.V_afterv (ok := (fun k_ => (P0_ k_ ∨ w.heap.size ≤ k_))) (kv_ HL105_2.out) hg hat); have HO108 := am_ (ho); replace HB := am_ (hb); clear HO_3; clear ho hb hg hat; have p109 : 0 ≤ (x4_1 : Int) := of_decide_eq_true (as_); have q109 : x4_1 < (l0.length : Int) := of_decide_eq_true (as_); obtain ⟨ad109, A109_1, c109_1, A109_2, c109_2, e109, hx109_0, hx109_1, hx109_2, hl109_1, hi109_1, hl109_2, hi109_2⟩ := at_T39 (Kd.V_reads' HO_0.out).2.2 x4_1 p109 q109; obtain rfl : ad105 = ad109 := (by injection e109); obtain ⟨ce109, hce109, hMe109, hcc109⟩ := Kd.V_get HO_0.out z39 x4_1 p109 (by first | exact q109 | exact of_decide_eq_true (as_) | (have e_ := (Kd.V_reads' HO_0.out).1; omega)); obtain ⟨ua109_1, uc109_1, ua109_2, uc109_2, rfl, ul109_1, ge109_1, ul109_2, ge109_2⟩ := k39_openF hMe109; have hv109_1 := hcc109 1 _ rfl; rw [add_field _ _ 1 (by omega)] at hv109_1; replace hv109_1 := Option.some.inj (hv109_1.symm.trans hx109_1); injection hv109_1 with hva_ hvn_ hvc_; rw [hva_] at ge109_1; rw [hvc_] at ul109_1; have HL109_1 := am_ (show Kd.V k23 23 _ w.heap.size _ _ ((rd_T39 l0 x4_1).f1) from Kd.V_mk ul109_1 ge109_1); clear hva_ hvn_ hvc_ ge109_1 ul109_1; have hv109_2 := hcc109 2 _ rfl; rw [add_field _ _ 2 (by omega)] at hv109_2; replace hv109_2 := Option.some.inj (hv109_2.symm.trans hx109_2); injection hv109_2 with hva_ hvn_ hvc_; rw [hva_] at ge109_2; rw [hvc_] at ul109_2; have HL109_2 := am_ (show Kd.V k23 23 _ w.heap.size _ _ ((rd_T39 l0 x4_1).f2) from Kd.V_mk ul109_2 ge109_2); clear hva_ hvn_ hvc_ ge109_2 ul109_2; clear hcc109 hce109; have HR109_1 := am_ hi109_1; have HC109_1 := am_ hl109_1; clear hi109_1 hl109_1; have HR109_2 := am_ hi109_2; have HC109_2 := am_ hl109_2; clear hi109_2 hl109_2; replace p109 := eq_true p109; replace q109 := eq_true q109; have p110 : 0 ≤ (x4_1 : Int) := of_decide_eq_true (as_); have q110 : x4_1 < (l0.length : Int) := of_decide_eq_true (as_); obtain ⟨ad110, A110_1, c110_1, A110_2, c110_2, e110, hx110_0, hx110_1, hx110_2, hl110_1, hi110_1, hl110_2, hi110_2⟩ := at_T39 (Kd.V_reads' HO_0.out).2.2 x4_1 p110 q110; obtain rfl : ad105 = ad110 := (by injection e110); obtain ⟨ce110, hce110, hMe110, hcc110⟩ := Kd.V_get HO_0.out z39 x4_1 p110 (by first | exact q110 | exact of_decide_eq_true (as_) | (have e_ := (Kd.V_reads' HO_0.out).1; omega)); obtain ⟨ua110_1, uc110_1, ua110_2, uc110_2, rfl, ul110_1, ge110_1, ul110_2, ge110_2⟩ := k39_openF hMe110; have hv110_1 := hcc110 1 _ rfl; rw [add_field _ _ 1 (by omega)] at hv110_1; replace hv110_1 := Option.some.inj (hv110_1.symm.trans hx110_1); injection hv110_1 with hva_ hvn_ hvc_; rw [hva_] at ge110_1; rw [hvc_] at ul110_1; have HL110_1 := am_ (show Kd.V k23 23 _ w.heap.size _ _ ((rd_T39 l0 x4_1).f1) from Kd.V_mk ul110_1 ge110_1); clear hva_ hvn_ hvc_ ge110_1 ul110_1; have hv110_2 := hcc110 2 _ rfl; rw [add_field _ _ 2 (by omega)] at hv110_2; replace hv110_2 := Option.some.inj (hv110_2.symm.trans hx110_2); injection hv110_2 with hva_ hvn_ hvc_; rw [hva_] at ge110_2; rw [hvc_] at ul110_2; have HL110_2 := am_ (show Kd.V k23 23 _ w.heap.size _ _ ((rd_T39 l0 x4_1).f2) from Kd.V_mk ul110_2 ge110_2); clear hva_ hvn_ hvc_ ge110_2 ul110_2; clear hcc110 hce110; have HR110_1 := am_ hi110_1; have HC110_1 := am_ hl110_1; clear hi110_1 hl110_1; have HR110_2 := am_ hi110_2; have HC110_2 := am_ hl110_2; clear hi110_2 hl110_2; replace p110 := eq_true p110; replace q110 := eq_true q110; have ea_ := Option.some.inj (hx109_1.symm.trans hx110_1); injection ea_ with ea_ en_ ec_; subst ea_; subst ec_; clear en_; have ea_ := Option.some.inj (hx109_2.symm.trans hx110_2); injection ea_ with ea_ en_ ec_; subst ea_; subst ec_; clear en_) | ((with_reducible refine gate_dst (N := 35) rfl ?_); (try (refine gate_guard (by rfl) ?_; dsimp only)); refine Kd.N_lit (Kd.slice 23 k23) _ 24 ?hg (N' := 35) ?hd (xs := ([(rd_T39 l0 x4_1).f2] : List (List (S23)))) (inner := [.slice A109_2 ((rd_T39 l0 x4_1).f2).length c109_2]) (ok := (fun k_ => (P0_ k_ ∨ w.heap.size ≤ k_) ∧ some k_ ≠ (v107 : Value).ownBlock)) (okp := (fun k_ => (P0_ k_ ∨ w.heap.size ≤ k_) ∧ some k_ ≠ (v107 : Value).ownBlock)) ?hr ?hp (fun _ hk => hk) ((show ∀ k_, w14.heap.size ≤ k_ → (fun k_ => (P0_ k_ ∨ w.heap.size ≤ k_) ∧ some k_ ≠ (v107 : Value).ownBlock) k_ from fun k_ hk => ⟨(.inr (Nat.le_trans (below_size (bl_)) hk)), Kd.fresh' (Kd.N_lt (kn_ HO108.out)) k_ hk⟩) _ (Nat.le_refl _)) (Below.refl _ _) (Nat.le_refl _) (by simp) ?_; (case hd => rfl); (case hg => rfl); (case hr => first | (go_simp; done) | (go_simp; rfl)); (case hp => exact (Reps.one (show Kd.FK (Kd.slice 23 k23) _ _ ((rd_T39 l0 x4_1).f2) [.slice A109_2 ((rd_T39 l0 x4_1).f2).length c109_2] from (Kd.FK_slice_mk (Kd.V_reads' (Kd.V_mono (ok' := (fun k_ => (P0_ k_ ∨ w.heap.size ≤ k_) ∧ some k_ ≠ (v107 : Value).ownBlock)) (kv_ (HL110_2.out)) (fun k_ hk => ⟨hk.1, hk.2⟩))).2.1 (Kd.V_F (Kd.V_mono (ok' := (fun k_ => (P0_ k_ ∨ w.heap.size ≤ k_) ∧ some k_ ≠ (v107 : Value).ownBlock)) (kv_ (HL110_2.out)) (fun k_ hk => ⟨hk.1, hk.2⟩))))) (Reps.none _ _))); intro v112 w15 ho16 hb hg_ hnew_; clear hg_ hnew_; (first | rw [← Ny111.out] at ho16 | (simp only [Int.reduceToNat] at ho16; rw [← Ny111.out] at ho16)); replace HO_0 := am_ (Kd.V_elder' (kv_ HO_0.out) (Kd.N_base ho16) hb); replace HL105_1 := am_ (Kd.V_elder' (kv_ HL105_1.out) (Kd.N_base ho16) hb); replace HL105_2 := am_ (Kd.V_elder' (kv_ HL105_2.out) (Kd.N_base ho16) hb); replace HO108 := am_ (Kd.N_elder' (kn_ HO108.out) (Kd.N_base ho16) hb); replace HL109_1 := am_ (Kd.V_elder' (kv_ HL109_1.out) (Kd.N_base ho16) hb); replace HL109_2 := am_ (Kd.V_elder' (kv_ HL109_2.out) (Kd.N_base ho16) hb); replace HL110_1 := am_ (Kd.V_elder' (kv_ HL110_1.out) (Kd.N_base ho16) hb); replace HL110_2 := am_ (Kd.V_elder' (kv_ HL110_2.out) (Kd.N_base ho16) hb); have HO113 := am_ (Kd.N_lower ho16 (below_size (bl_))); replace HR109_1 := am_ (Kd.C_below (by repeat (first | (with_reducible exact HR109_1.out) | (with_reducible refine Kd.C_alloc ?_ _) | (with_reducible refine Kd.C_drewN ?_ _) | (with_reducible refine Kd.C_drew ?_) | exact HR109_1.out)) hb); replace HR109_2 := am_ (Kd.C_below (by repeat (first | (with_reducible exact HR109_2.out) | (with_reducible refine Kd.C_alloc ?_ _) | (with_reducible refine Kd.C_drewN ?_ _) | (with_reducible refine Kd.C_drew ?_) | exact HR109_2.out)) hb); replace HR110_1 := am_ (Kd.C_below (by repeat (first | (with_reducible exact HR110_1.out) | (with_reducible refine Kd.C_alloc ?_ _) | (with_reducible refine Kd.C_drewN ?_ _) | (with_reducible refine Kd.C_drew ?_) | exact HR110_1.out)) hb); replace HR110_2 := am_ (Kd.C_below (by repeat (first | (with_reducible exact HR110_2.out) | (with_reducible refine Kd.C_alloc ?_ _) | (with_reducible refine Kd.C_drewN ?_ _) | (with_reducible refine Kd.C_drew ?_) | exact HR110_2.out)) hb); replace HB := am_ (below_step (bl_) hb); clear hb ho16; obtain ⟨Ao17, co17, eo17⟩ := Kd.N_slice HO113.out; subst eo17) | (go_at_call 11; (with_reducible refine (r04_Much.calls k1 _ _ y111 false _ ?side1 ?side2 A8.out).mono ?_); (case side1 => repeat (first | exact (Kd.N_reads' HO113.out).2.2 | (with_reducible refine Kd.C_alloc ?_ _) | (with_reducible refine Kd.C_drewN ?_ _) | (with_reducible refine Kd.C_drew ?_))); (case side2 => exact (Kd.N_reads' HO113.out).2.1); rintro e w' ⟨rfl, ⟨nd, rfl⟩⟩))
         go_roundg k1
         case measure => have := HK1.out; omega
         case rel => exact ⟨(y106), (wrap64 (x4_1 + 1)), (rs_), H', ⟨by have := HK1.out; omega⟩, ⟨by (with_reducible repeat (first | apply Kd.V_alloc | apply Kd.V_drewN | apply Kd.V_drew)); exact Kd.V_mono HO_0.out (fun _ hk => ⟨hk.1.1, hk.1.2⟩)⟩, ⟨by (with_reducible repeat (first | apply Kd.N_alloc | apply Kd.N_drewN | apply Kd.N_drew)); exact Kd.N_mono HO108.out (fun _ hk => hk.1)⟩, ⟨bl_⟩⟩
      ·rw [if_neg c5] at H
       exact absurd H (by simp)
     ·rw [if_neg c4] at H
      exact absurd H (by simp)
    ·rw [if_neg c3] at H
     have c3b0 : decide (x4_1 < (l0.length : Int)) = false := decide_eq_false c3; clear c3; replace H := Option.bind_eq_some_iff.mp H; obtain ⟨t115, A180, H⟩ := H; replace H : (some t115) = some r := H; have A18 := am_ A180; clear A180; obtain rfl := Option.some.inj H; obtain ⟨Ao19, co19, eo19⟩ := Kd.N_slice HO_3.out; subst eo19
     go_wp2_with (first | ((with_reducible refine gate_callee (f := 11) rfl ?_); refine goesL_ (some 39) rfl rfl Tryd.func11 (by kernel_rfl) rfl #[.slice Ao19 x3_1.length co19] rfl (by (try simp only [List.map_toArray, List.map_cons, List.map_nil]); first | done | rfl | (simp only [List.length_drop, List.length_take]; rfl)) ?_; (with_reducible refine (r04_Much.calls k1 _ _ x3_1 t115 _ ?side1 ?side2 A18.out).mono ?_); (case side1 => repeat (first | exact (Kd.N_reads' HO_3.out).2.2 | (with_reducible refine Kd.C_alloc ?_ _) | (with_reducible refine Kd.C_drewN ?_ _) | (with_reducible refine Kd.C_drew ?_))); (case side2 => exact (Kd.N_reads' HO_3.out).2.1); rintro e w' ⟨rfl, ⟨nd, rfl⟩⟩; refine ⟨_, rfl, ?_⟩))
     go_ret
     exact ⟨ew_, bl_⟩
def r01_Same.f (a0_0 : Int) (a0_1 : Int) (a0_2 : ByteArray) (a1_0 : Int) (a1_1 : Int) (a1_2 : ByteArray) : Option (Bool) := if a0_0 = a1_0 then (if a0_1 = a1_1 then (some (a0_2.toList == a1_2.toList)) else (some false)) else (some false)
theorem r01_Same.calls (a0_0 : Int) (a0_1 : Int) (a0_2 : ByteArray) (a1_0 : Int) (a1_1 : Int) (a1_2 : ByteArray) (r : Bool) (w : World) (h : r01_Same.f a0_0 a0_1 a0_2 a1_0 a1_1 a1_2 = some r) :
  Calls Tryd.prog 67 #[.agg #[.int .i64 a0_0, .int .i64 a0_1, .string a0_2], .agg #[.int .i64 a1_0, .int .i64 a1_1, .string a1_2]] w fun e w' => e = .returned (.bool r) ∧ Below w.heap.size w w' := by
 have hu23 := Tryd.underlying23; have HB := am_ (Below.refl w.heap.size w); have H : (if a0_0 = a1_0 then (if a0_1 = a1_1 then (some (a0_2.toList == a1_2.toList)) else (some false)) else (some false)) = some r := h; clear h
 by_cases c3 : a0_0 = a1_0
 ·rw [if_pos c3] at H
  have c3b0 : (a0_0 == a1_0) = true := beq_iff_eq.mpr c3; have c3b1 : (a0_0 != a1_0) = false := bne_eq_false_iff_eq.mpr c3; clear c3
  by_cases c4 : a0_1 = a1_1
  ·rw [if_pos c4] at H
   have c4b0 : (a0_1 == a1_1) = true := beq_iff_eq.mpr c4; have c4b1 : (a0_1 != a1_1) = false := bne_eq_false_iff_eq.mpr c4; clear c4; obtain rfl := Option.some.inj H
   go_enter Tryd.func67, Tryd.ntmps67
   go_wp2_with (first | ((with_reducible refine gate_dst (N := 2) rfl ?_); refine box_event ?hg (N := 2) ?hd (cs := #[.int .i64 a0_0, .int .i64 a0_1, .string a0_2]) (t := 23) ?hr ?_; (case hd => rfl); (case hg => rfl); (case hr => first | (go_simp; done) | (go_simp; rfl)); intro gb120 hg w5 hbox hb; have BK120 := am_ (hbox); have GW120 := am_ ((by rw [hg]; exact (below_size (bl_)) : w.heap.size ≤ gb120)); have GE120 := am_ ((by rw [hg]; exact (below_size (bl_)) : w.heap.size ≤ gb120)); replace HB := am_ (below_step (bl_) hb); clear hb hbox hg) | ((with_reducible refine gate_dst (N := 3) rfl ?_); refine box_event ?hg (N := 3) ?hd (cs := #[.int .i64 a1_0, .int .i64 a1_1, .string a1_2]) (t := 23) ?hr ?_; (case hd => rfl); (case hg => rfl); (case hr => first | (go_simp; done) | (go_simp; rfl)); intro gb121 hg w6 hbox hb; have n0_ := am_ (blk_below (bk_ BK120.out) hb); have n1_ := am_ (below_step (bl_) hb); have n2_ := am_ (hbox); have n3_ := am_ ((by rw [hg]; exact (below_size (bl_)) : w.heap.size ≤ gb121)); have n4_ := am_ ((by rw [hg]; exact (below_size (bl_)) : w.heap.size ≤ gb121)); have n5_ := am_ ((by rw [hg]; exact Nat.ne_of_lt (blk_lt (g := gb120) (o := .cells #[.int .i64 a0_0, .int .i64 a0_1, .string a0_2] 23 (0, 0)) (bk_ BK120.out)) : gb120 ≠ gb121)); have n6_ := am_ ((by rw [hg]; exact Nat.ne_of_gt (blk_lt (g := gb120) (o := .cells #[.int .i64 a0_0, .int .i64 a0_1, .string a0_2] 23 (0, 0)) (bk_ BK120.out)) : gb121 ≠ gb120)); clear BK120; clear HB; have BK120 := n0_; have HB := n1_; have BK121 := n2_; have GW121 := n3_; have GE121 := n4_; have NB120_121 := n5_; have NB121_120 := n6_; clear n0_ n1_ n2_ n3_ n4_ n5_ n6_; clear hb hbox hg; have hnb7 := NB120_121.out; have hnc7 := NB121_120.out; obtain ⟨hcz8_0, hcz8_1, hcz8_2, hfz8_0, hfz8_1, hfz8_2⟩ := bw3_ BK120.out; obtain ⟨hcz9_0, hcz9_1, hcz9_2, hfz9_0, hfz9_1, hfz9_2⟩ := bw3_ BK121.out))
   go_ret
   exact ⟨ew_, bl_⟩
  ·rw [if_neg c4] at H
   have c4b0 : (a0_1 == a1_1) = false := beq_eq_false_iff_ne.mpr c4; have c4b1 : (a0_1 != a1_1) = true := bne_iff_ne.mpr c4; obtain rfl := Option.some.inj H
   go_enter Tryd.func67, Tryd.ntmps67
   go_wp2_with (first | ((with_reducible refine gate_dst (N := 2) rfl ?_); refine box_event ?hg (N := 2) ?hd (cs := #[.int .i64 a0_0, .int .i64 a0_1, .string a0_2]) (t := 23) ?hr ?_; (case hd => rfl); (case hg => rfl); (case hr => first | (go_simp; done) | (go_simp; rfl)); intro gb120 hg w10 hbox hb; have BK120 := am_ (hbox); have GW120 := am_ ((by rw [hg]; exact (below_size (bl_)) : w.heap.size ≤ gb120)); have GE120 := am_ ((by rw [hg]; exact (below_size (bl_)) : w.heap.size ≤ gb120)); replace HB := am_ (below_step (bl_) hb); clear hb hbox hg) | ((with_reducible refine gate_dst (N := 3) rfl ?_); refine box_event ?hg (N := 3) ?hd (cs := #[.int .i64 a1_0, .int .i64 a1_1, .string a1_2]) (t := 23) ?hr ?_; (case hd => rfl); (case hg => rfl); (case hr => first | (go_simp; done) | (go_simp; rfl)); intro gb121 hg w11 hbox hb; have n0_ := am_ (blk_below (bk_ BK120.out) hb); have n1_ := am_ (below_step (bl_) hb); have n2_ := am_ (hbox); have n3_ := am_ ((by rw [hg]; exact (below_size (bl_)) : w.heap.size ≤ gb121)); have n4_ := am_ ((by rw [hg]; exact (below_size (bl_)) : w.heap.size ≤ gb121)); have n5_ := am_ ((by rw [hg]; exact Nat.ne_of_lt (blk_lt (g := gb120) (o := .cells #[.int .i64 a0_0, .int .i64 a0_1, .string a0_2] 23 (0, 0)) (bk_ BK120.out)) : gb120 ≠ gb121)); have n6_ := am_ ((by rw [hg]; exact Nat.ne_of_gt (blk_lt (g := gb120) (o := .cells #[.int .i64 a0_0, .int .i64 a0_1, .string a0_2] 23 (0, 0)) (bk_ BK120.out)) : gb121 ≠ gb120)); clear BK120; clear HB; have BK120 := n0_; have HB := n1_; have BK121 := n2_; have GW121 := n3_; have GE121 := n4_; have NB120_121 := n5_; have NB121_120 := n6_; clear n0_ n1_ n2_ n3_ n4_ n5_ n6_; clear hb hbox hg; have hnb12 := NB120_121.out; have hnc12 := NB121_120.out; obtain ⟨hcz13_0, hcz13_1, hcz13_2, hfz13_0, hfz13_1, hfz13_2⟩ := bw3_ BK120.out; obtain ⟨hcz14_0, hcz14_1, hcz14_2, hfz14_0, hfz14_1, hfz14_2⟩ := bw3_ BK121.out))
   go_ret
   exact ⟨ew_, bl_⟩
 ·rw [if_neg c3] at H
  have c3b0 : (a0_0 == a1_0) = false := beq_eq_false_iff_ne.mpr c3; have c3b1 : (a0_0 != a1_0) = true := bne_iff_ne.mpr c3; obtain rfl := Option.some.inj H
  go_enter Tryd.func67, Tryd.ntmps67
  go_wp2_with (first | ((with_reducible refine gate_dst (N := 2) rfl ?_); refine box_event ?hg (N := 2) ?hd (cs := #[.int .i64 a0_0, .int .i64 a0_1, .string a0_2]) (t := 23) ?hr ?_; (case hd => rfl); (case hg => rfl); (case hr => first | (go_simp; done) | (go_simp; rfl)); intro gb120 hg w15 hbox hb; have BK120 := am_ (hbox); have GW120 := am_ ((by rw [hg]; exact (below_size (bl_)) : w.heap.size ≤ gb120)); have GE120 := am_ ((by rw [hg]; exact (below_size (bl_)) : w.heap.size ≤ gb120)); replace HB := am_ (below_step (bl_) hb); clear hb hbox hg) | ((with_reducible refine gate_dst (N := 3) rfl ?_); refine box_event ?hg (N := 3) ?hd (cs := #[.int .i64 a1_0, .int .i64 a1_1, .string a1_2]) (t := 23) ?hr ?_; (case hd => rfl); (case hg => rfl); (case hr => first | (go_simp; done) | (go_simp; rfl)); intro gb121 hg w16 hbox hb; have n0_ := am_ (blk_below (bk_ BK120.out) hb); have n1_ := am_ (below_step (bl_) hb); have n2_ := am_ (hbox); have n3_ := am_ ((by rw [hg]; exact (below_size (bl_)) : w.heap.size ≤ gb121)); have n4_ := am_ ((by rw [hg]; exact (below_size (bl_)) : w.heap.size ≤ gb121)); have n5_ := am_ ((by rw [hg]; exact Nat.ne_of_lt (blk_lt (g := gb120) (o := .cells #[.int .i64 a0_0, .int .i64 a0_1, .string a0_2] 23 (0, 0)) (bk_ BK120.out)) : gb120 ≠ gb121)); have n6_ := am_ ((by rw [hg]; exact Nat.ne_of_gt (blk_lt (g := gb120) (o := .cells #[.int .i64 a0_0, .int .i64 a0_1, .string a0_2] 23 (0, 0)) (bk_ BK120.out)) : gb121 ≠ gb120)); clear BK120; clear HB; have BK120 := n0_; have HB := n1_; have BK121 := n2_; have GW121 := n3_; have GE121 := n4_; have NB120_121 := n5_; have NB121_120 := n6_; clear n0_ n1_ n2_ n3_ n4_ n5_ n6_; clear hb hbox hg; have hnb17 := NB120_121.out; have hnc17 := NB121_120.out; obtain ⟨hcz18_0, hcz18_1, hcz18_2, hfz18_0, hfz18_1, hfz18_2⟩ := bw3_ BK120.out; obtain ⟨hcz19_0, hcz19_1, hcz19_2, hfz19_0, hfz19_1, hfz19_2⟩ := bw3_ BK121.out))
  go_ret
  exact ⟨ew_, bl_⟩
end Go.Proofs.YtcfgjaggccnoaaaDoor.PTableSteps
namespace Go.Proofs.YtcfgjaggccnoaaaDoor.PTableSteps
open Go.RowKit Go.Proofs.YtcfgjaggccnoaaaDoorW.PrintWords Go.Proofs.YtcfgjaggccnoaaaDoorW.PrintLast Go.Proofs.YtcfgjaggccnoaaaDoorW.PrintMore
attribute [local go_sem] max2_int min2_int max_two min_two max_three min_three max_four min_four
set_option linter.unusedVariables false
set_option maxHeartbeats 8000000
set_option linter.unusedSimpArgs false
set_option maxRecDepth 100000
def r04_Same.l0 : Nat → List (S23) → List (S23) → Int → Option (Bool)
 | 0, _, _, _ => none
 | k + 1, x0, x1, x5 => if x5 < (x0.length : Int) then (if 0 ≤ x5 then (if x5 < (x1.length : Int) then ((r01_Same.f ((rd_T23 x0 x5).f0) ((rd_T23 x0 x5).f1) ((rd_T23 x0 x5).f2) ((rd_T23 x1 x5).f0) ((rd_T23 x1 x5).f1) ((rd_T23 x1 x5).f2)).bind fun t124 => (if t124 = true then (r04_Same.l0 k x0 x1 (wrap64 (x5 + 1))) else (some false))) else (none)) else (none)) else (some true)
def r04_Same.f (k : Nat) (l0 : List (S23)) (l1 : List (S23)) : Option (Bool) := if (l0.length : Int) = (l1.length : Int) then (r04_Same.l0 k l0 l1 0) else (some false)
theorem r04_Same.mono_l : ∀ k, (∀ y0 y1 y2, LeO (r04_Same.l0 k y0 y1 y2) (r04_Same.l0 (k + 1) y0 y1 y2))
 | 0 => fun _ _ _ r h => by simp [r04_Same.l0] at h
 | k + 1 => by
  have ih0 := r04_Same.mono_l k
  ·intro y0 y1 y2
   unfold r04_Same.l0
   repeat' first
   | (with_reducible exact ih0 _ _ _)
   | (with_reducible exact LeO.refl _)
   | (with_reducible exact LeO.none _)
   | (with_reducible refine LeO.ite ?_ ?_)
   | (with_reducible refine LeO.bind ?_ (fun _ => ?_))
   | exact ih0 _ _ _
   | exact LeO.none _
   | refine LeO.ite ?_ ?_
   | refine LeO.bind ?_ (fun _ => ?_)
theorem r04_Same.mono : ∀ a0 a1 k, LeO (r04_Same.f k a0 a1) (r04_Same.f (k + 1) a0 a1) := by
 intro a0 a1 k; have ih0 := r04_Same.mono_l k; unfold r04_Same.f
 repeat' first
   | (with_reducible exact ih0 _ _ _)
   | (with_reducible exact LeO.refl _)
   | (with_reducible exact LeO.none _)
   | (with_reducible refine LeO.ite ?_ ?_)
   | (with_reducible refine LeO.bind ?_ (fun _ => ?_))
   | exact ih0 _ _ _
   | exact LeO.none _
   | refine LeO.ite ?_ ?_
   | refine LeO.bind ?_ (fun _ => ?_)
def r04_Same.T6 : Bool × List (List Nat × List Nat) := (true, [([], []), ([], []), ([0, 1], [0, 1]), ([2], [2]), ([], []), ([], []), ([4, 5], [4, 5]), ([6], [6]), ([3, 7], [3, 7]), ([8], [8])])
def r04_Same.B6 : List Nat := [0, 0, 3, 7, 0, 0, 48, 112, 255, 511]
theorem r04_Same.tab6 : rtab .any (opsOf Tryd.f26 6) = r04_Same.T6 := by kernel_rfl
theorem r04_Same.bits6 : waitsOk r04_Same.T6.2 r04_Same.B6 = true := by kernel_rfl
theorem r04_Same.calls (k : Nat) (A0 : Option Addr) (c0 : Nat) (l0 : List (S23)) (A1 : Option Addr) (c1 : Nat) (l1 : List (S23)) (r : Bool) (w : World) (hr0 : Kd.C k23 w A0 l0.length l0) (hc0 : l0.length ≤ c0) (hr1 : Kd.C k23 w A1 l1.length l1) (hc1 : l1.length ≤ c1) (h : r04_Same.f k l0 l1 = some r) :
  Calls Tryd.prog 26 #[.slice A0 l0.length c0, .slice A1 l1.length c1] w fun e w' => e = .returned (.bool r) ∧ Below w.heap.size w w' := by
 have hu23 := Tryd.underlying23; have HR0 := am_ hr0; have HC0 := am_ hc0; clear hr0 hc0; have HR1 := am_ hr1; have HC1 := am_ hc1; clear hr1 hc1; have HB := am_ (Below.refl w.heap.size w); have H : (if (l0.length : Int) = (l1.length : Int) then (r04_Same.l0 k l0 l1 0) else (some false)) = some r := h; clear h
 by_cases c3 : (l0.length : Int) = (l1.length : Int)
 ·rw [if_pos c3] at H
  have c3b0 : ((l0.length : Int) == (l1.length : Int)) = true := beq_iff_eq.mpr c3; have c3b1 : ((l0.length : Int) != (l1.length : Int)) = false := bne_eq_false_iff_eq.mpr c3
  have c3b2 : (l0.length == l1.length) = true := by first | simpa using c3 | (simp at c3 ⊢; omega)
  clear c3; have H' := am_ H; clear H
  go_enter Tryd.func26, Tryd.ntmps26
  go_wp2
  go_loopg [5] k (fun kq v5 w' => ∃ (x5_1 : Int), v5 = .int .i64 x5_1 ∧ Aside0 (r04_Same.l0 kq l0 l1 x5_1 = some r) ∧ Aside0 (kq ≤ k) ∧ Aside0 (Below w.heap.size w w'))
  case atStart => exact ⟨(0), (rs_), H', ⟨Nat.le_refl _⟩, ⟨bl_⟩⟩
  case round =>
   clear H'; (try clear c1); (try clear c2); (try clear p2); (try clear c3); (try clear c3b0); (try clear c3b1); (try clear c3b2); obtain ⟨x5_1, rfl, HA, HK1, HB⟩ := hrel
   cases gk with
   | zero => exact absurd HA.out (by simp [r04_Same.l0])
   | succ k1 =>
    have H := HA.out; clear HA; simp only [r04_Same.l0] at H
    by_cases c4 : x5_1 < (l0.length : Int)
    ·rw [if_pos c4] at H
     have c4b0 : decide (x5_1 < (l0.length : Int)) = true := decide_eq_true c4; clear c4
     by_cases c5 : 0 ≤ x5_1
     ·rw [if_pos c5] at H
      have c5b0 : decide (0 ≤ x5_1) = true := decide_eq_true c5; clear c5
      by_cases c6 : x5_1 < (l1.length : Int)
      ·rw [if_pos c6] at H
       have c6b0 : decide (x5_1 < (l1.length : Int)) = true := decide_eq_true c6; clear c6; replace H := Option.bind_eq_some_iff.mp H; obtain ⟨t124, A70, H⟩ := H; replace H : (if t124 = true then (r04_Same.l0 k1 l0 l1 (wrap64 (x5_1 + 1))) else (some false)) = some r := H; have A7 := am_ A70; clear A70
       by_cases c8 : t124 = true
       ·subst c8
        have H1 : (r04_Same.l0 k1 l0 l1 (wrap64 (x5_1 + 1))) = some r := by rw [if_pos rfl] at H; exact H
        clear H; have H := H1; clear H1; have H' := am_ H; clear H
        try go_wp2
        have n0_ := am_ (below_drew1 HB.out); clear HB; have HB := n0_; clear n0_; have p122 : 0 ≤ (x5_1 : Int) := of_decide_eq_true (as_); have q122 : x5_1 < (l0.length : Int) := of_decide_eq_true (as_); obtain ⟨ad122, e122, hx122_0, hx122_1, hx122_2⟩ := at_T23 HR0.out x5_1 p122 q122; have hw122_2 := hx122_2; have hw122_1 := hx122_1; have hw122_0 := hx122_0; cases e122; replace hx122_0 := (HB.out.cell (World.block_lt_of_cell? w _ hx122_0)).trans hx122_0; replace hx122_1 := (HB.out.cell (World.block_lt_of_cell? w _ hx122_1)).trans hx122_1; replace hx122_2 := (HB.out.cell (World.block_lt_of_cell? w _ hx122_2)).trans hx122_2; replace p122 := eq_true p122; replace q122 := eq_true q122; have p123 : 0 ≤ (x5_1 : Int) := of_decide_eq_true (as_); have q123 : x5_1 < (l1.length : Int) := of_decide_eq_true (as_); obtain ⟨ad123, e123, hx123_0, hx123_1, hx123_2⟩ := at_T23 HR1.out x5_1 p123 q123; have hw123_2 := hx123_2; have hw123_1 := hx123_1; have hw123_0 := hx123_0; cases e123; replace hx123_0 := (HB.out.cell (World.block_lt_of_cell? w _ hx123_0)).trans hx123_0; replace hx123_1 := (HB.out.cell (World.block_lt_of_cell? w _ hx123_1)).trans hx123_1; replace hx123_2 := (HB.out.cell (World.block_lt_of_cell? w _ hx123_2)).trans hx123_2; replace p123 := eq_true p123; replace q123 := eq_true q123
        refine start_ (n := 10) (S := fun w' => w'.cell? (ad122.add ((x5_1).toNat * 3)) = some (.int .i64 ((rd_T23 l0 x5_1).f0)) ∧ w'.cell? ⟨(ad122.add ((x5_1).toNat * 3)).block, (ad122.add ((x5_1).toNat * 3)).off + 1, none⟩ = some (.int .i64 ((rd_T23 l0 x5_1).f1)) ∧ w'.cell? ⟨(ad122.add ((x5_1).toNat * 3)).block, (ad122.add ((x5_1).toNat * 3)).off + 2, none⟩ = some (.string ((rd_T23 l0 x5_1).f2)) ∧ w'.cell? (ad123.add ((x5_1).toNat * 3)) = some (.int .i64 ((rd_T23 l1 x5_1).f0)) ∧ w'.cell? ⟨(ad123.add ((x5_1).toNat * 3)).block, (ad123.add ((x5_1).toNat * 3)).off + 1, none⟩ = some (.int .i64 ((rd_T23 l1 x5_1).f1)) ∧ w'.cell? ⟨(ad123.add ((x5_1).toNat * 3)).block, (ad123.add ((x5_1).toNat * 3)).off + 2, none⟩ = some (.string ((rd_T23 l1 x5_1).f2))) (ds := []) #[false, false, false, false, false, false, false, false, false, false] (by kernel_rfl) rfl rfl ⟨((HB.out.cell (World.block_lt_of_cell? w _ hw122_0)).trans hw122_0), ((HB.out.cell (World.block_lt_of_cell? w _ hw122_1)).trans hw122_1), ((HB.out.cell (World.block_lt_of_cell? w _ hw122_2)).trans hw122_2), ((HB.out.cell (World.block_lt_of_cell? w _ hw123_0)).trans hw123_0), ((HB.out.cell (World.block_lt_of_cell? w _ hw123_1)).trans hw123_1), ((HB.out.cell (World.block_lt_of_cell? w _ hw123_2)).trans hw123_2)⟩ (fun hHeld => ?_); refine with_tabW r04_Same.tab6 r04_Same.bits6 (fun HT_ HW_ => ?_)
        generalize wr.drew = w9 at HB hx122_0 hx122_1 hx122_2 hx123_0 hx123_1 hx123_2 hHeld ⊢
        refine pure_ (i := 0) (N := some 17) (v := ?_) (a' := ?_) #[true, false, false, false, false, false, false, false, false, false] rfl rfl (any_of HT_.out (by kernel_rfl)) (fun _ _ _ h => h) (Or.inl ⟨by rfl, ?_⟩) ?_ ?_; rotate_left
        ·intro w'
         go_simp; (with_reducible rfl)
        rotate_left
        ·simp only [Act.put, sa_, sz_, ss_, i64_w, i32_w]
         rfl
        refine pure_ (i := 1) (N := some 18) (v := ?_) (a' := ?_) #[true, true, false, false, false, false, false, false, false, false] rfl rfl (any_of HT_.out (by kernel_rfl)) (fun _ _ _ h => h) (Or.inl ⟨by rfl, ?_⟩) ?_ ?_; rotate_left
        ·intro w'
         go_simp; (with_reducible rfl)
        rotate_left
        ·simp only [Act.put, sa_, sz_, ss_, i64_w, i32_w]
         rfl
        refine pure_ (i := 2) (N := some 19) (v := ?_) (a' := ?_) #[true, true, true, false, false, false, false, false, false, false] rfl rfl (any_of HT_.out (by kernel_rfl)) (fun _ _ _ h => h) (Or.inl ⟨by rfl, ?_⟩) ?_ ?_; rotate_left
        ·intro w'
         go_simp; (with_reducible rfl)
        rotate_left
        ·simp only [Act.put, sa_, sz_, ss_, i64_w, i32_w]
         rfl
        refine pure_ (i := 4) (N := some 21) (v := ?_) (a' := ?_) #[true, true, true, false, true, false, false, false, false, false] rfl rfl (any_of HT_.out (by kernel_rfl)) (fun _ _ _ h => h) (Or.inl ⟨by rfl, ?_⟩) ?_ ?_; rotate_left
        ·intro w'
         go_simp; (with_reducible rfl)
        rotate_left
        ·simp only [Act.put, sa_, sz_, ss_, i64_w, i32_w]
         rfl
        refine pure_ (i := 5) (N := some 22) (v := ?_) (a' := ?_) #[true, true, true, false, true, true, false, false, false, false] rfl rfl (any_of HT_.out (by kernel_rfl)) (fun _ _ _ h => h) (Or.inl ⟨by rfl, ?_⟩) ?_ ?_; rotate_left
        ·intro w'
         go_simp; (with_reducible rfl)
        rotate_left
        ·simp only [Act.put, sa_, sz_, ss_, i64_w, i32_w]
         rfl
        refine pure_ (i := 6) (N := some 23) (v := ?_) (a' := ?_) #[true, true, true, false, true, true, true, false, false, false] rfl rfl (any_of HT_.out (by kernel_rfl)) (fun _ _ _ h => h) (Or.inl ⟨by rfl, ?_⟩) ?_ ?_; rotate_left
        ·intro w'
         go_simp; (with_reducible rfl)
        rotate_left
        ·simp only [Act.put, sa_, sz_, ss_, i64_w, i32_w]
         rfl
        refine take_ (i := 3) (N := some 20) (v := ?_) (a' := ?_) #[true, true, true, true, true, true, true, false, false, false] rfl rfl (take_ofW HT_.out HW_.out (by kernel_rfl)) (fun _ _ _ h => h) (Or.inl ⟨by rfl, ?_⟩) hHeld ?_ ?_; rotate_left
        ·rintro w' ⟨s0, s1, s2, s3, s4, s5⟩
         go_simp; (with_reducible rfl)
        rotate_left
        ·simp only [Act.put, sa_, sz_, ss_, i64_w, i32_w]
         rfl
        refine take_ (i := 7) (N := some 24) (v := ?_) (a' := ?_) #[true, true, true, true, true, true, true, true, false, false] rfl rfl (take_ofW HT_.out HW_.out (by kernel_rfl)) (fun _ _ _ h => h) (Or.inl ⟨by rfl, ?_⟩) hHeld ?_ ?_; rotate_left
        ·rintro w' ⟨s0, s1, s2, s3, s4, s5⟩
         go_simp; (with_reducible rfl)
        rotate_left
        ·simp only [Act.put, sa_, sz_, ss_, i64_w, i32_w]
         rfl
        refine one_ (i := 8) (N := some 25) #[true, true, true, true, true, true, true, true, true, false] rfl rfl (one_of HT_.out (by kernel_rfl)) (by decide) (fun K hK => ?_); refine goes_ Tryd.func67 (by kernel_rfl) rfl #[.agg #[.int .i64 ((rd_T23 l0 x5_1).f0), .int .i64 ((rd_T23 l0 x5_1).f1), .string ((rd_T23 l0 x5_1).f2)], .agg #[.int .i64 ((rd_T23 l1 x5_1).f0), .int .i64 ((rd_T23 l1 x5_1).f1), .string ((rd_T23 l1 x5_1).f2)]] (by rfl) rfl rfl (by (try simp only [List.map_toArray, List.map_cons, List.map_nil]); first | done | rfl | (simp only [List.length_drop, List.length_take]; rfl)) ?_; (with_reducible refine (r01_Same.calls ((rd_T23 l0 x5_1).f0) ((rd_T23 l0 x5_1).f1) ((rd_T23 l0 x5_1).f2) ((rd_T23 l1 x5_1).f0) ((rd_T23 l1 x5_1).f1) ((rd_T23 l1 x5_1).f2) true _ A7.out).mono ?_); rintro e w10 ⟨rfl, hb⟩; refine ⟨_, rfl, ?_⟩; have n0_ := am_ (below_step (bl_) hb); clear HB; have HB := n0_; clear n0_; (try clear hb); (try clear hb2); (try clear hk); (try clear hi); refine hK.out _ _ ⟨((HB.out.cell (World.block_lt_of_cell? w _ hw122_0)).trans hw122_0), ((HB.out.cell (World.block_lt_of_cell? w _ hw122_1)).trans hw122_1), ((HB.out.cell (World.block_lt_of_cell? w _ hw122_2)).trans hw122_2), ((HB.out.cell (World.block_lt_of_cell? w _ hw123_0)).trans hw123_0), ((HB.out.cell (World.block_lt_of_cell? w _ hw123_1)).trans hw123_1), ((HB.out.cell (World.block_lt_of_cell? w _ hw123_2)).trans hw123_2)⟩ (fun hHeld => ?_); clear hK K; refine norm_ (a' := ?_) ?_ ?_; rotate_left
        ·show Act.put _ (some 25) _ = _
         simp only [Act.put, sa_, sz_, ss_, i64_w, i32_w]; rfl
        refine pure_ (i := 9) (N := some 26) (v := ?_) (a' := ?_) #[true, true, true, true, true, true, true, true, true, true] rfl rfl (any_of HT_.out (by kernel_rfl)) (fun _ _ _ h => h) (Or.inl ⟨by rfl, ?_⟩) ?_ ?_; rotate_left
        ·intro w'
         go_simp; (with_reducible rfl)
        rotate_left
        ·simp only [Act.put, sa_, sz_, ss_, i64_w, i32_w]
         rfl
        refine done_ (done_of HT_.out (by kernel_rfl)) ?_
        try go_wp2
        go_roundg k1
        case measure => have := HK1.out; omega
        case rel => exact ⟨(wrap64 (x5_1 + 1)), (rs_), H', ⟨by have := HK1.out; omega⟩, ⟨bl_⟩⟩
       ·replace c8 := Bool.eq_false_iff.mpr c8
        subst c8
        have H1 : (some false) = some r := by rw [if_neg (show ¬ (false = true) by decide)] at H; exact H
        clear H; have H := H1; clear H1; obtain rfl := Option.some.inj H
        try go_wp2
        have n0_ := am_ (below_drew1 HB.out); clear HB; have HB := n0_; clear n0_; have p122 : 0 ≤ (x5_1 : Int) := of_decide_eq_true (as_); have q122 : x5_1 < (l0.length : Int) := of_decide_eq_true (as_); obtain ⟨ad122, e122, hx122_0, hx122_1, hx122_2⟩ := at_T23 HR0.out x5_1 p122 q122; have hw122_2 := hx122_2; have hw122_1 := hx122_1; have hw122_0 := hx122_0; cases e122; replace hx122_0 := (HB.out.cell (World.block_lt_of_cell? w _ hx122_0)).trans hx122_0; replace hx122_1 := (HB.out.cell (World.block_lt_of_cell? w _ hx122_1)).trans hx122_1; replace hx122_2 := (HB.out.cell (World.block_lt_of_cell? w _ hx122_2)).trans hx122_2; replace p122 := eq_true p122; replace q122 := eq_true q122; have p123 : 0 ≤ (x5_1 : Int) := of_decide_eq_true (as_); have q123 : x5_1 < (l1.length : Int) := of_decide_eq_true (as_); obtain ⟨ad123, e123, hx123_0, hx123_1, hx123_2⟩ := at_T23 HR1.out x5_1 p123 q123; have hw123_2 := hx123_2; have hw123_1 := hx123_1; have hw123_0 := hx123_0; cases e123; replace hx123_0 := (HB.out.cell (World.block_lt_of_cell? w _ hx123_0)).trans hx123_0; replace hx123_1 := (HB.out.cell (World.block_lt_of_cell? w _ hx123_1)).trans hx123_1; replace hx123_2 := (HB.out.cell (World.block_lt_of_cell? w _ hx123_2)).trans hx123_2; replace p123 := eq_true p123; replace q123 := eq_true q123
        refine start_ (n := 10) (S := fun w' => w'.cell? (ad122.add ((x5_1).toNat * 3)) = some (.int .i64 ((rd_T23 l0 x5_1).f0)) ∧ w'.cell? ⟨(ad122.add ((x5_1).toNat * 3)).block, (ad122.add ((x5_1).toNat * 3)).off + 1, none⟩ = some (.int .i64 ((rd_T23 l0 x5_1).f1)) ∧ w'.cell? ⟨(ad122.add ((x5_1).toNat * 3)).block, (ad122.add ((x5_1).toNat * 3)).off + 2, none⟩ = some (.string ((rd_T23 l0 x5_1).f2)) ∧ w'.cell? (ad123.add ((x5_1).toNat * 3)) = some (.int .i64 ((rd_T23 l1 x5_1).f0)) ∧ w'.cell? ⟨(ad123.add ((x5_1).toNat * 3)).block, (ad123.add ((x5_1).toNat * 3)).off + 1, none⟩ = some (.int .i64 ((rd_T23 l1 x5_1).f1)) ∧ w'.cell? ⟨(ad123.add ((x5_1).toNat * 3)).block, (ad123.add ((x5_1).toNat * 3)).off + 2, none⟩ = some (.string ((rd_T23 l1 x5_1).f2))) (ds := []) #[false, false, false, false, false, false, false, false, false, false] (by kernel_rfl) rfl rfl ⟨((HB.out.cell (World.block_lt_of_cell? w _ hw122_0)).trans hw122_0), ((HB.out.cell (World.block_lt_of_cell? w _ hw122_1)).trans hw122_1), ((HB.out.cell (World.block_lt_of_cell? w _ hw122_2)).trans hw122_2), ((HB.out.cell (World.block_lt_of_cell? w _ hw123_0)).trans hw123_0), ((HB.out.cell (World.block_lt_of_cell? w _ hw123_1)).trans hw123_1), ((HB.out.cell (World.block_lt_of_cell? w _ hw123_2)).trans hw123_2)⟩ (fun hHeld => ?_); refine with_tabW r04_Same.tab6 r04_Same.bits6 (fun HT_ HW_ => ?_)
        generalize wr.drew = w11 at HB hx122_0 hx122_1 hx122_2 hx123_0 hx123_1 hx123_2 hHeld ⊢
        refine pure_ (i := 0) (N := some 17) (v := ?_) (a' := ?_) #[true, false, false, false, false, false, false, false, false, false] rfl rfl (any_of HT_.out (by kernel_rfl)) (fun _ _ _ h => h) (Or.inl ⟨by rfl, ?_⟩) ?_ ?_; rotate_left
        ·intro w'
         go_simp; (with_reducible rfl)
        rotate_left
        ·simp only [Act.put, sa_, sz_, ss_, i64_w, i32_w]
         rfl
        refine pure_ (i := 1) (N := some 18) (v := ?_) (a' := ?_) #[true, true, false, false, false, false, false, false, false, false] rfl rfl (any_of HT_.out (by kernel_rfl)) (fun _ _ _ h => h) (Or.inl ⟨by rfl, ?_⟩) ?_ ?_; rotate_left
        ·intro w'
         go_simp; (with_reducible rfl)
        rotate_left
        ·simp only [Act.put, sa_, sz_, ss_, i64_w, i32_w]
         rfl
        refine pure_ (i := 2) (N := some 19) (v := ?_) (a' := ?_) #[true, true, true, false, false, false, false, false, false, false] rfl rfl (any_of HT_.out (by kernel_rfl)) (fun _ _ _ h => h) (Or.inl ⟨by rfl, ?_⟩) ?_ ?_; rotate_left
        ·intro w'
         go_simp; (with_reducible rfl)
        rotate_left
        ·simp only [Act.put, sa_, sz_, ss_, i64_w, i32_w]
         rfl
        refine pure_ (i := 4) (N := some 21) (v := ?_) (a' := ?_) #[true, true, true, false, true, false, false, false, false, false] rfl rfl (any_of HT_.out (by kernel_rfl)) (fun _ _ _ h => h) (Or.inl ⟨by rfl, ?_⟩) ?_ ?_; rotate_left
        ·intro w'
         go_simp; (with_reducible rfl)
        rotate_left
        ·simp only [Act.put, sa_, sz_, ss_, i64_w, i32_w]
         rfl
        refine pure_ (i := 5) (N := some 22) (v := ?_) (a' := ?_) #[true, true, true, false, true, true, false, false, false, false] rfl rfl (any_of HT_.out (by kernel_rfl)) (fun _ _ _ h => h) (Or.inl ⟨by rfl, ?_⟩) ?_ ?_; rotate_left
        ·intro w'
         go_simp; (with_reducible rfl)
        rotate_left
        ·simp only [Act.put, sa_, sz_, ss_, i64_w, i32_w]
         rfl
        refine pure_ (i := 6) (N := some 23) (v := ?_) (a' := ?_) #[true, true, true, false, true, true, true, false, false, false] rfl rfl (any_of HT_.out (by kernel_rfl)) (fun _ _ _ h => h) (Or.inl ⟨by rfl, ?_⟩) ?_ ?_; rotate_left
        ·intro w'
         go_simp; (with_reducible rfl)
        rotate_left
        ·simp only [Act.put, sa_, sz_, ss_, i64_w, i32_w]
         rfl
        refine take_ (i := 3) (N := some 20) (v := ?_) (a' := ?_) #[true, true, true, true, true, true, true, false, false, false] rfl rfl (take_ofW HT_.out HW_.out (by kernel_rfl)) (fun _ _ _ h => h) (Or.inl ⟨by rfl, ?_⟩) hHeld ?_ ?_; rotate_left
        ·rintro w' ⟨s0, s1, s2, s3, s4, s5⟩
         go_simp; (with_reducible rfl)
        rotate_left
        ·simp only [Act.put, sa_, sz_, ss_, i64_w, i32_w]
         rfl
        refine take_ (i := 7) (N := some 24) (v := ?_) (a' := ?_) #[true, true, true, true, true, true, true, true, false, false] rfl rfl (take_ofW HT_.out HW_.out (by kernel_rfl)) (fun _ _ _ h => h) (Or.inl ⟨by rfl, ?_⟩) hHeld ?_ ?_; rotate_left
        ·rintro w' ⟨s0, s1, s2, s3, s4, s5⟩
         go_simp; (with_reducible rfl)
        rotate_left
        ·simp only [Act.put, sa_, sz_, ss_, i64_w, i32_w]
         rfl
        refine one_ (i := 8) (N := some 25) #[true, true, true, true, true, true, true, true, true, false] rfl rfl (one_of HT_.out (by kernel_rfl)) (by decide) (fun K hK => ?_); refine goes_ Tryd.func67 (by kernel_rfl) rfl #[.agg #[.int .i64 ((rd_T23 l0 x5_1).f0), .int .i64 ((rd_T23 l0 x5_1).f1), .string ((rd_T23 l0 x5_1).f2)], .agg #[.int .i64 ((rd_T23 l1 x5_1).f0), .int .i64 ((rd_T23 l1 x5_1).f1), .string ((rd_T23 l1 x5_1).f2)]] (by rfl) rfl rfl (by (try simp only [List.map_toArray, List.map_cons, List.map_nil]); first | done | rfl | (simp only [List.length_drop, List.length_take]; rfl)) ?_; (with_reducible refine (r01_Same.calls ((rd_T23 l0 x5_1).f0) ((rd_T23 l0 x5_1).f1) ((rd_T23 l0 x5_1).f2) ((rd_T23 l1 x5_1).f0) ((rd_T23 l1 x5_1).f1) ((rd_T23 l1 x5_1).f2) false _ A7.out).mono ?_); rintro e w12 ⟨rfl, hb⟩; refine ⟨_, rfl, ?_⟩; have n0_ := am_ (below_step (bl_) hb); clear HB; have HB := n0_; clear n0_; (try clear hb); (try clear hb2); (try clear hk); (try clear hi); refine hK.out _ _ ⟨((HB.out.cell (World.block_lt_of_cell? w _ hw122_0)).trans hw122_0), ((HB.out.cell (World.block_lt_of_cell? w _ hw122_1)).trans hw122_1), ((HB.out.cell (World.block_lt_of_cell? w _ hw122_2)).trans hw122_2), ((HB.out.cell (World.block_lt_of_cell? w _ hw123_0)).trans hw123_0), ((HB.out.cell (World.block_lt_of_cell? w _ hw123_1)).trans hw123_1), ((HB.out.cell (World.block_lt_of_cell? w _ hw123_2)).trans hw123_2)⟩ (fun hHeld => ?_); clear hK K; refine norm_ (a' := ?_) ?_ ?_; rotate_left
        ·show Act.put _ (some 25) _ = _
         simp only [Act.put, sa_, sz_, ss_, i64_w, i32_w]; rfl
        refine pure_ (i := 9) (N := some 26) (v := ?_) (a' := ?_) #[true, true, true, true, true, true, true, true, true, true] rfl rfl (any_of HT_.out (by kernel_rfl)) (fun _ _ _ h => h) (Or.inl ⟨by rfl, ?_⟩) ?_ ?_; rotate_left
        ·intro w'
         go_simp; (with_reducible rfl)
        rotate_left
        ·simp only [Act.put, sa_, sz_, ss_, i64_w, i32_w]
         rfl
        refine done_ (done_of HT_.out (by kernel_rfl)) ?_
        try go_wp2
        go_ret
        exact ⟨ew_, bl_⟩
      ·rw [if_neg c6] at H
       exact absurd H (by simp)
     ·rw [if_neg c5] at H
      exact absurd H (by simp)
    ·rw [if_neg c4] at H
     have c4b0 : decide (x5_1 < (l0.length : Int)) = false := decide_eq_false c4; clear c4; obtain rfl := Option.some.inj H
     go_wp2
     go_ret
     exact ⟨ew_, bl_⟩
 ·rw [if_neg c3] at H
  have c3b0 : ((l0.length : Int) == (l1.length : Int)) = false := beq_eq_false_iff_ne.mpr c3; have c3b1 : ((l0.length : Int) != (l1.length : Int)) = true := bne_iff_ne.mpr c3
  have c3b2 : (l0.length == l1.length) = false := by first | simpa using c3 | (simp at c3 ⊢; omega)
  obtain rfl := Option.some.inj H
  go_enter Tryd.func26, Tryd.ntmps26
  go_wp2
  go_ret
  exact ⟨ew_, bl_⟩
def api_Val_76.f (l0 : List (S23)) : Option ((List (S23))) := (some (([] : List (S23)) : List (S23))).bind fun y125 => (if y125.length + l0.length < 4398046511104 then (some (y125 ++ l0)) else (none))
theorem api_Val_76.calls (A0 : Option Addr) (c0 : Nat) (l0 : List (S23)) (r : List (S23)) (w : World) (hr0 : Kd.C k23 w A0 l0.length l0) (hc0 : l0.length ≤ c0) (h : api_Val_76.f l0 = some r) :
  Calls Tryd.prog 76 #[.slice A0 l0.length c0] w fun e w' => ∃ v0_ : Value, e = .returned (v0_) ∧ Kd.R k23 23 w' w.heap.size (fun _ => True) v0_ r ∧ Below w.heap.size w w' := by
 cases A0 with
 | none =>
  obtain rfl : l0 = [] := by
   rcases l0 with _ | ⟨x_, l_⟩
   ·rfl
   ·(first | (obtain ⟨ad_, e_, _⟩ := hr0.2.2 (by simp)) | (obtain ⟨ad_, e_, _⟩ := (Kd.V_reads' hs0).2.2.2.2 (by simp)))
    cases e_
  obtain rfl : r = [] := by
   unfold api_Val_76.f at h
   simpa using h.symm
  have hn_ : ∀ (W_ : World) (n_ c_ : Nat), (binOp .eql 24 (.slice none n_ c_) (.slice none 0 0)).run Tryd.prog W_ = .ok (.bool true) W_ := fun W_ n_ c_ => Lib.run_eql_slice_nil W_ 24 23 none n_ c_ 0 0 Tryd.underlying24
  go_enter Tryd.func76, Tryd.ntmps76
  go_wp2
  go_ret
  exact ⟨_, rfl, by first | exact Kd.R_nil _ _ _ _ _ | exact Kd.S_nil _ _ _ _ _ | exact Kd.N_nil _ _ _ _ _, Below.refl _ _⟩
 | some ad0 =>
 have hn_ : ∀ (W_ : World) (n_ c_ : Nat), (binOp .eql 24 (.slice (some ad0) n_ c_) (.slice none 0 0)).run Tryd.prog W_ = .ok (.bool false) W_ := fun W_ n_ c_ => Lib.run_eql_slice_nil W_ 24 23 (some ad0) n_ c_ 0 0 Tryd.underlying24
 have HR0 := am_ hr0; have HC0 := am_ hc0; clear hr0 hc0; have HB := am_ (Below.refl w.heap.size w); have H : ((some (([] : List (S23)) : List (S23))).bind fun y125 => (if y125.length + l0.length < 4398046511104 then (some (y125 ++ l0)) else (none))) = some r := h; clear h
 obtain ⟨y125, hy125⟩ : ∃ y_ : List (S23), y_ = (([] : List (S23))) := ⟨_, rfl⟩
 replace H : (if y125.length + l0.length < 4398046511104 then (some (y125 ++ l0)) else (none)) = some r := by first | (rw [hy125]; with_reducible exact H) | (have H2_ := (Option.bind_some _ _).symm.trans H; rw [hy125]; with_reducible exact H2_) | (have H2_ := (Option.bind_some _ _).symm.trans H; with_reducible exact H2_) | with_reducible exact H | (rw [hy125]; exact H) | exact H
 have Ny125 := am_ hy125; clear hy125
 by_cases c2 : y125.length + l0.length < 4398046511104
 ·rw [if_pos c2] at H
  have LMc2 := am_ c2; clear c2
  obtain ⟨y128, hy128⟩ : ∃ y_ : List (S23), y_ = (y125 ++ l0) := ⟨_, rfl⟩
  replace H : (some y128) = some r := by first | (rw [hy128]; with_reducible exact H) | (have H2_ := (Option.bind_some _ _).symm.trans H; rw [hy128]; with_reducible exact H2_) | (have H2_ := (Option.bind_some _ _).symm.trans H; with_reducible exact H2_) | with_reducible exact H | (rw [hy128]; exact H) | exact H
  have Ny128 := am_ hy128; clear hy128; obtain rfl := Option.some.inj H
  go_enter Tryd.func76, Tryd.ntmps76
  go_wp2_with (first | ((with_reducible refine gate_dst (N := 5) rfl ?_); refine Kd.R_lit k23 _ 23 ?hg (N := 5) ?hd (xs := ([] : List (S23))) (inner := []) (ok := fun _ => True) (okp := fun _ => True) ?hr ?hp (fun _ hk => hk) trivial (Below.refl _ _) (Nat.le_refl _) (by simp) ?_; (case hd => rfl); (case hg => rfl); (case hr => first | (go_simp; done) | (go_simp; rfl)); (case hp => exact (Reps.none _ _)); intro v126 w3 ho4 hb hg_ hnew_; clear hg_ hnew_; (first | rw [← Ny125.out] at ho4 | (simp only [Int.reduceToNat] at ho4; rw [← Ny125.out] at ho4)); have HO127 := am_ (Kd.R_lower ho4 (below_size (bl_))); replace HB := am_ (below_step (bl_) hb); clear hb ho4) | ((with_reducible refine gate_builtin (b := .append) (xs := #[.tmp 5, .tmp 6]) rfl ?_); at_builtin; refine Kd.R_append_rows k23 (w0 := w) w.heap.size rfl (.tmp 5) (.tmp 6) 24 23 (.agg #[(.int .i64 0), (.int .i64 0), (.string ⟨#[]⟩)]) 32 rfl Tryd.underlying24 info23 rfl (by decide) (by omega) v126 y125 l0 _ _ _ (fun _ => True) (fun _ => False) rfl rfl ?aO ?aR (fun _ _ h => h) (fun _ h => h.elim) ?aF ?aB ?aS ?aL ?_; (case aR => repeat (first | exact (Kd.C_below HR0.out HB.out) | (with_reducible refine Kd.C_alloc ?_ _) | (with_reducible refine Kd.C_drewN ?_ _) | (with_reducible refine Kd.C_drew ?_))); (case aB => exact (bl_)); (case aF => exact (fun _ _ => trivial)); (case aO => exact (kr_ HO127.out)); (case aS => exact (below_size (bl_))); (case aL => have := LMc2.out; omega); intro v129 w5 ho hb hg hat; rw [← Ny128.out] at ho; have HO130 := am_ (ho); replace HB := am_ (hb); clear HO127; clear ho hb hg hat))
  go_ret
  exact ⟨_, ew_, kr_ HO130.out, bl_⟩
 ·rw [if_neg c2] at H
  exact absurd H (by simp)
def hash_Mix.f (a0 : Int) : Option (Int) := some (Go.bits .xor .u64 (IntKind.u64.wrap ((Go.bits .xor .u64 (IntKind.u64.wrap ((Go.bits .xor .u64 a0 (a0 / 2147483648)) * 11400714819323198485)) ((IntKind.u64.wrap ((Go.bits .xor .u64 a0 (a0 / 2147483648)) * 11400714819323198485)) / 536870912)) * 13787848793156543929)) ((IntKind.u64.wrap ((Go.bits .xor .u64 (IntKind.u64.wrap ((Go.bits .xor .u64 a0 (a0 / 2147483648)) * 11400714819323198485)) ((IntKind.u64.wrap ((Go.bits .xor .u64 a0 (a0 / 2147483648)) * 11400714819323198485)) / 536870912)) * 13787848793156543929)) / 4294967296))
theorem hash_Mix.calls (a0 : Int) (r : Int) (w : World) (h : hash_Mix.f a0 = some r) :
  Calls Tryd.prog 58 #[.int .u64 a0] w fun e w' => e = .returned (.int .u64 r) ∧ Drawn0 w w' := by
 have H : (some (Go.bits .xor .u64 (IntKind.u64.wrap ((Go.bits .xor .u64 (IntKind.u64.wrap ((Go.bits .xor .u64 a0 (a0 / 2147483648)) * 11400714819323198485)) ((IntKind.u64.wrap ((Go.bits .xor .u64 a0 (a0 / 2147483648)) * 11400714819323198485)) / 536870912)) * 13787848793156543929)) ((IntKind.u64.wrap ((Go.bits .xor .u64 (IntKind.u64.wrap ((Go.bits .xor .u64 a0 (a0 / 2147483648)) * 11400714819323198485)) ((IntKind.u64.wrap ((Go.bits .xor .u64 a0 (a0 / 2147483648)) * 11400714819323198485)) / 536870912)) * 13787848793156543929)) / 4294967296))) = some r := h; clear h; obtain rfl := Option.some.inj H
 go_enter Tryd.func58, Tryd.ntmps58
 go_wp2
 go_ret
 exact ⟨rs_, by repeat (first | exact Drawn0.refl _ | apply Drawn0.step)⟩
def hash_Start.f (a0 : Int) : Option (Int) := (hash_Mix.f (IntKind.u64.wrap ((IntKind.u64.wrap (a0)) + 2685821657736338717))).bind fun t131 => (some t131)
theorem hash_Start.calls (a0 : Int) (r : Int) (w : World) (h : hash_Start.f a0 = some r) :
  Calls Tryd.prog 105 #[.int .i64 a0] w fun e w' => e = .returned (.int .u64 r) ∧ Drawn0 w w' := by
 have H : ((hash_Mix.f (IntKind.u64.wrap ((IntKind.u64.wrap (a0)) + 2685821657736338717))).bind fun t131 => (some t131)) = some r := h; clear h; replace H := Option.bind_eq_some_iff.mp H; obtain ⟨t131, A20, H⟩ := H; replace H : (some t131) = some r := H; have A2 := am_ A20; clear A20; obtain rfl := Option.some.inj H
 go_enter Tryd.func105, Tryd.ntmps105
 go_wp2_with (first | ((with_reducible refine gate_callee (f := 58) rfl ?_); refine goesL_ (some 6) rfl rfl Tryd.func58 (by kernel_rfl) rfl #[.int .u64 (IntKind.u64.wrap ((IntKind.u64.wrap (a0)) + 2685821657736338717))] rfl (by (try simp only [List.map_toArray, List.map_cons, List.map_nil]); first | done | rfl | (simp only [List.length_drop, List.length_take]; rfl)) ?_; (with_reducible refine (hash_Mix.calls (IntKind.u64.wrap ((IntKind.u64.wrap (a0)) + 2685821657736338717)) t131 _ A2.out).mono ?_); rintro e w' ⟨rfl, ⟨nd, rfl⟩⟩; refine ⟨_, rfl, ?_⟩))
 go_ret
 exact ⟨rs_, by repeat (first | exact Drawn0.refl _ | apply Drawn0.step)⟩
def hash_Byte.f (a0 : Int) (a1 : Int) : Option (Int) := some (IntKind.u64.wrap ((Go.bits .xor .u64 a0 (IntKind.u64.wrap (a1))) * 1099511628211))
theorem hash_Byte.calls (a0 : Int) (a1 : Int) (r : Int) (w : World) (h : hash_Byte.f a0 a1 = some r) :
  Calls Tryd.prog 106 #[.int .u64 a0, .int .u8 a1] w fun e w' => e = .returned (.int .u64 r) ∧ Drawn0 w w' := by
 have H : (some (IntKind.u64.wrap ((Go.bits .xor .u64 a0 (IntKind.u64.wrap (a1))) * 1099511628211))) = some r := h; clear h; obtain rfl := Option.some.inj H
 go_enter Tryd.func106, Tryd.ntmps106
 go_wp2
 go_ret
 exact ⟨rs_, by repeat (first | exact Drawn0.refl _ | apply Drawn0.step)⟩
def hash_text.l0 : Nat → ByteArray → Int → Int → Int → Option (Int)
 | 0, _, _, _, _ => none
 | k + 1, x1, x5, x10, x11 => if x11 < x10 then (if 0 ≤ x11 then (if x11 < (x1.size : Int) then ((hash_Byte.f x5 (bt x1 x11)).bind fun t133 => (hash_text.l0 k x1 t133 x10 (wrap64 (x11 + 1)))) else (none)) else (none)) else ((hash_Mix.f x5).bind fun t134 => (some t134))
def hash_text.f (k : Nat) (a0 : Int) (a1 : ByteArray) : Option (Int) := (hash_Start.f a0).bind fun t132 => (hash_text.l0 k a1 t132 (a1.size : Int) 0)
theorem hash_text.mono_l : ∀ k, (∀ y0 y1 y2 y3, LeO (hash_text.l0 k y0 y1 y2 y3) (hash_text.l0 (k + 1) y0 y1 y2 y3))
 | 0 => fun _ _ _ _ r h => by simp [hash_text.l0] at h
 | k + 1 => by
  have ih0 := hash_text.mono_l k
  ·intro y0 y1 y2 y3
   unfold hash_text.l0
   repeat' first
   | (with_reducible exact ih0 _ _ _ _)
   | (with_reducible exact LeO.refl _)
   | (with_reducible exact LeO.none _)
   | (with_reducible refine LeO.ite ?_ ?_)
   | (with_reducible refine LeO.bind ?_ (fun _ => ?_))
   | exact ih0 _ _ _ _
   | exact LeO.none _
   | refine LeO.ite ?_ ?_
   | refine LeO.bind ?_ (fun _ => ?_)
theorem hash_text.mono : ∀ a0 a1 k, LeO (hash_text.f k a0 a1) (hash_text.f (k + 1) a0 a1) := by
 intro a0 a1 k; have ih0 := hash_text.mono_l k; unfold hash_text.f
 repeat' first
   | (with_reducible exact ih0 _ _ _ _)
   | (with_reducible exact LeO.refl _)
   | (with_reducible exact LeO.none _)
   | (with_reducible refine LeO.ite ?_ ?_)
   | (with_reducible refine LeO.bind ?_ (fun _ => ?_))
   | exact ih0 _ _ _ _
   | exact LeO.none _
   | refine LeO.ite ?_ ?_
   | refine LeO.bind ?_ (fun _ => ?_)
theorem hash_text.calls (k : Nat) (a0 : Int) (a1 : ByteArray) (r : Int) (w : World) (h : hash_text.f k a0 a1 = some r) :
  Calls Tryd.prog 60 #[.int .i64 a0, .string a1] w fun e w' => e = .returned (.int .u64 r) ∧ Drawn0 w w' := by
 have H : ((hash_Start.f a0).bind fun t132 => (hash_text.l0 k a1 t132 (a1.size : Int) 0)) = some r := h; clear h; replace H := Option.bind_eq_some_iff.mp H; obtain ⟨t132, A30, H⟩ := H; replace H : (hash_text.l0 k a1 t132 (a1.size : Int) 0) = some r := H; have A3 := am_ A30; clear A30; have H' := am_ H; clear H
 go_enter Tryd.func60, Tryd.ntmps60
 go_wp2_with (first | ((with_reducible refine gate_callee (f := 105) rfl ?_); refine goesL_ (some 8) rfl rfl Tryd.func105 (by kernel_rfl) rfl #[.int .i64 a0] rfl (by (try simp only [List.map_toArray, List.map_cons, List.map_nil]); first | done | rfl | (simp only [List.length_drop, List.length_take]; rfl)) ?_; (with_reducible refine (hash_Start.calls a0 t132 _ A3.out).mono ?_); rintro e w' ⟨rfl, ⟨nd, rfl⟩⟩; refine ⟨_, rfl, ?_⟩))
 go_loopg [5, 11] k (fun kq v5 v11 w' => ∃ (x5_1 : Int) (x11_1 : Int), v5 = .int .u64 x5_1 ∧ v11 = .int .i64 x11_1 ∧ Aside0 (hash_text.l0 kq a1 x5_1 (a1.size : Int) x11_1 = some r) ∧ Aside0 (kq ≤ k) ∧ Drawn0 w w')
 case atStart => exact ⟨(t132), (0), (rs_), (rs_), H', ⟨Nat.le_refl _⟩, by repeat (first | exact Drawn0.refl _ | apply Drawn0.step)⟩
 case round =>
  clear H'; (try clear c1); (try clear p2); obtain ⟨x5_1, x11_1, rfl, rfl, HA, HK1, ⟨m1, rfl⟩⟩ := hrel
  cases gk with
  | zero => exact absurd HA.out (by simp [hash_text.l0])
  | succ k1 =>
   have H := HA.out; clear HA; simp only [hash_text.l0] at H
   by_cases c4 : x11_1 < (a1.size : Int)
   ·rw [if_pos c4] at H
    have c4b0 : decide (x11_1 < (a1.size : Int)) = true := decide_eq_true c4; clear c4
    by_cases c5 : 0 ≤ x11_1
    ·rw [if_pos c5] at H
     have c5b0 : decide (0 ≤ x11_1) = true := decide_eq_true c5; clear c5
     by_cases c6 : x11_1 < (a1.size : Int)
     ·rw [if_pos c6] at H
      have c6b0 : decide (x11_1 < (a1.size : Int)) = true := decide_eq_true c6; clear c6; replace H := Option.bind_eq_some_iff.mp H; obtain ⟨t133, A80, H⟩ := H; replace H : (hash_text.l0 k1 a1 t133 (a1.size : Int) (wrap64 (x11_1 + 1))) = some r := H; have A8 := am_ A80; clear A80; have H' := am_ H; clear H; have p7 : 0 ≤ (x11_1 : Int) := of_decide_eq_true (as_); have q7 : x11_1 < (a1.size : Int) := of_decide_eq_true (as_); have hx7 := bt_at a1 x11_1; replace p7 := eq_true p7; replace q7 := eq_true q7
      go_wp2_with (first | ((with_reducible refine gate_callee (f := 106) rfl ?_); refine goesL_ (some 18) rfl rfl Tryd.func106 (by kernel_rfl) rfl #[.int .u64 x5_1, .int .u8 (bt a1 x11_1)] rfl (by (try simp only [List.map_toArray, List.map_cons, List.map_nil]); first | done | rfl | (simp only [List.length_drop, List.length_take]; rfl)) ?_; (with_reducible refine (hash_Byte.calls x5_1 (bt a1 x11_1) t133 _ A8.out).mono ?_); rintro e w' ⟨rfl, ⟨nd, rfl⟩⟩; refine ⟨_, rfl, ?_⟩))
      go_roundg k1
      case measure => have := HK1.out; omega
      case rel => exact ⟨(t133), (wrap64 (x11_1 + 1)), (rs_), (rs_), H', ⟨by have := HK1.out; omega⟩, by repeat (first | exact Drawn0.refl _ | apply Drawn0.step)⟩
     ·rw [if_neg c6] at H
      exact absurd H (by simp)
    ·rw [if_neg c5] at H
     exact absurd H (by simp)
   ·rw [if_neg c4] at H
    have c4b0 : decide (x11_1 < (a1.size : Int)) = false := decide_eq_false c4; clear c4; replace H := Option.bind_eq_some_iff.mp H; obtain ⟨t134, A90, H⟩ := H; replace H : (some t134) = some r := H; have A9 := am_ A90; clear A90; obtain rfl := Option.some.inj H
    go_wp2_with (first | ((with_reducible refine gate_callee (f := 58) rfl ?_); refine goesL_ (some 21) rfl rfl Tryd.func58 (by kernel_rfl) rfl #[.int .u64 x5_1] rfl (by (try simp only [List.map_toArray, List.map_cons, List.map_nil]); first | done | rfl | (simp only [List.length_drop, List.length_take]; rfl)) ?_; (with_reducible refine (hash_Mix.calls x5_1 t134 _ A9.out).mono ?_); rintro e w' ⟨rfl, ⟨nd, rfl⟩⟩; refine ⟨_, rfl, ?_⟩))
    go_ret
    exact ⟨rs_, by repeat (first | exact Drawn0.refl _ | apply Drawn0.step)⟩
def val_Key.l0 : Nat → Int → List Int → Int → Option (ByteArray)
 | 0, _, _, _ => none
 | k + 1, x3, x4, x17 => if x17 < 8 then (if 0 ≤ (wrap64 (56 - (wrap64 (8 * x17)))) then (if x4.length < 140737488355328 then (val_Key.l0 k x3 (x4 ++ [(shr .u64 x3 (wrap64 (56 - (wrap64 (8 * x17))))) % 256]) (wrap64 (x17 + 1))) else (none)) else (none)) else (some (strOfNums x4))
def val_Key.f (k : Nat) (a0_0 : Int) (a0_1 : Int) (a0_2 : ByteArray) : Option (ByteArray) := if a0_0 = 0 then (some (⟨#[110]⟩ : ByteArray)) else (if a0_0 = 1 then (val_Key.l0 k (Go.bits .xor .u64 (IntKind.u64.wrap (a0_1)) 9223372036854775808) (([105] : List Int)) 0) else (if a0_0 = 2 then (if 1 + a0_2.size ≤ 9223372036854775807 then (some ((⟨#[116]⟩ : ByteArray) ++ a0_2)) else (none)) else (some (⟨#[]⟩ : ByteArray))))
theorem val_Key.mono_l : ∀ k, (∀ y0 y1 y2, LeO (val_Key.l0 k y0 y1 y2) (val_Key.l0 (k + 1) y0 y1 y2))
 | 0 => fun _ _ _ r h => by simp [val_Key.l0] at h
 | k + 1 => by
  have ih0 := val_Key.mono_l k
  ·intro y0 y1 y2
   unfold val_Key.l0
   repeat' first
   | (with_reducible exact ih0 _ _ _)
   | (with_reducible exact LeO.refl _)
   | (with_reducible exact LeO.none _)
   | (with_reducible refine LeO.ite ?_ ?_)
   | (with_reducible refine LeO.bind ?_ (fun _ => ?_))
   | exact ih0 _ _ _
   | exact LeO.none _
   | refine LeO.ite ?_ ?_
   | refine LeO.bind ?_ (fun _ => ?_)
theorem val_Key.mono : ∀ a0 a1 a2 k, LeO (val_Key.f k a0 a1 a2) (val_Key.f (k + 1) a0 a1 a2) := by
 intro a0 a1 a2 k; have ih0 := val_Key.mono_l k; unfold val_Key.f
 repeat' first
   | (with_reducible exact ih0 _ _ _)
   | (with_reducible exact LeO.refl _)
   | (with_reducible exact LeO.none _)
   | (with_reducible refine LeO.ite ?_ ?_)
   | (with_reducible refine LeO.bind ?_ (fun _ => ?_))
   | exact ih0 _ _ _
   | exact LeO.none _
   | refine LeO.ite ?_ ?_
   | refine LeO.bind ?_ (fun _ => ?_)
theorem val_Key.calls (k : Nat) (a0_0 : Int) (a0_1 : Int) (a0_2 : ByteArray) (r : ByteArray) (w : World) (h : val_Key.f k a0_0 a0_1 a0_2 = some r) :
  Calls Tryd.prog 61 #[.agg #[.int .i64 a0_0, .int .i64 a0_1, .string a0_2]] w fun e w' => e = .returned (.string r) ∧ Below w.heap.size w w' := by
 have hu23 := Tryd.underlying23; have HB := am_ (Below.refl w.heap.size w); have H : (if a0_0 = 0 then (some (⟨#[110]⟩ : ByteArray)) else (if a0_0 = 1 then (val_Key.l0 k (Go.bits .xor .u64 (IntKind.u64.wrap (a0_1)) 9223372036854775808) (([105] : List Int)) 0) else (if a0_0 = 2 then (if 1 + a0_2.size ≤ 9223372036854775807 then (some ((⟨#[116]⟩ : ByteArray) ++ a0_2)) else (none)) else (some (⟨#[]⟩ : ByteArray))))) = some r := h; clear h
 by_cases c2 : a0_0 = 0
 ·rw [if_pos c2] at H
  have c2b0 : (a0_0 == 0) = true := beq_iff_eq.mpr c2; have c2b1 : (a0_0 != 0) = false := bne_eq_false_iff_eq.mpr c2; clear c2; obtain rfl := Option.some.inj H
  go_enter Tryd.func61, Tryd.ntmps61
  go_wp2_with (first | ((with_reducible refine gate_dst (N := 1) rfl ?_); refine box_event ?hg (N := 1) ?hd (cs := #[.int .i64 a0_0, .int .i64 a0_1, .string a0_2]) (t := 23) ?hr ?_; (case hd => rfl); (case hg => rfl); (case hr => first | (go_simp; done) | (go_simp; rfl)); intro gb135 hg w3 hbox hb; have BK135 := am_ (hbox); have GW135 := am_ ((by rw [hg]; exact (below_size (bl_)) : w.heap.size ≤ gb135)); have GE135 := am_ ((by rw [hg]; exact (below_size (bl_)) : w.heap.size ≤ gb135)); replace HB := am_ (below_step (bl_) hb); clear hb hbox hg; obtain ⟨hcz4_0, hcz4_1, hcz4_2, hfz4_0, hfz4_1, hfz4_2⟩ := bw3_ BK135.out))
  go_ret
  exact ⟨ew_, bl_⟩
 ·rw [if_neg c2] at H
  have c2b0 : (a0_0 == 0) = false := beq_eq_false_iff_ne.mpr c2; have c2b1 : (a0_0 != 0) = true := bne_iff_ne.mpr c2
  by_cases c5 : a0_0 = 1
  ·rw [if_pos c5] at H
   have c5b0 : (a0_0 == 1) = true := beq_iff_eq.mpr c5; have c5b1 : (a0_0 != 1) = false := bne_eq_false_iff_eq.mpr c5; clear c5
   obtain ⟨y136, hy136⟩ : ∃ y_ : List Int, y_ = (([105] : List Int)) := ⟨_, rfl⟩
   replace H : (val_Key.l0 k (Go.bits .xor .u64 (IntKind.u64.wrap (a0_1)) 9223372036854775808) y136 0) = some r := by first | (rw [hy136]; with_reducible exact H) | (have H2_ := (Option.bind_some _ _).symm.trans H; rw [hy136]; with_reducible exact H2_) | (have H2_ := (Option.bind_some _ _).symm.trans H; with_reducible exact H2_) | with_reducible exact H | (rw [hy136]; exact H) | exact H
   have Ny136 := am_ hy136; clear hy136; have H' := am_ H; clear H
   go_enter Tryd.func61, Tryd.ntmps61
   go_wp2_with (first | ((with_reducible refine gate_dst (N := 1) rfl ?_); refine box_event ?hg (N := 1) ?hd (cs := #[.int .i64 a0_0, .int .i64 a0_1, .string a0_2]) (t := 23) ?hr ?_; (case hd => rfl); (case hg => rfl); (case hr => first | (go_simp; done) | (go_simp; rfl)); intro gb135 hg w6 hbox hb; have BK135 := am_ (hbox); have GW135 := am_ ((by rw [hg]; exact (below_size (bl_)) : w.heap.size ≤ gb135)); have GE135 := am_ ((by rw [hg]; exact (below_size (bl_)) : w.heap.size ≤ gb135)); replace HB := am_ (below_step (bl_) hb); clear hb hbox hg; obtain ⟨hcz7_0, hcz7_1, hcz7_2, hfz7_0, hfz7_1, hfz7_2⟩ := bw3_ BK135.out) | ((with_reducible refine gate_dst (N := 16) rfl ?_); refine Kd.R_lit (Kd.int .u8) _ 5 ?hg (N := 16) ?hd (xs := ([105] : List Int)) (inner := [.int .u8 105]) (ok := fun _ => True) (okp := fun _ => True) ?hr ?hp (fun _ hk => hk) trivial (Below.refl _ _) (Nat.le_refl _) (by simp) ?_; (case hd => rfl); (case hg => rfl); (case hr => first | (go_simp; done) | (go_simp; rfl)); (case hp => exact (Reps.one (show Kd.M (Kd.int .u8) _ _ _ 105 [.int .u8 105] from rfl) (Reps.none _ _))); intro v137 w8 ho9 hb hg_ hnew_; clear hg_ hnew_; (first | rw [← Ny136.out] at ho9 | (simp only [Int.reduceToNat] at ho9; rw [← Ny136.out] at ho9)); have HO138 := am_ (Kd.R_lower ho9 (below_size (bl_))); replace BK135 := am_ (blk_below (bk_ BK135.out) hb); replace HB := am_ (below_step (bl_) hb); clear hb ho9))
   go_loopg [4, 17] k (fun kq v4 v17 w' => ∃ (x4_1 : List Int) (x17_1 : Int), v17 = .int .i64 x17_1 ∧ Aside0 (val_Key.l0 kq (Go.bits .xor .u64 (IntKind.u64.wrap (a0_1)) 9223372036854775808) x4_1 x17_1 = some r) ∧ Aside0 (kq ≤ k) ∧ Aside0 (Kd.R (Kd.int .u8) 5 w' w.heap.size (fun _ => True) v4 x4_1) ∧ Aside0 (w'.heap[gb135]? = some (.cells #[.int .i64 a0_0, .int .i64 a0_1, .string a0_2] 23 (0, 0))) ∧ Aside0 (Below w.heap.size w w'))
   case atStart => exact ⟨(y136), (0), (rs_), H', ⟨Nat.le_refl _⟩, ⟨kr_ HO138.out⟩, ⟨bk_ BK135.out⟩, ⟨bl_⟩⟩
   case round =>
    clear H'; (try clear c2); (try clear c2b0); (try clear c2b1); (try clear p2); (try clear c5); (try clear c5b0); (try clear c5b1); (try clear c6); (try clear hcz4_0); (try clear hcz4_1); (try clear hcz4_2); (try clear hcz7_0); (try clear hcz7_1); (try clear hcz7_2); (try clear hfz4_0); (try clear hfz4_1); (try clear hfz4_2); (try clear hfz7_0); (try clear hfz7_1); (try clear hfz7_2); obtain ⟨x4_1, x17_1, rfl, HA, HK1, HO_4, BK135, HB⟩ := hrel
    cases gk with
    | zero => exact absurd HA.out (by simp [val_Key.l0])
    | succ k1 =>
     have H := HA.out; clear HA; simp only [val_Key.l0] at H
     by_cases c10 : x17_1 < 8
     ·rw [if_pos c10] at H
      have c10b0 : decide (x17_1 < 8) = true := decide_eq_true c10; clear c10
      obtain ⟨ji11, hji11⟩ : ∃ j_ : Int, (wrap64 (56 - (wrap64 (8 * x17_1)))) = j_ := ⟨_, rfl⟩
      replace H : (if 0 ≤ (ji11) then (if x4_1.length < 140737488355328 then (val_Key.l0 k1 (Go.bits .xor .u64 (IntKind.u64.wrap (a0_1)) 9223372036854775808) (x4_1 ++ [(shr .u64 (Go.bits .xor .u64 (IntKind.u64.wrap (a0_1)) 9223372036854775808) (ji11)) % 256]) (wrap64 (x17_1 + 1))) else (none)) else (none)) = some r := by first | (rw [hji11] at H; exact H) | (simp only [hji11] at H ⊢; exact H)
      have hji11w : (IntKind.i64.wrap (56 - (wrap64 (8 * x17_1)))) = ji11 := (i64_w _).trans hji11
      by_cases c12 : 0 ≤ (ji11)
      ·rw [if_pos c12] at H
       have c12b0 := eq_true c12; have c12b1 : decide (0 ≤ (ji11)) = true := decide_eq_true c12; clear c12
       obtain ⟨ji13, hji13⟩ : ∃ j_ : Int, (shr .u64 (Go.bits .xor .u64 (IntKind.u64.wrap (a0_1)) 9223372036854775808) (ji11)) = j_ := ⟨_, rfl⟩
       replace H : (if x4_1.length < 140737488355328 then (val_Key.l0 k1 (Go.bits .xor .u64 (IntKind.u64.wrap (a0_1)) 9223372036854775808) (x4_1 ++ [(ji13) % 256]) (wrap64 (x17_1 + 1))) else (none)) = some r := by first | (rw [hji13] at H; exact H) | (simp only [hji13] at H ⊢; exact H)
       have hji13_ : ((Go.bits .xor .u64 (IntKind.u64.wrap (a0_1)) 9223372036854775808) / 2 ^ min (ji11).toNat 64) = ji13 := hji13; have hji13z : (ji11) ≤ 64 → ((Go.bits .xor .u64 (IntKind.u64.wrap (a0_1)) 9223372036854775808) / 2 ^ (ji11).toNat) = ji13 := shr_small hji13
       by_cases c14 : x4_1.length < 140737488355328
       ·rw [if_pos c14] at H
        have LMc14 := am_ c14; clear c14
        obtain ⟨y139, hy139⟩ : ∃ y_ : List Int, y_ = (x4_1 ++ [(ji13) % 256]) := ⟨_, rfl⟩
        replace H : (val_Key.l0 k1 (Go.bits .xor .u64 (IntKind.u64.wrap (a0_1)) 9223372036854775808) y139 (wrap64 (x17_1 + 1))) = some r := by first | (rw [hy139]; with_reducible exact H) | (have H2_ := (Option.bind_some _ _).symm.trans H; rw [hy139]; with_reducible exact H2_) | (have H2_ := (Option.bind_some _ _).symm.trans H; with_reducible exact H2_) | with_reducible exact H | (rw [hy139]; exact H) | exact H
        have Ny139 := am_ hy139; clear hy139; have H' := am_ H; clear H
        go_wp2_with (first | ((with_reducible refine gate_builtin (b := .append) (xs := #[.tmp 20, .tmp 27]) rfl ?_); at_builtin; refine Kd.R_append (Kd.int .u8) (w0 := w) w.heap.size rfl (.tmp 20) (.tmp 27) 160 5 (.int .u8 0) 1 rfl Tryd.underlying160 info5 rfl (by decide) (by omega) u4 x4_1 ((ji13) % 256) [.int .u8 ((ji13) % 256)] (fun _ => True) (fun _ => False) rfl rfl ?aP (fun _ hk => hk.elim) ?aF ?aO ?aB ?aS ?aL ?_; (case aP => exact rfl); (case aB => exact (bl_)); (case aF => exact (fun _ _ => trivial)); (case aO => exact (kr_ HO_4.out)); (case aS => exact (below_size (bl_))); (case aL => have := LMc14.out; omega); intro v140 w15 ho hb hg hat; rw [← Ny139.out] at ho; replace BK135 := am_ (blk_grown (g := gb135) (o := .cells #[.int .i64 a0_0, .int .i64 a0_1, .string a0_2] 23 (0, 0)) (bk_ BK135.out) hg (Kd.R_ne HO_4.out BK135.out (by decide))); have HO141 := am_ (ho); replace HB := am_ (hb); clear HO_4; clear ho hb hg hat))
        go_roundg k1
        case measure => have := HK1.out; omega
        case rel => exact ⟨(y139), (wrap64 (x17_1 + 1)), (rs_), H', ⟨by have := HK1.out; omega⟩, ⟨kr_ HO141.out⟩, ⟨bk_ BK135.out⟩, ⟨bl_⟩⟩
       ·rw [if_neg c14] at H
        exact absurd H (by simp)
      ·rw [if_neg c12] at H
       exact absurd H (by simp)
     ·rw [if_neg c10] at H
      have c10b0 : decide (x17_1 < 8) = false := decide_eq_false c10; clear c10; obtain rfl := Option.some.inj H; have hcv16 := own_string (P := Tryd.prog) Tryd.underlying160 Tryd.underlying5 Tryd.underlying9 (Kd.own_of_R HO_4.out)
      go_wp2
      go_ret
      exact ⟨ew_, bl_⟩
  ·rw [if_neg c5] at H
   have c5b0 : (a0_0 == 1) = false := beq_eq_false_iff_ne.mpr c5; have c5b1 : (a0_0 != 1) = true := bne_iff_ne.mpr c5
   by_cases c17 : a0_0 = 2
   ·rw [if_pos c17] at H
    have c17b0 : (a0_0 == 2) = true := beq_iff_eq.mpr c17; have c17b1 : (a0_0 != 2) = false := bne_eq_false_iff_eq.mpr c17; clear c17
    by_cases c18 : 1 + a0_2.size ≤ 9223372036854775807
    ·rw [if_pos c18] at H
     have c18b0 := eq_true c18; have c18b1 : decide (1 + a0_2.size ≤ 9223372036854775807) = true := decide_eq_true c18
     try have c18b2 : (9223372036854775807 < 1 + a0_2.size) = False := eq_false (Nat.not_lt.2 c18)
     obtain rfl := Option.some.inj H
     go_enter Tryd.func61, Tryd.ntmps61
     go_wp2_with (first | ((with_reducible refine gate_dst (N := 1) rfl ?_); refine box_event ?hg (N := 1) ?hd (cs := #[.int .i64 a0_0, .int .i64 a0_1, .string a0_2]) (t := 23) ?hr ?_; (case hd => rfl); (case hg => rfl); (case hr => first | (go_simp; done) | (go_simp; rfl)); intro gb135 hg w19 hbox hb; have BK135 := am_ (hbox); have GW135 := am_ ((by rw [hg]; exact (below_size (bl_)) : w.heap.size ≤ gb135)); have GE135 := am_ ((by rw [hg]; exact (below_size (bl_)) : w.heap.size ≤ gb135)); replace HB := am_ (below_step (bl_) hb); clear hb hbox hg; obtain ⟨hcz20_0, hcz20_1, hcz20_2, hfz20_0, hfz20_1, hfz20_2⟩ := bw3_ BK135.out))
     go_ret
     exact ⟨ew_, bl_⟩
    ·rw [if_neg c18] at H
     exact absurd H (by simp)
   ·rw [if_neg c17] at H
    have c17b0 : (a0_0 == 2) = false := beq_eq_false_iff_ne.mpr c17; have c17b1 : (a0_0 != 2) = true := bne_iff_ne.mpr c17; obtain rfl := Option.some.inj H
    go_enter Tryd.func61, Tryd.ntmps61
    go_wp2_with (first | ((with_reducible refine gate_dst (N := 1) rfl ?_); refine box_event ?hg (N := 1) ?hd (cs := #[.int .i64 a0_0, .int .i64 a0_1, .string a0_2]) (t := 23) ?hr ?_; (case hd => rfl); (case hg => rfl); (case hr => first | (go_simp; done) | (go_simp; rfl)); intro gb135 hg w21 hbox hb; have BK135 := am_ (hbox); have GW135 := am_ ((by rw [hg]; exact (below_size (bl_)) : w.heap.size ≤ gb135)); have GE135 := am_ ((by rw [hg]; exact (below_size (bl_)) : w.heap.size ≤ gb135)); replace HB := am_ (below_step (bl_) hb); clear hb hbox hg; obtain ⟨hcz22_0, hcz22_1, hcz22_2, hfz22_0, hfz22_1, hfz22_2⟩ := bw3_ BK135.out))
    go_ret
    exact ⟨ew_, bl_⟩
theorem below_grow_ (w : World) (k : Nat) (os : Array Obj) : Below w.heap.size w (Go.Sort.grow (w.drewN k) os) :=
 ⟨rfl, rfl, rfl, by show w.heap.size ≤ (w.heap ++ os).size; rw [Array.size_append]; omega, fun j hj => Array.getElem?_append_left hj⟩
def TabOK (w : World) : Prop := Lib.TabIs Tryd.prog w "internal/strconv.uint64pow10" .u64 Lib.pow10Tab
theorem TabOK.below {w w' : World} (h : TabOK w) (hb : Below w.heap.size w w') : TabOK w' := Joins.tab_stays (g := 0) (by kernel_rfl) h hb (Nat.le_refl _)
def strconv_Itoa.f (a0 : Int) : Option (ByteArray) := if -9223372036854775808 ≤ a0 ∧ a0 ≤ 9223372036854775807 then some ⟨(Lib.itoa a0).toArray⟩ else none
theorem strconv_Itoa.calls (a0 : Int) (r : ByteArray) (w : World) (h : strconv_Itoa.f a0 = some r) (HT : Aside0 (TabOK w)) :
  Calls Tryd.prog 107 #[.int .i64 a0] w fun e w' => e = .returned (.string r) ∧ Below w.heap.size w w' := by
 unfold strconv_Itoa.f at h
 split at h
 ·rename_i c
  obtain rfl := Option.some.inj h; refine (Tryd.strconv_Itoa a0 c.1 c.2 w HT.out).mono ?_; rintro e w' ⟨rfl, k, os, rfl⟩; exact ⟨rfl, below_grow_ w k os⟩
 ·exact absurd h (by simp)
end Go.Proofs.YtcfgjaggccnoaaaDoor.PTableSteps
namespace Go.Proofs.YtcfgjaggccnoaaaDoor.PTableSteps
open Go.RowKit Go.Proofs.YtcfgjaggccnoaaaDoorW.PrintWords Go.Proofs.YtcfgjaggccnoaaaDoorW.PrintLast Go.Proofs.YtcfgjaggccnoaaaDoorW.PrintMore
attribute [local go_sem] max2_int min2_int max_two min_two max_three min_three max_four min_four
set_option linter.unusedVariables false
set_option maxHeartbeats 8000000
set_option linter.unusedSimpArgs false
set_option maxRecDepth 100000
def rows_Key.l0 : Nat → ByteArray → List (S23) → Int → Int → Option (ByteArray)
 | 0, _, _, _, _ => none
 | k + 1, x3, x7, x8, x9 => if x9 < x8 then (if 0 ≤ x9 then (if x9 < (x7.length : Int) then ((val_Key.f k ((rd_T23 x7 x9).f0) ((rd_T23 x7 x9).f1) ((rd_T23 x7 x9).f2)).bind fun t144 => ((strconv_Itoa.f (t144.size : Int)).bind fun t145 => (if t145.size + 1 ≤ 9223372036854775807 then (if (t145 ++ (⟨#[58]⟩ : ByteArray)).size + t144.size ≤ 9223372036854775807 then (if x3.size + ((t145 ++ (⟨#[58]⟩ : ByteArray)) ++ t144).size ≤ 9223372036854775807 then (rows_Key.l0 k (x3 ++ ((t145 ++ (⟨#[58]⟩ : ByteArray)) ++ t144)) x7 x8 (wrap64 (x9 + 1))) else (none)) else (none)) else (none)))) else (none)) else (none)) else (some x3)
def rows_Key.f (k : Nat) (l0 : List (S23)) : Option (ByteArray) := rows_Key.l0 k (⟨#[]⟩ : ByteArray) l0 (l0.length : Int) 0
theorem rows_Key.mono_l : ∀ k, (∀ y0 y1 y2 y3, LeO (rows_Key.l0 k y0 y1 y2 y3) (rows_Key.l0 (k + 1) y0 y1 y2 y3))
 | 0 => fun _ _ _ _ r h => by simp [rows_Key.l0] at h
 | k + 1 => by
  have ih0 := rows_Key.mono_l k
  ·intro y0 y1 y2 y3
   unfold rows_Key.l0
   repeat' first
   | (with_reducible exact ih0 _ _ _ _)
   | (with_reducible exact val_Key.mono _ _ _ _)
   | (with_reducible exact LeO.refl _)
   | (with_reducible exact LeO.none _)
   | (with_reducible refine LeO.ite ?_ ?_)
   | (with_reducible refine LeO.bind ?_ (fun _ => ?_))
   | exact ih0 _ _ _ _
   | exact val_Key.mono _ _ _ _
   | exact LeO.none _
   | refine LeO.ite ?_ ?_
   | refine LeO.bind ?_ (fun _ => ?_)
theorem rows_Key.mono : ∀ a0 k, LeO (rows_Key.f k a0) (rows_Key.f (k + 1) a0) := by
 intro a0 k; have ih0 := rows_Key.mono_l k; unfold rows_Key.f
 repeat' first
   | (with_reducible exact ih0 _ _ _ _)
   | (with_reducible exact val_Key.mono _ _ _ _)
   | (with_reducible exact LeO.refl _)
   | (with_reducible exact LeO.none _)
   | (with_reducible refine LeO.ite ?_ ?_)
   | (with_reducible refine LeO.bind ?_ (fun _ => ?_))
   | exact ih0 _ _ _ _
   | exact val_Key.mono _ _ _ _
   | exact LeO.none _
   | refine LeO.ite ?_ ?_
   | refine LeO.bind ?_ (fun _ => ?_)
theorem rows_Key.calls (k : Nat) (A0 : Option Addr) (c0 : Nat) (l0 : List (S23)) (r : ByteArray) (w : World) (hr0 : Kd.C k23 w A0 l0.length l0) (hc0 : l0.length ≤ c0) (h : rows_Key.f k l0 = some r) (HT : Aside0 (TabOK w)) :
  Calls Tryd.prog 64 #[.slice A0 l0.length c0] w fun e w' => e = .returned (.string r) ∧ Below w.heap.size w w' := by
 have hu23 := Tryd.underlying23; have HR0 := am_ hr0; have HC0 := am_ hc0; clear hr0 hc0; have HB := am_ (Below.refl w.heap.size w); have H : (rows_Key.l0 k (⟨#[]⟩ : ByteArray) l0 (l0.length : Int) 0) = some r := h; clear h; have H' := am_ H; clear H
 go_enter Tryd.func64, Tryd.ntmps64
 go_wp2
 go_loopg [3, 9] k (fun kq v3 v9 w' => ∃ (x3_1 : ByteArray) (x9_1 : Int), v3 = .string x3_1 ∧ v9 = .int .i64 x9_1 ∧ Aside0 (rows_Key.l0 kq x3_1 l0 (l0.length : Int) x9_1 = some r) ∧ Aside0 (kq ≤ k) ∧ Aside0 (Below w.heap.size w w'))
 case atStart => exact ⟨((⟨#[]⟩ : ByteArray)), (0), (rs_), (rs_), H', ⟨Nat.le_refl _⟩, ⟨bl_⟩⟩
 case round =>
  clear H'; obtain ⟨x3_1, x9_1, rfl, rfl, HA, HK1, HB⟩ := hrel
  cases gk with
  | zero => exact absurd HA.out (by simp [rows_Key.l0])
  | succ k1 =>
   have H := HA.out; clear HA; simp only [rows_Key.l0] at H
   by_cases c2 : x9_1 < (l0.length : Int)
   ·rw [if_pos c2] at H
    have c2b0 : decide (x9_1 < (l0.length : Int)) = true := decide_eq_true c2; clear c2
    by_cases c3 : 0 ≤ x9_1
    ·rw [if_pos c3] at H
     have c3b0 : decide (0 ≤ x9_1) = true := decide_eq_true c3; clear c3
     by_cases c4 : x9_1 < (l0.length : Int)
     ·rw [if_pos c4] at H
      have c4b0 : decide (x9_1 < (l0.length : Int)) = true := decide_eq_true c4; clear c4; replace H := Option.bind_eq_some_iff.mp H; obtain ⟨t144, A50, H⟩ := H; replace H : ((strconv_Itoa.f (t144.size : Int)).bind fun t145 => (if t145.size + 1 ≤ 9223372036854775807 then (if (t145 ++ (⟨#[58]⟩ : ByteArray)).size + t144.size ≤ 9223372036854775807 then (if x3_1.size + ((t145 ++ (⟨#[58]⟩ : ByteArray)) ++ t144).size ≤ 9223372036854775807 then (rows_Key.l0 k1 (x3_1 ++ ((t145 ++ (⟨#[58]⟩ : ByteArray)) ++ t144)) l0 (l0.length : Int) (wrap64 (x9_1 + 1))) else (none)) else (none)) else (none))) = some r := H; have A5 := am_ A50; clear A50; replace H := Option.bind_eq_some_iff.mp H; obtain ⟨t145, A60, H⟩ := H; replace H : (if t145.size + 1 ≤ 9223372036854775807 then (if (t145 ++ (⟨#[58]⟩ : ByteArray)).size + t144.size ≤ 9223372036854775807 then (if x3_1.size + ((t145 ++ (⟨#[58]⟩ : ByteArray)) ++ t144).size ≤ 9223372036854775807 then (rows_Key.l0 k1 (x3_1 ++ ((t145 ++ (⟨#[58]⟩ : ByteArray)) ++ t144)) l0 (l0.length : Int) (wrap64 (x9_1 + 1))) else (none)) else (none)) else (none)) = some r := H; have A6 := am_ A60; clear A60
      by_cases c7 : t145.size + 1 ≤ 9223372036854775807
      ·rw [if_pos c7] at H
       have c7b0 := eq_true c7; have c7b1 : decide (t145.size + 1 ≤ 9223372036854775807) = true := decide_eq_true c7
       try have c7b2 : (9223372036854775807 < t145.size + 1) = False := eq_false (Nat.not_lt.2 c7)
       by_cases c8 : (t145 ++ (⟨#[58]⟩ : ByteArray)).size + t144.size ≤ 9223372036854775807
       ·rw [if_pos c8] at H
        have c8b0 := eq_true c8; have c8b1 : decide ((t145 ++ (⟨#[58]⟩ : ByteArray)).size + t144.size ≤ 9223372036854775807) = true := decide_eq_true c8
        try have c8b2 : (9223372036854775807 < (t145 ++ (⟨#[58]⟩ : ByteArray)).size + t144.size) = False := eq_false (Nat.not_lt.2 c8)
        try (have c8b3 := c8; simp at c8b3)
        by_cases c9 : x3_1.size + ((t145 ++ (⟨#[58]⟩ : ByteArray)) ++ t144).size ≤ 9223372036854775807
        ·rw [if_pos c9] at H
         have c9b0 := eq_true c9; have c9b1 : decide (x3_1.size + ((t145 ++ (⟨#[58]⟩ : ByteArray)) ++ t144).size ≤ 9223372036854775807) = true := decide_eq_true c9
         try have c9b2 : (9223372036854775807 < x3_1.size + ((t145 ++ (⟨#[58]⟩ : ByteArray)) ++ t144).size) = False := eq_false (Nat.not_lt.2 c9)
         try (have c9b3 := c9; simp at c9b3)
         have H' := am_ H; clear H; have p142 : 0 ≤ (x9_1 : Int) := of_decide_eq_true (as_); have q142 : x9_1 < (l0.length : Int) := of_decide_eq_true (as_); obtain ⟨ad142, e142, hx142_0, hx142_1, hx142_2⟩ := at_T23 HR0.out x9_1 p142 q142; cases e142; replace hx142_0 := (HB.out.cell (World.block_lt_of_cell? w _ hx142_0)).trans hx142_0; replace hx142_1 := (HB.out.cell (World.block_lt_of_cell? w _ hx142_1)).trans hx142_1; replace hx142_2 := (HB.out.cell (World.block_lt_of_cell? w _ hx142_2)).trans hx142_2; replace p142 := eq_true p142; replace q142 := eq_true q142
         go_wp2_with (first | ((with_reducible refine gate_dst (N := 5) rfl ?_); refine box_event ?hg (N := 5) ?hd (cs := #[.int .i64 0, .int .i64 0, .string (⟨#[]⟩ : ByteArray)]) (t := 23) ?hr ?_; (case hd => rfl); (case hg => rfl); (case hr => first | (go_simp; done) | (go_simp; rfl)); intro gb143 hg w10 hbox hb; have BK143 := am_ (hbox); have GW143 := am_ ((by rw [hg]; exact (below_size (bl_)) : w.heap.size ≤ gb143)); have GE143 := am_ ((by rw [hg]; exact (below_size (bl_)) : w.heap.size ≤ gb143)); replace HB := am_ (below_step (bl_) hb); clear hb hbox hg; obtain ⟨hcz11_0, hcz11_1, hcz11_2, hfz11_0, hfz11_1, hfz11_2⟩ := bw3_ BK143.out) | ((with_reducible refine gate_callee (f := 61) rfl ?_); refine goesL_ (some 14) rfl rfl Tryd.func61 (by kernel_rfl) rfl #[.agg #[.int .i64 ((rd_T23 l0 x9_1).f0), .int .i64 ((rd_T23 l0 x9_1).f1), .string ((rd_T23 l0 x9_1).f2)]] rfl (by (try simp only [List.map_toArray, List.map_cons, List.map_nil]); first | done | rfl | (simp only [List.length_drop, List.length_take]; rfl)) ?_; (with_reducible refine (val_Key.calls k1 ((rd_T23 l0 x9_1).f0) ((rd_T23 l0 x9_1).f1) ((rd_T23 l0 x9_1).f2) t144 _ A5.out).mono ?_); rintro e w12 ⟨rfl, hb⟩; refine ⟨_, rfl, ?_⟩; replace BK143 := am_ (blk_below (g := gb143) (o := .cells #[.int .i64 ((rd_T23 l0 x9_1).f0), .int .i64 ((rd_T23 l0 x9_1).f1), .string ((rd_T23 l0 x9_1).f2)] 23 (0, 0)) (by refine bp_ ?_; refine blk_put (cs := #[.int .i64 ((rd_T23 l0 x9_1).f0), .int .i64 ((rd_T23 l0 x9_1).f1), .string (⟨#[]⟩ : ByteArray)]) ?_ 2 _ rfl; refine bp_ ?_; refine blk_put (cs := #[.int .i64 ((rd_T23 l0 x9_1).f0), .int .i64 0, .string (⟨#[]⟩ : ByteArray)]) ?_ 1 _ rfl; refine bp_ ?_; refine blk_put (cs := #[.int .i64 0, .int .i64 0, .string (⟨#[]⟩ : ByteArray)]) ?_ 0 _ rfl; refine bp_ ?_; exact BK143.out) hb); replace HB := am_ (below_step (bl_) hb); (try clear hb); (try clear hb2); (try clear hk); (try clear hi)) | ((with_reducible refine gate_callee (f := 107) rfl ?_); refine goesL_ (some 18) rfl rfl Tryd.func107 (by kernel_rfl) rfl #[.int .i64 (t144.size : Int)] rfl (by (try simp only [List.map_toArray, List.map_cons, List.map_nil]); first | done | rfl | (simp only [List.length_drop, List.length_take]; rfl)) ?_; (with_reducible refine (strconv_Itoa.calls (t144.size : Int) t145 _ A6.out (by first | with_reducible exact HT | exact ⟨TabOK.below HT.out (bl_)⟩)).mono ?_); rintro e w13 ⟨rfl, hb⟩; refine ⟨_, rfl, ?_⟩; replace BK143 := am_ (blk_below (bk_ BK143.out) hb); replace HB := am_ (below_step (bl_) hb); (try clear hb); (try clear hb2); (try clear hk); (try clear hi)))
         go_roundg k1
         case measure => have := HK1.out; omega
         case rel => exact ⟨(x3_1 ++ ((t145 ++ (⟨#[58]⟩ : ByteArray)) ++ t144)), (wrap64 (x9_1 + 1)), (rs_), (rs_), H', ⟨by have := HK1.out; omega⟩, ⟨bl_⟩⟩
        ·rw [if_neg c9] at H
         exact absurd H (by simp)
       ·rw [if_neg c8] at H
        exact absurd H (by simp)
      ·rw [if_neg c7] at H
       exact absurd H (by simp)
     ·rw [if_neg c4] at H
      exact absurd H (by simp)
    ·rw [if_neg c3] at H
     exact absurd H (by simp)
   ·rw [if_neg c2] at H
    have c2b0 : decide (x9_1 < (l0.length : Int)) = false := decide_eq_false c2; clear c2; obtain rfl := Option.some.inj H
    go_wp2
    go_ret
    exact ⟨ew_, bl_⟩
def hash_Row.f (k : Nat) (a0 : Int) (l1 : List (S23)) : Option (Int) := (rows_Key.f k l1).bind fun t146 => ((hash_text.f k a0 t146).bind fun t147 => (some t147))
theorem hash_Row.mono : ∀ a0 a1 k, LeO (hash_Row.f k a0 a1) (hash_Row.f (k + 1) a0 a1) := by
 intro a0 a1 k; unfold hash_Row.f
 repeat' first
   | (with_reducible exact hash_text.mono _ _ _)
   | (with_reducible exact rows_Key.mono _ _)
   | (with_reducible exact LeO.refl _)
   | (with_reducible exact LeO.none _)
   | (with_reducible refine LeO.ite ?_ ?_)
   | (with_reducible refine LeO.bind ?_ (fun _ => ?_))
   | exact hash_text.mono _ _ _
   | exact rows_Key.mono _ _
   | exact LeO.none _
   | refine LeO.ite ?_ ?_
   | refine LeO.bind ?_ (fun _ => ?_)
theorem hash_Row.calls (k : Nat) (a0 : Int) (A1 : Option Addr) (c1 : Nat) (l1 : List (S23)) (r : Int) (w : World) (hr1 : Kd.C k23 w A1 l1.length l1) (hc1 : l1.length ≤ c1) (h : hash_Row.f k a0 l1 = some r) (HT : Aside0 (TabOK w)) :
  Calls Tryd.prog 15 #[.int .i64 a0, .slice A1 l1.length c1] w fun e w' => e = .returned (.int .u64 r) ∧ Below w.heap.size w w' := by
 have HR1 := am_ hr1; have HC1 := am_ hc1; clear hr1 hc1; have HB := am_ (Below.refl w.heap.size w); have H : ((rows_Key.f k l1).bind fun t146 => ((hash_text.f k a0 t146).bind fun t147 => (some t147))) = some r := h; clear h; replace H := Option.bind_eq_some_iff.mp H; obtain ⟨t146, A30, H⟩ := H; replace H : ((hash_text.f k a0 t146).bind fun t147 => (some t147)) = some r := H; have A3 := am_ A30; clear A30; replace H := Option.bind_eq_some_iff.mp H; obtain ⟨t147, A40, H⟩ := H; replace H : (some t147) = some r := H; have A4 := am_ A40; clear A40; obtain rfl := Option.some.inj H
 go_enter Tryd.func15, Tryd.ntmps15
 go_wp2_with (first | ((with_reducible refine gate_callee (f := 64) rfl ?_); refine goesL_ (some 7) rfl rfl Tryd.func64 (by kernel_rfl) rfl #[.slice A1 l1.length c1] rfl (by (try simp only [List.map_toArray, List.map_cons, List.map_nil]); first | done | rfl | (simp only [List.length_drop, List.length_take]; rfl)) ?_; (with_reducible refine (rows_Key.calls k _ _ l1 t146 _ ?side1 ?side2 A3.out (by first | with_reducible exact HT | exact ⟨TabOK.below HT.out (bl_)⟩)).mono ?_); (case side1 => repeat (first | exact HR1.out | (with_reducible refine Kd.C_alloc ?_ _) | (with_reducible refine Kd.C_drewN ?_ _) | (with_reducible refine Kd.C_drew ?_))); (case side2 => exact HC1.out); rintro e w5 ⟨rfl, hb⟩; refine ⟨_, rfl, ?_⟩; replace HB := am_ (below_step (bl_) hb); (try clear hb); (try clear hb2); (try clear hk); (try clear hi)) | ((with_reducible refine gate_callee (f := 60) rfl ?_); refine goesL_ (some 8) rfl rfl Tryd.func60 (by kernel_rfl) rfl #[.int .i64 a0, .string t146] rfl (by (try simp only [List.map_toArray, List.map_cons, List.map_nil]); first | done | rfl | (simp only [List.length_drop, List.length_take]; rfl)) ?_; (with_reducible refine (hash_text.calls k a0 t146 t147 _ A4.out).mono ?_); rintro e w' ⟨rfl, ⟨nd, rfl⟩⟩; refine ⟨_, rfl, ?_⟩))
 go_ret
 exact ⟨ew_, bl_⟩
def hash_Bucket.f (a0 : Int) (a1 : Int) : Option (Int) := if a1 < 1 then (some 0) else (if (IntKind.u64.wrap (a1)) = 0 then (none) else (some (wrap64 (Int.tmod (a0 / 4294967296) (IntKind.u64.wrap (a1))))))
theorem hash_Bucket.calls (a0 : Int) (a1 : Int) (r : Int) (w : World) (h : hash_Bucket.f a0 a1 = some r) :
  Calls Tryd.prog 117 #[.int .u64 a0, .int .i64 a1] w fun e w' => e = .returned (.int .i64 r) ∧ Drawn0 w w' := by
 have H : (if a1 < 1 then (some 0) else (if (IntKind.u64.wrap (a1)) = 0 then (none) else (some (wrap64 (Int.tmod (a0 / 4294967296) (IntKind.u64.wrap (a1))))))) = some r := h; clear h
 by_cases c3 : a1 < 1
 ·rw [if_pos c3] at H
  have c3b0 : decide (a1 < 1) = true := decide_eq_true c3; clear c3; obtain rfl := Option.some.inj H
  go_enter Tryd.func117, Tryd.ntmps117
  go_wp2
  go_ret
  exact ⟨rs_, by repeat (first | exact Drawn0.refl _ | apply Drawn0.step)⟩
 ·rw [if_neg c3] at H
  have c3b0 : decide (a1 < 1) = false := decide_eq_false c3; clear c3
  by_cases c4 : (IntKind.u64.wrap (a1)) = 0
  ·rw [if_pos c4] at H
   exact absurd H (by simp)
  ·rw [if_neg c4] at H
   have c4b0 : ((IntKind.u64.wrap (a1)) == 0) = false := beq_eq_false_iff_ne.mpr c4; have c4b1 : ((IntKind.u64.wrap (a1)) != 0) = true := bne_iff_ne.mpr c4; obtain rfl := Option.some.inj H
   go_enter Tryd.func117, Tryd.ntmps117
   go_wp2
   go_ret
   exact ⟨rs_, by repeat (first | exact Drawn0.refl _ | apply Drawn0.step)⟩
def w34_code.f (a0 : Int) : Option (Int) := some a0
theorem w34_code.calls (a0 : Int) (r : Int) (w : World) (h : w34_code.f a0 = some r) :
  Calls Tryd.prog 38 #[.int .i64 a0] w fun e w' => e = .returned (.int .i64 r) ∧ Drawn0 w w' := by
 have H : (some a0) = some r := h; clear h; obtain rfl := Option.some.inj H
 go_enter Tryd.func38, Tryd.ntmps38
 go_wp2
 go_ret
 exact ⟨rs_, by repeat (first | exact Drawn0.refl _ | apply Drawn0.step)⟩
def r04_SameList.l0 : Nat → List (List (S23)) → List (List (S23)) → Int → Option (Bool)
 | 0, _, _, _ => none
 | k + 1, x0, x1, x5 => if x5 < (x0.length : Int) then (if 0 ≤ x5 then (if x5 < (x1.length : Int) then ((r04_Same.f k (rd_L3 x0 x5) (rd_L3 x1 x5)).bind fun t152 => (if t152 = true then (r04_SameList.l0 k x0 x1 (wrap64 (x5 + 1))) else (some false))) else (none)) else (none)) else (some true)
def r04_SameList.f (k : Nat) (l0 : List (List (S23))) (l1 : List (List (S23))) : Option (Bool) := if (l0.length : Int) = (l1.length : Int) then (r04_SameList.l0 k l0 l1 0) else (some false)
theorem r04_SameList.mono_l : ∀ k, (∀ y0 y1 y2, LeO (r04_SameList.l0 k y0 y1 y2) (r04_SameList.l0 (k + 1) y0 y1 y2))
 | 0 => fun _ _ _ r h => by simp [r04_SameList.l0] at h
 | k + 1 => by
  have ih0 := r04_SameList.mono_l k
  ·intro y0 y1 y2
   unfold r04_SameList.l0
   repeat' first
   | (with_reducible exact ih0 _ _ _)
   | (with_reducible exact r04_Same.mono _ _ _)
   | (with_reducible exact LeO.refl _)
   | (with_reducible exact LeO.none _)
   | (with_reducible refine LeO.ite ?_ ?_)
   | (with_reducible refine LeO.bind ?_ (fun _ => ?_))
   | exact ih0 _ _ _
   | exact r04_Same.mono _ _ _
   | exact LeO.none _
   | refine LeO.ite ?_ ?_
   | refine LeO.bind ?_ (fun _ => ?_)
theorem r04_SameList.mono : ∀ a0 a1 k, LeO (r04_SameList.f k a0 a1) (r04_SameList.f (k + 1) a0 a1) := by
 intro a0 a1 k; have ih0 := r04_SameList.mono_l k; unfold r04_SameList.f
 repeat' first
   | (with_reducible exact ih0 _ _ _)
   | (with_reducible exact r04_Same.mono _ _ _)
   | (with_reducible exact LeO.refl _)
   | (with_reducible exact LeO.none _)
   | (with_reducible refine LeO.ite ?_ ?_)
   | (with_reducible refine LeO.bind ?_ (fun _ => ?_))
   | exact ih0 _ _ _
   | exact r04_Same.mono _ _ _
   | exact LeO.none _
   | refine LeO.ite ?_ ?_
   | refine LeO.bind ?_ (fun _ => ?_)
def r04_SameList.T6 : Bool × List (List Nat × List Nat) := (true, [([], []), ([], []), ([0, 1], [0, 1]), ([2], [2]), ([], []), ([], []), ([4, 5], [4, 5]), ([6], [6]), ([3, 7], [3, 7]), ([8], [8])])
def r04_SameList.B6 : List Nat := [0, 0, 3, 7, 0, 0, 48, 112, 255, 511]
theorem r04_SameList.tab6 : rtab .any (opsOf Tryd.f21 6) = r04_SameList.T6 := by kernel_rfl
theorem r04_SameList.bits6 : waitsOk r04_SameList.T6.2 r04_SameList.B6 = true := by kernel_rfl
theorem r04_SameList.calls (k : Nat) (A0 : Option Addr) (c0 : Nat) (l0 : List (List (S23))) (A1 : Option Addr) (c1 : Nat) (l1 : List (List (S23))) (r : Bool) (w : World) (hr0 : Kd.C (Kd.slice 23 k23) w A0 l0.length l0) (hc0 : l0.length ≤ c0) (hr1 : Kd.C (Kd.slice 23 k23) w A1 l1.length l1) (hc1 : l1.length ≤ c1) (h : r04_SameList.f k l0 l1 = some r) :
  Calls Tryd.prog 21 #[.slice A0 l0.length c0, .slice A1 l1.length c1] w fun e w' => e = .returned (.bool r) ∧ Below w.heap.size w w' := by
 have HR0 := am_ hr0; have HC0 := am_ hc0; clear hr0 hc0; have HR1 := am_ hr1; have HC1 := am_ hc1; clear hr1 hc1; have HB := am_ (Below.refl w.heap.size w); have H : (if (l0.length : Int) = (l1.length : Int) then (r04_SameList.l0 k l0 l1 0) else (some false)) = some r := h; clear h
 by_cases c3 : (l0.length : Int) = (l1.length : Int)
 ·rw [if_pos c3] at H
  have c3b0 : ((l0.length : Int) == (l1.length : Int)) = true := beq_iff_eq.mpr c3; have c3b1 : ((l0.length : Int) != (l1.length : Int)) = false := bne_eq_false_iff_eq.mpr c3
  have c3b2 : (l0.length == l1.length) = true := by first | simpa using c3 | (simp at c3 ⊢; omega)
  clear c3; have H' := am_ H; clear H
  go_enter Tryd.func21, Tryd.ntmps21
  go_wp2
  go_loopg [5] k (fun kq v5 w' => ∃ (x5_1 : Int), v5 = .int .i64 x5_1 ∧ Aside0 (r04_SameList.l0 kq l0 l1 x5_1 = some r) ∧ Aside0 (kq ≤ k) ∧ Aside0 (Below w.heap.size w w'))
  case atStart => exact ⟨(0), (rs_), H', ⟨Nat.le_refl _⟩, ⟨bl_⟩⟩
  case round =>
   clear H'; (try clear c1); (try clear c2); (try clear p2); (try clear c3); (try clear c3b0); (try clear c3b1); (try clear c3b2); obtain ⟨x5_1, rfl, HA, HK1, HB⟩ := hrel
   cases gk with
   | zero => exact absurd HA.out (by simp [r04_SameList.l0])
   | succ k1 =>
    have H := HA.out; clear HA; simp only [r04_SameList.l0] at H
    by_cases c4 : x5_1 < (l0.length : Int)
    ·rw [if_pos c4] at H
     have c4b0 : decide (x5_1 < (l0.length : Int)) = true := decide_eq_true c4; clear c4
     by_cases c5 : 0 ≤ x5_1
     ·rw [if_pos c5] at H
      have c5b0 : decide (0 ≤ x5_1) = true := decide_eq_true c5; clear c5
      by_cases c6 : x5_1 < (l1.length : Int)
      ·rw [if_pos c6] at H
       have c6b0 : decide (x5_1 < (l1.length : Int)) = true := decide_eq_true c6; clear c6; replace H := Option.bind_eq_some_iff.mp H; obtain ⟨t152, A70, H⟩ := H; replace H : (if t152 = true then (r04_SameList.l0 k1 l0 l1 (wrap64 (x5_1 + 1))) else (some false)) = some r := H; have A7 := am_ A70; clear A70
       by_cases c8 : t152 = true
       ·subst c8
        have H1 : (r04_SameList.l0 k1 l0 l1 (wrap64 (x5_1 + 1))) = some r := by rw [if_pos rfl] at H; exact H
        clear H; have H := H1; clear H1; have H' := am_ H; clear H
        try go_wp2
        have n0_ := am_ (below_drew1 HB.out); clear HB; have HB := n0_; clear n0_; have p150 : 0 ≤ (x5_1 : Int) := of_decide_eq_true (as_); have q150 : x5_1 < (l0.length : Int) := of_decide_eq_true (as_); obtain ⟨ad150, A150_0, c150_0, e150, hx150_0, hl150_0, hi150_0⟩ := at_L3 HR0.out x5_1 p150 q150; have hw150_0 := hx150_0; cases e150; replace hx150_0 := (HB.out.cell (World.block_lt_of_cell? w _ hx150_0)).trans hx150_0; have HR150_0 := am_ hi150_0; have HC150_0 := am_ hl150_0; clear hi150_0 hl150_0; replace p150 := eq_true p150; replace q150 := eq_true q150; have p151 : 0 ≤ (x5_1 : Int) := of_decide_eq_true (as_); have q151 : x5_1 < (l1.length : Int) := of_decide_eq_true (as_); obtain ⟨ad151, A151_0, c151_0, e151, hx151_0, hl151_0, hi151_0⟩ := at_L3 HR1.out x5_1 p151 q151; have hw151_0 := hx151_0; cases e151; replace hx151_0 := (HB.out.cell (World.block_lt_of_cell? w _ hx151_0)).trans hx151_0; have HR151_0 := am_ hi151_0; have HC151_0 := am_ hl151_0; clear hi151_0 hl151_0; replace p151 := eq_true p151; replace q151 := eq_true q151
        refine start_ (n := 10) (S := fun w' => w'.cell? (ad150.add (x5_1).toNat) = some (.slice A150_0 (rd_L3 l0 x5_1).length c150_0) ∧ w'.cell? (ad151.add (x5_1).toNat) = some (.slice A151_0 (rd_L3 l1 x5_1).length c151_0)) (ds := []) #[false, false, false, false, false, false, false, false, false, false] (by kernel_rfl) rfl rfl ⟨((HB.out.cell (World.block_lt_of_cell? w _ hw150_0)).trans hw150_0), ((HB.out.cell (World.block_lt_of_cell? w _ hw151_0)).trans hw151_0)⟩ (fun hHeld => ?_); refine with_tabW r04_SameList.tab6 r04_SameList.bits6 (fun HT_ HW_ => ?_)
        generalize wr.drew = w9 at HB HR150_0 HR151_0 hx150_0 hx151_0 hHeld ⊢
        refine pure_ (i := 0) (N := some 17) (v := ?_) (a' := ?_) #[true, false, false, false, false, false, false, false, false, false] rfl rfl (any_of HT_.out (by kernel_rfl)) (fun _ _ _ h => h) (Or.inl ⟨by rfl, ?_⟩) ?_ ?_; rotate_left
        ·intro w'
         go_simp; (with_reducible rfl)
        rotate_left
        ·simp only [Act.put, sa_, sz_, ss_, i64_w, i32_w]
         rfl
        refine pure_ (i := 1) (N := some 18) (v := ?_) (a' := ?_) #[true, true, false, false, false, false, false, false, false, false] rfl rfl (any_of HT_.out (by kernel_rfl)) (fun _ _ _ h => h) (Or.inl ⟨by rfl, ?_⟩) ?_ ?_; rotate_left
        ·intro w'
         go_simp; (with_reducible rfl)
        rotate_left
        ·simp only [Act.put, sa_, sz_, ss_, i64_w, i32_w]
         rfl
        refine pure_ (i := 2) (N := some 19) (v := ?_) (a' := ?_) #[true, true, true, false, false, false, false, false, false, false] rfl rfl (any_of HT_.out (by kernel_rfl)) (fun _ _ _ h => h) (Or.inl ⟨by rfl, ?_⟩) ?_ ?_; rotate_left
        ·intro w'
         go_simp; (with_reducible rfl)
        rotate_left
        ·simp only [Act.put, sa_, sz_, ss_, i64_w, i32_w]
         rfl
        refine pure_ (i := 4) (N := some 21) (v := ?_) (a' := ?_) #[true, true, true, false, true, false, false, false, false, false] rfl rfl (any_of HT_.out (by kernel_rfl)) (fun _ _ _ h => h) (Or.inl ⟨by rfl, ?_⟩) ?_ ?_; rotate_left
        ·intro w'
         go_simp; (with_reducible rfl)
        rotate_left
        ·simp only [Act.put, sa_, sz_, ss_, i64_w, i32_w]
         rfl
        refine pure_ (i := 5) (N := some 22) (v := ?_) (a' := ?_) #[true, true, true, false, true, true, false, false, false, false] rfl rfl (any_of HT_.out (by kernel_rfl)) (fun _ _ _ h => h) (Or.inl ⟨by rfl, ?_⟩) ?_ ?_; rotate_left
        ·intro w'
         go_simp; (with_reducible rfl)
        rotate_left
        ·simp only [Act.put, sa_, sz_, ss_, i64_w, i32_w]
         rfl
        refine pure_ (i := 6) (N := some 23) (v := ?_) (a' := ?_) #[true, true, true, false, true, true, true, false, false, false] rfl rfl (any_of HT_.out (by kernel_rfl)) (fun _ _ _ h => h) (Or.inl ⟨by rfl, ?_⟩) ?_ ?_; rotate_left
        ·intro w'
         go_simp; (with_reducible rfl)
        rotate_left
        ·simp only [Act.put, sa_, sz_, ss_, i64_w, i32_w]
         rfl
        refine take_ (i := 3) (N := some 20) (v := ?_) (a' := ?_) #[true, true, true, true, true, true, true, false, false, false] rfl rfl (take_ofW HT_.out HW_.out (by kernel_rfl)) (fun _ _ _ h => h) (Or.inl ⟨by rfl, ?_⟩) hHeld ?_ ?_; rotate_left
        ·rintro w' ⟨s0, s1⟩
         go_simp; (with_reducible rfl)
        rotate_left
        ·simp only [Act.put, sa_, sz_, ss_, i64_w, i32_w]
         rfl
        refine take_ (i := 7) (N := some 24) (v := ?_) (a' := ?_) #[true, true, true, true, true, true, true, true, false, false] rfl rfl (take_ofW HT_.out HW_.out (by kernel_rfl)) (fun _ _ _ h => h) (Or.inl ⟨by rfl, ?_⟩) hHeld ?_ ?_; rotate_left
        ·rintro w' ⟨s0, s1⟩
         go_simp; (with_reducible rfl)
        rotate_left
        ·simp only [Act.put, sa_, sz_, ss_, i64_w, i32_w]
         rfl
        refine one_ (i := 8) (N := some 25) #[true, true, true, true, true, true, true, true, true, false] rfl rfl (one_of HT_.out (by kernel_rfl)) (by decide) (fun K hK => ?_); refine goes_ Tryd.func26 (by kernel_rfl) rfl #[.slice A150_0 (rd_L3 l0 x5_1).length c150_0, .slice A151_0 (rd_L3 l1 x5_1).length c151_0] (by rfl) rfl rfl (by (try simp only [List.map_toArray, List.map_cons, List.map_nil]); first | done | rfl | (simp only [List.length_drop, List.length_take]; rfl)) ?_; (with_reducible refine (r04_Same.calls k1 _ _ (rd_L3 l0 x5_1) _ _ (rd_L3 l1 x5_1) true _ ?side1 ?side2 ?side3 ?side4 A7.out).mono ?_); (case side1 => repeat (first | exact (Kd.C_below HR150_0.out HB.out) | (with_reducible refine Kd.C_alloc ?_ _) | (with_reducible refine Kd.C_drewN ?_ _) | (with_reducible refine Kd.C_drew ?_))); (case side2 => exact HC150_0.out); (case side3 => repeat (first | exact (Kd.C_below HR151_0.out HB.out) | (with_reducible refine Kd.C_alloc ?_ _) | (with_reducible refine Kd.C_drewN ?_ _) | (with_reducible refine Kd.C_drew ?_))); (case side4 => exact HC151_0.out); rintro e w10 ⟨rfl, hb⟩; refine ⟨_, rfl, ?_⟩; have n0_ := am_ (below_step (bl_) hb); clear HB; have HB := n0_; clear n0_; (try clear hb); (try clear hb2); (try clear hk); (try clear hi); refine hK.out _ _ ⟨((HB.out.cell (World.block_lt_of_cell? w _ hw150_0)).trans hw150_0), ((HB.out.cell (World.block_lt_of_cell? w _ hw151_0)).trans hw151_0)⟩ (fun hHeld => ?_); clear hK K; refine norm_ (a' := ?_) ?_ ?_; rotate_left
        ·show Act.put _ (some 25) _ = _
         simp only [Act.put, sa_, sz_, ss_, i64_w, i32_w]; rfl
        refine pure_ (i := 9) (N := some 26) (v := ?_) (a' := ?_) #[true, true, true, true, true, true, true, true, true, true] rfl rfl (any_of HT_.out (by kernel_rfl)) (fun _ _ _ h => h) (Or.inl ⟨by rfl, ?_⟩) ?_ ?_; rotate_left
        ·intro w'
         go_simp; (with_reducible rfl)
        rotate_left
        ·simp only [Act.put, sa_, sz_, ss_, i64_w, i32_w]
         rfl
        refine done_ (done_of HT_.out (by kernel_rfl)) ?_
        try go_wp2
        go_roundg k1
        case measure => have := HK1.out; omega
        case rel => exact ⟨(wrap64 (x5_1 + 1)), (rs_), H', ⟨by have := HK1.out; omega⟩, ⟨bl_⟩⟩
       ·replace c8 := Bool.eq_false_iff.mpr c8
        subst c8
        have H1 : (some false) = some r := by rw [if_neg (show ¬ (false = true) by decide)] at H; exact H
        clear H; have H := H1; clear H1; obtain rfl := Option.some.inj H
        try go_wp2
        have n0_ := am_ (below_drew1 HB.out); clear HB; have HB := n0_; clear n0_; have p150 : 0 ≤ (x5_1 : Int) := of_decide_eq_true (as_); have q150 : x5_1 < (l0.length : Int) := of_decide_eq_true (as_); obtain ⟨ad150, A150_0, c150_0, e150, hx150_0, hl150_0, hi150_0⟩ := at_L3 HR0.out x5_1 p150 q150; have hw150_0 := hx150_0; cases e150; replace hx150_0 := (HB.out.cell (World.block_lt_of_cell? w _ hx150_0)).trans hx150_0; have HR150_0 := am_ hi150_0; have HC150_0 := am_ hl150_0; clear hi150_0 hl150_0; replace p150 := eq_true p150; replace q150 := eq_true q150; have p151 : 0 ≤ (x5_1 : Int) := of_decide_eq_true (as_); have q151 : x5_1 < (l1.length : Int) := of_decide_eq_true (as_); obtain ⟨ad151, A151_0, c151_0, e151, hx151_0, hl151_0, hi151_0⟩ := at_L3 HR1.out x5_1 p151 q151; have hw151_0 := hx151_0; cases e151; replace hx151_0 := (HB.out.cell (World.block_lt_of_cell? w _ hx151_0)).trans hx151_0; have HR151_0 := am_ hi151_0; have HC151_0 := am_ hl151_0; clear hi151_0 hl151_0; replace p151 := eq_true p151; replace q151 := eq_true q151
        refine start_ (n := 10) (S := fun w' => w'.cell? (ad150.add (x5_1).toNat) = some (.slice A150_0 (rd_L3 l0 x5_1).length c150_0) ∧ w'.cell? (ad151.add (x5_1).toNat) = some (.slice A151_0 (rd_L3 l1 x5_1).length c151_0)) (ds := []) #[false, false, false, false, false, false, false, false, false, false] (by kernel_rfl) rfl rfl ⟨((HB.out.cell (World.block_lt_of_cell? w _ hw150_0)).trans hw150_0), ((HB.out.cell (World.block_lt_of_cell? w _ hw151_0)).trans hw151_0)⟩ (fun hHeld => ?_); refine with_tabW r04_SameList.tab6 r04_SameList.bits6 (fun HT_ HW_ => ?_)
        generalize wr.drew = w11 at HB HR150_0 HR151_0 hx150_0 hx151_0 hHeld ⊢
        refine pure_ (i := 0) (N := some 17) (v := ?_) (a' := ?_) #[true, false, false, false, false, false, false, false, false, false] rfl rfl (any_of HT_.out (by kernel_rfl)) (fun _ _ _ h => h) (Or.inl ⟨by rfl, ?_⟩) ?_ ?_; rotate_left
        ·intro w'
         go_simp; (with_reducible rfl)
        rotate_left
        ·simp only [Act.put, sa_, sz_, ss_, i64_w, i32_w]
         rfl
        refine pure_ (i := 1) (N := some 18) (v := ?_) (a' := ?_) #[true, true, false, false, false, false, false, false, false, false] rfl rfl (any_of HT_.out (by kernel_rfl)) (fun _ _ _ h => h) (Or.inl ⟨by rfl, ?_⟩) ?_ ?_; rotate_left
        ·intro w'
         go_simp; (with_reducible rfl)
        rotate_left
        ·simp only [Act.put, sa_, sz_, ss_, i64_w, i32_w]
         rfl
        refine pure_ (i := 2) (N := some 19) (v := ?_) (a' := ?_) #[true, true, true, false, false, false, false, false, false, false] rfl rfl (any_of HT_.out (by kernel_rfl)) (fun _ _ _ h => h) (Or.inl ⟨by rfl, ?_⟩) ?_ ?_; rotate_left
        ·intro w'
         go_simp; (with_reducible rfl)
        rotate_left
        ·simp only [Act.put, sa_, sz_, ss_, i64_w, i32_w]
         rfl
        refine pure_ (i := 4) (N := some 21) (v := ?_) (a' := ?_) #[true, true, true, false, true, false, false, false, false, false] rfl rfl (any_of HT_.out (by kernel_rfl)) (fun _ _ _ h => h) (Or.inl ⟨by rfl, ?_⟩) ?_ ?_; rotate_left
        ·intro w'
         go_simp; (with_reducible rfl)
        rotate_left
        ·simp only [Act.put, sa_, sz_, ss_, i64_w, i32_w]
         rfl
        refine pure_ (i := 5) (N := some 22) (v := ?_) (a' := ?_) #[true, true, true, false, true, true, false, false, false, false] rfl rfl (any_of HT_.out (by kernel_rfl)) (fun _ _ _ h => h) (Or.inl ⟨by rfl, ?_⟩) ?_ ?_; rotate_left
        ·intro w'
         go_simp; (with_reducible rfl)
        rotate_left
        ·simp only [Act.put, sa_, sz_, ss_, i64_w, i32_w]
         rfl
        refine pure_ (i := 6) (N := some 23) (v := ?_) (a' := ?_) #[true, true, true, false, true, true, true, false, false, false] rfl rfl (any_of HT_.out (by kernel_rfl)) (fun _ _ _ h => h) (Or.inl ⟨by rfl, ?_⟩) ?_ ?_; rotate_left
        ·intro w'
         go_simp; (with_reducible rfl)
        rotate_left
        ·simp only [Act.put, sa_, sz_, ss_, i64_w, i32_w]
         rfl
        refine take_ (i := 3) (N := some 20) (v := ?_) (a' := ?_) #[true, true, true, true, true, true, true, false, false, false] rfl rfl (take_ofW HT_.out HW_.out (by kernel_rfl)) (fun _ _ _ h => h) (Or.inl ⟨by rfl, ?_⟩) hHeld ?_ ?_; rotate_left
        ·rintro w' ⟨s0, s1⟩
         go_simp; (with_reducible rfl)
        rotate_left
        ·simp only [Act.put, sa_, sz_, ss_, i64_w, i32_w]
         rfl
        refine take_ (i := 7) (N := some 24) (v := ?_) (a' := ?_) #[true, true, true, true, true, true, true, true, false, false] rfl rfl (take_ofW HT_.out HW_.out (by kernel_rfl)) (fun _ _ _ h => h) (Or.inl ⟨by rfl, ?_⟩) hHeld ?_ ?_; rotate_left
        ·rintro w' ⟨s0, s1⟩
         go_simp; (with_reducible rfl)
        rotate_left
        ·simp only [Act.put, sa_, sz_, ss_, i64_w, i32_w]
         rfl
        refine one_ (i := 8) (N := some 25) #[true, true, true, true, true, true, true, true, true, false] rfl rfl (one_of HT_.out (by kernel_rfl)) (by decide) (fun K hK => ?_); refine goes_ Tryd.func26 (by kernel_rfl) rfl #[.slice A150_0 (rd_L3 l0 x5_1).length c150_0, .slice A151_0 (rd_L3 l1 x5_1).length c151_0] (by rfl) rfl rfl (by (try simp only [List.map_toArray, List.map_cons, List.map_nil]); first | done | rfl | (simp only [List.length_drop, List.length_take]; rfl)) ?_; (with_reducible refine (r04_Same.calls k1 _ _ (rd_L3 l0 x5_1) _ _ (rd_L3 l1 x5_1) false _ ?side1 ?side2 ?side3 ?side4 A7.out).mono ?_); (case side1 => repeat (first | exact (Kd.C_below HR150_0.out HB.out) | (with_reducible refine Kd.C_alloc ?_ _) | (with_reducible refine Kd.C_drewN ?_ _) | (with_reducible refine Kd.C_drew ?_))); (case side2 => exact HC150_0.out); (case side3 => repeat (first | exact (Kd.C_below HR151_0.out HB.out) | (with_reducible refine Kd.C_alloc ?_ _) | (with_reducible refine Kd.C_drewN ?_ _) | (with_reducible refine Kd.C_drew ?_))); (case side4 => exact HC151_0.out); rintro e w12 ⟨rfl, hb⟩; refine ⟨_, rfl, ?_⟩; have n0_ := am_ (below_step (bl_) hb); clear HB; have HB := n0_; clear n0_; (try clear hb); (try clear hb2); (try clear hk); (try clear hi); refine hK.out _ _ ⟨((HB.out.cell (World.block_lt_of_cell? w _ hw150_0)).trans hw150_0), ((HB.out.cell (World.block_lt_of_cell? w _ hw151_0)).trans hw151_0)⟩ (fun hHeld => ?_); clear hK K; refine norm_ (a' := ?_) ?_ ?_; rotate_left
        ·show Act.put _ (some 25) _ = _
         simp only [Act.put, sa_, sz_, ss_, i64_w, i32_w]; rfl
        refine pure_ (i := 9) (N := some 26) (v := ?_) (a' := ?_) #[true, true, true, true, true, true, true, true, true, true] rfl rfl (any_of HT_.out (by kernel_rfl)) (fun _ _ _ h => h) (Or.inl ⟨by rfl, ?_⟩) ?_ ?_; rotate_left
        ·intro w'
         go_simp; (with_reducible rfl)
        rotate_left
        ·simp only [Act.put, sa_, sz_, ss_, i64_w, i32_w]
         rfl
        refine done_ (done_of HT_.out (by kernel_rfl)) ?_
        try go_wp2
        go_ret
        exact ⟨ew_, bl_⟩
      ·rw [if_neg c6] at H
       exact absurd H (by simp)
     ·rw [if_neg c5] at H
      exact absurd H (by simp)
    ·rw [if_neg c4] at H
     have c4b0 : decide (x5_1 < (l0.length : Int)) = false := decide_eq_false c4; clear c4; obtain rfl := Option.some.inj H
     go_wp2
     go_ret
     exact ⟨ew_, bl_⟩
 ·rw [if_neg c3] at H
  have c3b0 : ((l0.length : Int) == (l1.length : Int)) = false := beq_eq_false_iff_ne.mpr c3; have c3b1 : ((l0.length : Int) != (l1.length : Int)) = true := bne_iff_ne.mpr c3
  have c3b2 : (l0.length == l1.length) = false := by first | simpa using c3 | (simp at c3 ⊢; omega)
  obtain rfl := Option.some.inj H
  go_enter Tryd.func21, Tryd.ntmps21
  go_wp2
  go_ret
  exact ⟨ew_, bl_⟩
def r01_ints.f (a0 : Int) (a1 : Int) : Option (Int) := if a0 < a1 then (some (-1)) else (if a0 > a1 then (some 1) else (some 0))
theorem r01_ints.calls (a0 : Int) (a1 : Int) (r : Int) (w : World) (h : r01_ints.f a0 a1 = some r) :
  Calls Tryd.prog 150 #[.int .i64 a0, .int .i64 a1] w fun e w' => e = .returned (.int .i64 r) ∧ Drawn0 w w' := by
 have H : (if a0 < a1 then (some (-1)) else (if a0 > a1 then (some 1) else (some 0))) = some r := h; clear h
 by_cases c3 : a0 < a1
 ·rw [if_pos c3] at H
  have c3b0 : decide (a0 < a1) = true := decide_eq_true c3; clear c3; obtain rfl := Option.some.inj H
  go_enter Tryd.func150, Tryd.ntmps150
  go_wp2
  go_ret
  exact ⟨rs_, by repeat (first | exact Drawn0.refl _ | apply Drawn0.step)⟩
 ·rw [if_neg c3] at H
  have c3b0 : decide (a0 < a1) = false := decide_eq_false c3; clear c3
  by_cases c4 : a0 > a1
  ·rw [if_pos c4] at H
   have c4b0 : decide (a1 < a0) = true := decide_eq_true c4; clear c4; obtain rfl := Option.some.inj H
   go_enter Tryd.func150, Tryd.ntmps150
   go_wp2
   go_ret
   exact ⟨rs_, by repeat (first | exact Drawn0.refl _ | apply Drawn0.step)⟩
  ·rw [if_neg c4] at H
   have c4b0 : decide (a1 < a0) = false := decide_eq_false c4; clear c4; obtain rfl := Option.some.inj H
   go_enter Tryd.func150, Tryd.ntmps150
   go_wp2
   go_ret
   exact ⟨rs_, by repeat (first | exact Drawn0.refl _ | apply Drawn0.step)⟩
end Go.Proofs.YtcfgjaggccnoaaaDoor.PTableSteps
namespace Go.Proofs.YtcfgjaggccnoaaaDoor.PTableSteps
open Go.RowKit Go.Proofs.YtcfgjaggccnoaaaDoorW.PrintWords Go.Proofs.YtcfgjaggccnoaaaDoorW.PrintLast Go.Proofs.YtcfgjaggccnoaaaDoorW.PrintMore
attribute [local go_sem] max2_int min2_int max_two min_two max_three min_three max_four min_four
set_option linter.unusedVariables false
set_option maxHeartbeats 8000000
set_option linter.unusedSimpArgs false
set_option maxRecDepth 100000
mutual
def r01_Texts.l0 : Nat → ByteArray → ByteArray → Int → Option (Int)
 | 0, _, _, _ => none
 | k + 1, x0, x1, x5 => if x5 < (x0.size : Int) then (r01_Texts.j1 k x0 x1 x5 (decide (x5 < (x1.size : Int)))) else (r01_Texts.j1 k x0 x1 x5 false)
def r01_Texts.j1 : Nat → ByteArray → ByteArray → Int → Bool → Option (Int)
 | 0, _, _, _, _ => none
 | k + 1, x0, x1, x5, x15 => if x15 = true then (if 0 ≤ x5 then (if x5 < (x0.size : Int) then (if x5 < (x1.size : Int) then (if (bt x0 x5) = (bt x1 x5) then (r01_Texts.l0 k x0 x1 (wrap64 (x5 + 1))) else (if (bt x0 x5) < (bt x1 x5) then (some (-1)) else (some 1))) else (none)) else (none)) else (none)) else (if (x0.size : Int) < (x1.size : Int) then (some (-1)) else (if (x0.size : Int) > (x1.size : Int) then (some 1) else (some 0)))
end
def r01_Texts.f (k : Nat) (a0 : ByteArray) (a1 : ByteArray) : Option (Int) := r01_Texts.l0 k a0 a1 0
theorem r01_Texts.mono_l : ∀ k, (∀ y0 y1 y2, LeO (r01_Texts.l0 k y0 y1 y2) (r01_Texts.l0 (k + 1) y0 y1 y2)) ∧ (∀ y0 y1 y2 y3, LeO (r01_Texts.j1 k y0 y1 y2 y3) (r01_Texts.j1 (k + 1) y0 y1 y2 y3))
 | 0 => ⟨fun _ _ _ r h => by simp [r01_Texts.l0] at h, fun _ _ _ _ r h => by simp [r01_Texts.j1] at h⟩
 | k + 1 => by
  obtain ⟨ih0, ih1⟩ := r01_Texts.mono_l k; refine ⟨?_, ?_⟩
  ·intro y0 y1 y2
   unfold r01_Texts.l0
   repeat' first
   | (with_reducible exact ih0 _ _ _)
   | (with_reducible exact ih1 _ _ _ _)
   | (with_reducible exact LeO.refl _)
   | (with_reducible exact LeO.none _)
   | (with_reducible refine LeO.ite ?_ ?_)
   | (with_reducible refine LeO.bind ?_ (fun _ => ?_))
   | exact ih0 _ _ _
   | exact ih1 _ _ _ _
   | exact LeO.none _
   | refine LeO.ite ?_ ?_
   | refine LeO.bind ?_ (fun _ => ?_)
  ·intro y0 y1 y2 y3
   unfold r01_Texts.j1
   repeat' first
   | (with_reducible exact ih0 _ _ _)
   | (with_reducible exact ih1 _ _ _ _)
   | (with_reducible exact LeO.refl _)
   | (with_reducible exact LeO.none _)
   | (with_reducible refine LeO.ite ?_ ?_)
   | (with_reducible refine LeO.bind ?_ (fun _ => ?_))
   | exact ih0 _ _ _
   | exact ih1 _ _ _ _
   | exact LeO.none _
   | refine LeO.ite ?_ ?_
   | refine LeO.bind ?_ (fun _ => ?_)
theorem r01_Texts.mono : ∀ a0 a1 k, LeO (r01_Texts.f k a0 a1) (r01_Texts.f (k + 1) a0 a1) := by
 intro a0 a1 k; obtain ⟨ih0, ih1⟩ := r01_Texts.mono_l k; unfold r01_Texts.f
 repeat' first
   | (with_reducible exact ih0 _ _ _)
   | (with_reducible exact ih1 _ _ _ _)
   | (with_reducible exact LeO.refl _)
   | (with_reducible exact LeO.none _)
   | (with_reducible refine LeO.ite ?_ ?_)
   | (with_reducible refine LeO.bind ?_ (fun _ => ?_))
   | exact ih0 _ _ _
   | exact ih1 _ _ _ _
   | exact LeO.none _
   | refine LeO.ite ?_ ?_
   | refine LeO.bind ?_ (fun _ => ?_)
theorem r01_Texts.calls (k : Nat) (a0 : ByteArray) (a1 : ByteArray) (r : Int) (w : World) (h : r01_Texts.f k a0 a1 = some r) :
  Calls Tryd.prog 151 #[.string a0, .string a1] w fun e w' => e = .returned (.int .i64 r) ∧ Drawn0 w w' := by
 have H : (r01_Texts.l0 k a0 a1 0) = some r := h; clear h; have H' := am_ H; clear H
 go_enter Tryd.func151, Tryd.ntmps151
 go_wp2
 repeat (go_quiet (fail); try go_wp2)
 go_loopg [5] k (fun kq v5 w' => ∃ (x5_1 : Int), v5 = .int .i64 x5_1 ∧ Aside0 (r01_Texts.l0 kq a0 a1 x5_1 = some r) ∧ Aside0 (kq ≤ k) ∧ Drawn0 w w')
 case atStart => exact ⟨(0), (rs_), H', ⟨Nat.le_refl _⟩, by repeat (first | exact Drawn0.refl _ | apply Drawn0.step)⟩
 case round =>
  clear H'; (try clear c1); (try clear p2); obtain ⟨x5_1, rfl, HA, HK1, ⟨m1, rfl⟩⟩ := hrel
  cases gk with
  | zero => exact absurd HA.out (by simp [r01_Texts.l0])
  | succ k1 =>
   have H := HA.out; clear HA; simp only [r01_Texts.l0] at H; have HC3 := am_ H; clear H
   go_upto_region 2 with (fail)
   repeat (go_quiet (fail); go_upto_region 2 with (fail))
   go_cut [15] (fun v15 wc => ∃ (kq : Nat) (x15_2 : Bool), v15 = .bool x15_2 ∧ Aside0 (r01_Texts.j1 kq a0 a1 x5_1 x15_2 = some r) ∧ Aside0 (kq ≤ k1) ∧ Drawn0 w wc)
   case first =>
    have H := HC3.out; clear HC3
    by_cases c4 : x5_1 < (a0.size : Int)
    ·rw [if_pos c4] at H
     have c4b0 : decide (x5_1 < (a0.size : Int)) = true := decide_eq_true c4; clear c4; (first | rw [c4b0] | (simp only [i64_w, i32_w]; rw [c4b0]) | skip); have H' := am_ H; clear H
     go_wp2
     repeat (go_quiet (fail); try go_wp2)
     go_meet
     case rel => exact ⟨_, (decide (x5_1 < (a1.size : Int))), (rs_), H', ⟨by have := HK1.out; first | omega | exact Nat.le_refl _⟩, by repeat (first | exact Drawn0.refl _ | apply Drawn0.step)⟩
    ·rw [if_neg c4] at H
     have c4b0 : decide (x5_1 < (a0.size : Int)) = false := decide_eq_false c4; clear c4; (first | rw [c4b0] | (simp only [i64_w, i32_w]; rw [c4b0]) | skip); have H' := am_ H; clear H
     go_wp2
     repeat (go_quiet (fail); try go_wp2)
     go_meet
     case rel => exact ⟨_, (false), (rs_), H', ⟨by have := HK1.out; first | omega | exact Nat.le_refl _⟩, by repeat (first | exact Drawn0.refl _ | apply Drawn0.step)⟩
   case rest =>
    clear HC3; (try clear c1); (try clear p2); (try clear c4); (try clear c4b0); (try clear p2); obtain ⟨kq, x15_2, rfl, HA, HJ2, ⟨mc2, rfl⟩⟩ := hcut
    cases kq with
    | zero => exact absurd HA.out (by simp [r01_Texts.j1])
    | succ kj2 =>
     have H := HA.out; clear HA; simp only [r01_Texts.j1] at H
     by_cases c5 : x15_2 = true
     ·subst c5
      have H1 : (if 0 ≤ x5_1 then (if x5_1 < (a0.size : Int) then (if x5_1 < (a1.size : Int) then (if (bt a0 x5_1) = (bt a1 x5_1) then (r01_Texts.l0 kj2 a0 a1 (wrap64 (x5_1 + 1))) else (if (bt a0 x5_1) < (bt a1 x5_1) then (some (-1)) else (some 1))) else (none)) else (none)) else (none)) = some r := by rw [if_pos rfl] at H; exact H
      clear H; have H := H1; clear H1
      by_cases c6 : 0 ≤ x5_1
      ·rw [if_pos c6] at H
       have c6b0 : decide (0 ≤ x5_1) = true := decide_eq_true c6; clear c6
       by_cases c7 : x5_1 < (a0.size : Int)
       ·rw [if_pos c7] at H
        have c7b0 : decide (x5_1 < (a0.size : Int)) = true := decide_eq_true c7; clear c7
        by_cases c9 : x5_1 < (a1.size : Int)
        ·rw [if_pos c9] at H
         have c9b0 : decide (x5_1 < (a1.size : Int)) = true := decide_eq_true c9; clear c9
         by_cases c11 : (bt a0 x5_1) = (bt a1 x5_1)
         ·rw [if_pos c11] at H
          have c11b0 : ((bt a0 x5_1) == (bt a1 x5_1)) = true := beq_iff_eq.mpr c11; have c11b1 : ((bt a0 x5_1) != (bt a1 x5_1)) = false := bne_eq_false_iff_eq.mpr c11; clear c11; have H' := am_ H; clear H; have p8 : 0 ≤ (x5_1 : Int) := of_decide_eq_true (as_); have q8 : x5_1 < (a0.size : Int) := of_decide_eq_true (as_); have hx8 := bt_at a0 x5_1; replace p8 := eq_true p8; replace q8 := eq_true q8; have p10 : 0 ≤ (x5_1 : Int) := of_decide_eq_true (as_); have q10 : x5_1 < (a1.size : Int) := of_decide_eq_true (as_); have hx10 := bt_at a1 x5_1; replace p10 := eq_true p10; replace q10 := eq_true q10
          go_wp2
          repeat (go_quiet (fail); try go_wp2)
          go_roundg kj2
          case measure => have := HK1.out; have := HJ2.out; omega
          case rel => exact ⟨(wrap64 (x5_1 + 1)), (rs_), H', ⟨by have := HK1.out; have := HJ2.out; omega⟩, by repeat (first | exact Drawn0.refl _ | apply Drawn0.step)⟩
         ·rw [if_neg c11] at H
          have c11b0 : ((bt a0 x5_1) == (bt a1 x5_1)) = false := beq_eq_false_iff_ne.mpr c11; have c11b1 : ((bt a0 x5_1) != (bt a1 x5_1)) = true := bne_iff_ne.mpr c11
          by_cases c14 : (bt a0 x5_1) < (bt a1 x5_1)
          ·rw [if_pos c14] at H
           have c14b0 : decide ((bt a0 x5_1) < (bt a1 x5_1)) = true := decide_eq_true c14; clear c14; obtain rfl := Option.some.inj H; have p8 : 0 ≤ (x5_1 : Int) := of_decide_eq_true (as_); have q8 : x5_1 < (a0.size : Int) := of_decide_eq_true (as_); have hx8 := bt_at a0 x5_1; replace p8 := eq_true p8; replace q8 := eq_true q8; have p10 : 0 ≤ (x5_1 : Int) := of_decide_eq_true (as_); have q10 : x5_1 < (a1.size : Int) := of_decide_eq_true (as_); have hx10 := bt_at a1 x5_1; replace p10 := eq_true p10; replace q10 := eq_true q10; have p12 : 0 ≤ (x5_1 : Int) := of_decide_eq_true (as_); have q12 : x5_1 < (a0.size : Int) := of_decide_eq_true (as_); have hx12 := bt_at a0 x5_1; replace p12 := eq_true p12; replace q12 := eq_true q12; have p13 : 0 ≤ (x5_1 : Int) := of_decide_eq_true (as_); have q13 : x5_1 < (a1.size : Int) := of_decide_eq_true (as_); have hx13 := bt_at a1 x5_1; replace p13 := eq_true p13; replace q13 := eq_true q13
           go_wp2
           repeat (go_quiet (fail); try go_wp2)
           go_ret
           exact ⟨rs_, by repeat (first | exact Drawn0.refl _ | apply Drawn0.step)⟩
          ·rw [if_neg c14] at H
           have c14b0 : decide ((bt a0 x5_1) < (bt a1 x5_1)) = false := decide_eq_false c14; clear c14; obtain rfl := Option.some.inj H; have p8 : 0 ≤ (x5_1 : Int) := of_decide_eq_true (as_); have q8 : x5_1 < (a0.size : Int) := of_decide_eq_true (as_); have hx8 := bt_at a0 x5_1; replace p8 := eq_true p8; replace q8 := eq_true q8; have p10 : 0 ≤ (x5_1 : Int) := of_decide_eq_true (as_); have q10 : x5_1 < (a1.size : Int) := of_decide_eq_true (as_); have hx10 := bt_at a1 x5_1; replace p10 := eq_true p10; replace q10 := eq_true q10; have p12 : 0 ≤ (x5_1 : Int) := of_decide_eq_true (as_); have q12 : x5_1 < (a0.size : Int) := of_decide_eq_true (as_); have hx12 := bt_at a0 x5_1; replace p12 := eq_true p12; replace q12 := eq_true q12; have p13 : 0 ≤ (x5_1 : Int) := of_decide_eq_true (as_); have q13 : x5_1 < (a1.size : Int) := of_decide_eq_true (as_); have hx13 := bt_at a1 x5_1; replace p13 := eq_true p13; replace q13 := eq_true q13
           go_wp2
           repeat (go_quiet (fail); try go_wp2)
           go_ret
           exact ⟨rs_, by repeat (first | exact Drawn0.refl _ | apply Drawn0.step)⟩
        ·rw [if_neg c9] at H
         exact absurd H (by simp)
       ·rw [if_neg c7] at H
        exact absurd H (by simp)
      ·rw [if_neg c6] at H
       exact absurd H (by simp)
     ·replace c5 := Bool.eq_false_iff.mpr c5
      subst c5
      have H1 : (if (a0.size : Int) < (a1.size : Int) then (some (-1)) else (if (a0.size : Int) > (a1.size : Int) then (some 1) else (some 0))) = some r := by rw [if_neg (show ¬ (false = true) by decide)] at H; exact H
      clear H; have H := H1; clear H1
      by_cases c15 : (a0.size : Int) < (a1.size : Int)
      ·rw [if_pos c15] at H
       have c15b0 : decide ((a0.size : Int) < (a1.size : Int)) = true := decide_eq_true c15; have c15b1 : decide (a0.size < a1.size) = true := decide_eq_true (Int.ofNat_lt.mp c15); clear c15; obtain rfl := Option.some.inj H
       go_wp2
       repeat (go_quiet (fail); try go_wp2)
       go_ret
       exact ⟨rs_, by repeat (first | exact Drawn0.refl _ | apply Drawn0.step)⟩
      ·rw [if_neg c15] at H
       have c15b0 : decide ((a0.size : Int) < (a1.size : Int)) = false := decide_eq_false c15; have c15b1 : decide (a0.size < a1.size) = false := decide_eq_false (fun h => c15 (Int.ofNat_lt.mpr h)); clear c15
       by_cases c16 : (a0.size : Int) > (a1.size : Int)
       ·rw [if_pos c16] at H
        have c16b0 : decide ((a1.size : Int) < (a0.size : Int)) = true := decide_eq_true c16; have c16b1 : decide (a1.size < a0.size) = true := decide_eq_true (Int.ofNat_lt.mp c16); clear c16; obtain rfl := Option.some.inj H
        go_wp2
        repeat (go_quiet (fail); try go_wp2)
        go_ret
        exact ⟨rs_, by repeat (first | exact Drawn0.refl _ | apply Drawn0.step)⟩
       ·rw [if_neg c16] at H
        have c16b0 : decide ((a1.size : Int) < (a0.size : Int)) = false := decide_eq_false c16; have c16b1 : decide (a1.size < a0.size) = false := decide_eq_false (fun h => c16 (Int.ofNat_lt.mpr h)); clear c16; obtain rfl := Option.some.inj H
        go_wp2
        repeat (go_quiet (fail); try go_wp2)
        go_ret
        exact ⟨rs_, by repeat (first | exact Drawn0.refl _ | apply Drawn0.step)⟩
def r01_Order.f (k : Nat) (a0_0 : Int) (a0_1 : Int) (a0_2 : ByteArray) (a1_0 : Int) (a1_1 : Int) (a1_2 : ByteArray) : Option (Int) := if a0_0 = a1_0 then (if a0_1 = a1_1 then ((r01_Texts.f k a0_2 a1_2).bind fun t156 => (some t156)) else ((r01_ints.f a0_1 a1_1).bind fun t157 => (some t157))) else ((r01_ints.f a0_0 a1_0).bind fun t155 => (some t155))
theorem r01_Order.mono : ∀ a0 a1 a2 a3 a4 a5 k, LeO (r01_Order.f k a0 a1 a2 a3 a4 a5) (r01_Order.f (k + 1) a0 a1 a2 a3 a4 a5) := by
 intro a0 a1 a2 a3 a4 a5 k; unfold r01_Order.f
 repeat' first
   | (with_reducible exact r01_Texts.mono _ _ _)
   | (with_reducible exact LeO.refl _)
   | (with_reducible exact LeO.none _)
   | (with_reducible refine LeO.ite ?_ ?_)
   | (with_reducible refine LeO.bind ?_ (fun _ => ?_))
   | exact r01_Texts.mono _ _ _
   | exact LeO.none _
   | refine LeO.ite ?_ ?_
   | refine LeO.bind ?_ (fun _ => ?_)
theorem r01_Order.calls (k : Nat) (a0_0 : Int) (a0_1 : Int) (a0_2 : ByteArray) (a1_0 : Int) (a1_1 : Int) (a1_2 : ByteArray) (r : Int) (w : World) (h : r01_Order.f k a0_0 a0_1 a0_2 a1_0 a1_1 a1_2 = some r) :
  Calls Tryd.prog 123 #[.agg #[.int .i64 a0_0, .int .i64 a0_1, .string a0_2], .agg #[.int .i64 a1_0, .int .i64 a1_1, .string a1_2]] w fun e w' => e = .returned (.int .i64 r) ∧ Below w.heap.size w w' := by
 have hu23 := Tryd.underlying23; have HB := am_ (Below.refl w.heap.size w); have H : (if a0_0 = a1_0 then (if a0_1 = a1_1 then ((r01_Texts.f k a0_2 a1_2).bind fun t156 => (some t156)) else ((r01_ints.f a0_1 a1_1).bind fun t157 => (some t157))) else ((r01_ints.f a0_0 a1_0).bind fun t155 => (some t155))) = some r := h; clear h
 by_cases c3 : a0_0 = a1_0
 ·rw [if_pos c3] at H
  have c3b0 : (a0_0 == a1_0) = true := beq_iff_eq.mpr c3; have c3b1 : (a0_0 != a1_0) = false := bne_eq_false_iff_eq.mpr c3; clear c3
  by_cases c4 : a0_1 = a1_1
  ·rw [if_pos c4] at H
   have c4b0 : (a0_1 == a1_1) = true := beq_iff_eq.mpr c4; have c4b1 : (a0_1 != a1_1) = false := bne_eq_false_iff_eq.mpr c4; clear c4; replace H := Option.bind_eq_some_iff.mp H; obtain ⟨t156, A50, H⟩ := H; replace H : (some t156) = some r := H; have A5 := am_ A50; clear A50; obtain rfl := Option.some.inj H
   go_enter Tryd.func123, Tryd.ntmps123
   go_wp2_with (first | ((with_reducible refine gate_dst (N := 2) rfl ?_); refine box_event ?hg (N := 2) ?hd (cs := #[.int .i64 a0_0, .int .i64 a0_1, .string a0_2]) (t := 23) ?hr ?_; (case hd => rfl); (case hg => rfl); (case hr => first | (go_simp; done) | (go_simp; rfl)); intro gb153 hg w6 hbox hb; have BK153 := am_ (hbox); have GW153 := am_ ((by rw [hg]; exact (below_size (bl_)) : w.heap.size ≤ gb153)); have GE153 := am_ ((by rw [hg]; exact (below_size (bl_)) : w.heap.size ≤ gb153)); replace HB := am_ (below_step (bl_) hb); clear hb hbox hg) | ((with_reducible refine gate_dst (N := 3) rfl ?_); refine box_event ?hg (N := 3) ?hd (cs := #[.int .i64 a1_0, .int .i64 a1_1, .string a1_2]) (t := 23) ?hr ?_; (case hd => rfl); (case hg => rfl); (case hr => first | (go_simp; done) | (go_simp; rfl)); intro gb154 hg w7 hbox hb; have n0_ := am_ (blk_below (bk_ BK153.out) hb); have n1_ := am_ (below_step (bl_) hb); have n2_ := am_ (hbox); have n3_ := am_ ((by rw [hg]; exact (below_size (bl_)) : w.heap.size ≤ gb154)); have n4_ := am_ ((by rw [hg]; exact (below_size (bl_)) : w.heap.size ≤ gb154)); have n5_ := am_ ((by rw [hg]; exact Nat.ne_of_lt (blk_lt (g := gb153) (o := .cells #[.int .i64 a0_0, .int .i64 a0_1, .string a0_2] 23 (0, 0)) (bk_ BK153.out)) : gb153 ≠ gb154)); have n6_ := am_ ((by rw [hg]; exact Nat.ne_of_gt (blk_lt (g := gb153) (o := .cells #[.int .i64 a0_0, .int .i64 a0_1, .string a0_2] 23 (0, 0)) (bk_ BK153.out)) : gb154 ≠ gb153)); clear BK153; clear HB; have BK153 := n0_; have HB := n1_; have BK154 := n2_; have GW154 := n3_; have GE154 := n4_; have NB153_154 := n5_; have NB154_153 := n6_; clear n0_ n1_ n2_ n3_ n4_ n5_ n6_; clear hb hbox hg; have hnb8 := NB153_154.out; have hnc8 := NB154_153.out; obtain ⟨hcz9_0, hcz9_1, hcz9_2, hfz9_0, hfz9_1, hfz9_2⟩ := bw3_ BK153.out; obtain ⟨hcz10_0, hcz10_1, hcz10_2, hfz10_0, hfz10_1, hfz10_2⟩ := bw3_ BK154.out) | ((with_reducible refine gate_callee (f := 151) rfl ?_); refine goesL_ (some 29) rfl rfl Tryd.func151 (by kernel_rfl) rfl #[.string a0_2, .string a1_2] rfl (by (try simp only [List.map_toArray, List.map_cons, List.map_nil]); first | done | rfl | (simp only [List.length_drop, List.length_take]; rfl)) ?_; (with_reducible refine (r01_Texts.calls k a0_2 a1_2 t156 _ A5.out).mono ?_); rintro e w' ⟨rfl, ⟨nd, rfl⟩⟩; refine ⟨_, rfl, ?_⟩))
   go_ret
   exact ⟨ew_, bl_⟩
  ·rw [if_neg c4] at H
   have c4b0 : (a0_1 == a1_1) = false := beq_eq_false_iff_ne.mpr c4; have c4b1 : (a0_1 != a1_1) = true := bne_iff_ne.mpr c4; replace H := Option.bind_eq_some_iff.mp H; obtain ⟨t157, A110, H⟩ := H; replace H : (some t157) = some r := H; have A11 := am_ A110; clear A110; obtain rfl := Option.some.inj H
   go_enter Tryd.func123, Tryd.ntmps123
   go_wp2_with (first | ((with_reducible refine gate_dst (N := 2) rfl ?_); refine box_event ?hg (N := 2) ?hd (cs := #[.int .i64 a0_0, .int .i64 a0_1, .string a0_2]) (t := 23) ?hr ?_; (case hd => rfl); (case hg => rfl); (case hr => first | (go_simp; done) | (go_simp; rfl)); intro gb153 hg w12 hbox hb; have BK153 := am_ (hbox); have GW153 := am_ ((by rw [hg]; exact (below_size (bl_)) : w.heap.size ≤ gb153)); have GE153 := am_ ((by rw [hg]; exact (below_size (bl_)) : w.heap.size ≤ gb153)); replace HB := am_ (below_step (bl_) hb); clear hb hbox hg) | ((with_reducible refine gate_dst (N := 3) rfl ?_); refine box_event ?hg (N := 3) ?hd (cs := #[.int .i64 a1_0, .int .i64 a1_1, .string a1_2]) (t := 23) ?hr ?_; (case hd => rfl); (case hg => rfl); (case hr => first | (go_simp; done) | (go_simp; rfl)); intro gb154 hg w13 hbox hb; have n0_ := am_ (blk_below (bk_ BK153.out) hb); have n1_ := am_ (below_step (bl_) hb); have n2_ := am_ (hbox); have n3_ := am_ ((by rw [hg]; exact (below_size (bl_)) : w.heap.size ≤ gb154)); have n4_ := am_ ((by rw [hg]; exact (below_size (bl_)) : w.heap.size ≤ gb154)); have n5_ := am_ ((by rw [hg]; exact Nat.ne_of_lt (blk_lt (g := gb153) (o := .cells #[.int .i64 a0_0, .int .i64 a0_1, .string a0_2] 23 (0, 0)) (bk_ BK153.out)) : gb153 ≠ gb154)); have n6_ := am_ ((by rw [hg]; exact Nat.ne_of_gt (blk_lt (g := gb153) (o := .cells #[.int .i64 a0_0, .int .i64 a0_1, .string a0_2] 23 (0, 0)) (bk_ BK153.out)) : gb154 ≠ gb153)); clear BK153; clear HB; have BK153 := n0_; have HB := n1_; have BK154 := n2_; have GW154 := n3_; have GE154 := n4_; have NB153_154 := n5_; have NB154_153 := n6_; clear n0_ n1_ n2_ n3_ n4_ n5_ n6_; clear hb hbox hg; have hnb14 := NB153_154.out; have hnc14 := NB154_153.out; obtain ⟨hcz15_0, hcz15_1, hcz15_2, hfz15_0, hfz15_1, hfz15_2⟩ := bw3_ BK153.out; obtain ⟨hcz16_0, hcz16_1, hcz16_2, hfz16_0, hfz16_1, hfz16_2⟩ := bw3_ BK154.out) | ((with_reducible refine gate_callee (f := 150) rfl ?_); refine goesL_ (some 24) rfl rfl Tryd.func150 (by kernel_rfl) rfl #[.int .i64 a0_1, .int .i64 a1_1] rfl (by (try simp only [List.map_toArray, List.map_cons, List.map_nil]); first | done | rfl | (simp only [List.length_drop, List.length_take]; rfl)) ?_; (with_reducible refine (r01_ints.calls a0_1 a1_1 t157 _ A11.out).mono ?_); rintro e w' ⟨rfl, ⟨nd, rfl⟩⟩; refine ⟨_, rfl, ?_⟩))
   go_ret
   exact ⟨ew_, bl_⟩
 ·rw [if_neg c3] at H
  have c3b0 : (a0_0 == a1_0) = false := beq_eq_false_iff_ne.mpr c3; have c3b1 : (a0_0 != a1_0) = true := bne_iff_ne.mpr c3; replace H := Option.bind_eq_some_iff.mp H; obtain ⟨t155, A170, H⟩ := H; replace H : (some t155) = some r := H; have A17 := am_ A170; clear A170; obtain rfl := Option.some.inj H
  go_enter Tryd.func123, Tryd.ntmps123
  go_wp2_with (first | ((with_reducible refine gate_dst (N := 2) rfl ?_); refine box_event ?hg (N := 2) ?hd (cs := #[.int .i64 a0_0, .int .i64 a0_1, .string a0_2]) (t := 23) ?hr ?_; (case hd => rfl); (case hg => rfl); (case hr => first | (go_simp; done) | (go_simp; rfl)); intro gb153 hg w18 hbox hb; have BK153 := am_ (hbox); have GW153 := am_ ((by rw [hg]; exact (below_size (bl_)) : w.heap.size ≤ gb153)); have GE153 := am_ ((by rw [hg]; exact (below_size (bl_)) : w.heap.size ≤ gb153)); replace HB := am_ (below_step (bl_) hb); clear hb hbox hg) | ((with_reducible refine gate_dst (N := 3) rfl ?_); refine box_event ?hg (N := 3) ?hd (cs := #[.int .i64 a1_0, .int .i64 a1_1, .string a1_2]) (t := 23) ?hr ?_; (case hd => rfl); (case hg => rfl); (case hr => first | (go_simp; done) | (go_simp; rfl)); intro gb154 hg w19 hbox hb; have n0_ := am_ (blk_below (bk_ BK153.out) hb); have n1_ := am_ (below_step (bl_) hb); have n2_ := am_ (hbox); have n3_ := am_ ((by rw [hg]; exact (below_size (bl_)) : w.heap.size ≤ gb154)); have n4_ := am_ ((by rw [hg]; exact (below_size (bl_)) : w.heap.size ≤ gb154)); have n5_ := am_ ((by rw [hg]; exact Nat.ne_of_lt (blk_lt (g := gb153) (o := .cells #[.int .i64 a0_0, .int .i64 a0_1, .string a0_2] 23 (0, 0)) (bk_ BK153.out)) : gb153 ≠ gb154)); have n6_ := am_ ((by rw [hg]; exact Nat.ne_of_gt (blk_lt (g := gb153) (o := .cells #[.int .i64 a0_0, .int .i64 a0_1, .string a0_2] 23 (0, 0)) (bk_ BK153.out)) : gb154 ≠ gb153)); clear BK153; clear HB; have BK153 := n0_; have HB := n1_; have BK154 := n2_; have GW154 := n3_; have GE154 := n4_; have NB153_154 := n5_; have NB154_153 := n6_; clear n0_ n1_ n2_ n3_ n4_ n5_ n6_; clear hb hbox hg; have hnb20 := NB153_154.out; have hnc20 := NB154_153.out; obtain ⟨hcz21_0, hcz21_1, hcz21_2, hfz21_0, hfz21_1, hfz21_2⟩ := bw3_ BK153.out; obtain ⟨hcz22_0, hcz22_1, hcz22_2, hfz22_0, hfz22_1, hfz22_2⟩ := bw3_ BK154.out) | ((with_reducible refine gate_callee (f := 150) rfl ?_); refine goesL_ (some 14) rfl rfl Tryd.func150 (by kernel_rfl) rfl #[.int .i64 a0_0, .int .i64 a1_0] rfl (by (try simp only [List.map_toArray, List.map_cons, List.map_nil]); first | done | rfl | (simp only [List.length_drop, List.length_take]; rfl)) ?_; (with_reducible refine (r01_ints.calls a0_0 a1_0 t155 _ A17.out).mono ?_); rintro e w' ⟨rfl, ⟨nd, rfl⟩⟩; refine ⟨_, rfl, ?_⟩))
  go_ret
  exact ⟨ew_, bl_⟩
def r01_Cmp.f (k : Nat) (a0_0 : Int) (a0_1 : Int) (a0_2 : ByteArray) (a1_0 : Int) (a1_1 : Int) (a1_2 : ByteArray) : Option (Int × Bool) := if a0_0 = a1_0 then (if a0_0 = 1 then ((r01_Order.f k a0_0 a0_1 a0_2 a1_0 a1_1 a1_2).bind fun t160 => (some (t160, true))) else (if a0_0 = 2 then ((r01_Order.f k a0_0 a0_1 a0_2 a1_0 a1_1 a1_2).bind fun t161 => (some (t161, true))) else (some (0, false)))) else (some (0, false))
theorem r01_Cmp.mono : ∀ a0 a1 a2 a3 a4 a5 k, LeO (r01_Cmp.f k a0 a1 a2 a3 a4 a5) (r01_Cmp.f (k + 1) a0 a1 a2 a3 a4 a5) := by
 intro a0 a1 a2 a3 a4 a5 k; unfold r01_Cmp.f
 repeat' first
   | (with_reducible exact r01_Order.mono _ _ _ _ _ _ _)
   | (with_reducible exact LeO.refl _)
   | (with_reducible exact LeO.none _)
   | (with_reducible refine LeO.ite ?_ ?_)
   | (with_reducible refine LeO.bind ?_ (fun _ => ?_))
   | exact r01_Order.mono _ _ _ _ _ _ _
   | exact LeO.none _
   | refine LeO.ite ?_ ?_
   | refine LeO.bind ?_ (fun _ => ?_)
theorem r01_Cmp.calls (k : Nat) (a0_0 : Int) (a0_1 : Int) (a0_2 : ByteArray) (a1_0 : Int) (a1_1 : Int) (a1_2 : ByteArray) (r1 : Int) (r2 : Bool) (w : World) (h : r01_Cmp.f k a0_0 a0_1 a0_2 a1_0 a1_1 a1_2 = some (r1, r2)) :
  Calls Tryd.prog 165 #[.agg #[.int .i64 a0_0, .int .i64 a0_1, .string a0_2], .agg #[.int .i64 a1_0, .int .i64 a1_1, .string a1_2]] w fun e w' => e = .returned (.tuple #[.int .i64 r1, .bool r2]) ∧ Below w.heap.size w w' := by
 have hu23 := Tryd.underlying23; have HB := am_ (Below.refl w.heap.size w); have H : (if a0_0 = a1_0 then (if a0_0 = 1 then ((r01_Order.f k a0_0 a0_1 a0_2 a1_0 a1_1 a1_2).bind fun t160 => (some (t160, true))) else (if a0_0 = 2 then ((r01_Order.f k a0_0 a0_1 a0_2 a1_0 a1_1 a1_2).bind fun t161 => (some (t161, true))) else (some (0, false)))) else (some (0, false))) = some (r1, r2) := h; clear h
 by_cases c3 : a0_0 = a1_0
 ·rw [if_pos c3] at H
  have c3b0 : (a0_0 == a1_0) = true := beq_iff_eq.mpr c3; have c3b1 : (a0_0 != a1_0) = false := bne_eq_false_iff_eq.mpr c3; clear c3
  by_cases c4 : a0_0 = 1
  ·rw [if_pos c4] at H
   have c4b0 : (a0_0 == 1) = true := beq_iff_eq.mpr c4; have c4b1 : (a0_0 != 1) = false := bne_eq_false_iff_eq.mpr c4; clear c4; replace H := Option.bind_eq_some_iff.mp H; obtain ⟨t160, A50, H⟩ := H; replace H : (some (t160, true)) = some (r1, r2) := H; have A5 := am_ A50; clear A50; simp only [Option.some.injEq, Prod.mk.injEq] at H; obtain ⟨rfl, rfl⟩ := H
   go_enter Tryd.func165, Tryd.ntmps165
   go_wp2_with (first | ((with_reducible refine gate_dst (N := 2) rfl ?_); refine box_event ?hg (N := 2) ?hd (cs := #[.int .i64 a0_0, .int .i64 a0_1, .string a0_2]) (t := 23) ?hr ?_; (case hd => rfl); (case hg => rfl); (case hr => first | (go_simp; done) | (go_simp; rfl)); intro gb158 hg w6 hbox hb; have BK158 := am_ (hbox); have GW158 := am_ ((by rw [hg]; exact (below_size (bl_)) : w.heap.size ≤ gb158)); have GE158 := am_ ((by rw [hg]; exact (below_size (bl_)) : w.heap.size ≤ gb158)); replace HB := am_ (below_step (bl_) hb); clear hb hbox hg) | ((with_reducible refine gate_dst (N := 3) rfl ?_); refine box_event ?hg (N := 3) ?hd (cs := #[.int .i64 a1_0, .int .i64 a1_1, .string a1_2]) (t := 23) ?hr ?_; (case hd => rfl); (case hg => rfl); (case hr => first | (go_simp; done) | (go_simp; rfl)); intro gb159 hg w7 hbox hb; have n0_ := am_ (blk_below (bk_ BK158.out) hb); have n1_ := am_ (below_step (bl_) hb); have n2_ := am_ (hbox); have n3_ := am_ ((by rw [hg]; exact (below_size (bl_)) : w.heap.size ≤ gb159)); have n4_ := am_ ((by rw [hg]; exact (below_size (bl_)) : w.heap.size ≤ gb159)); have n5_ := am_ ((by rw [hg]; exact Nat.ne_of_lt (blk_lt (g := gb158) (o := .cells #[.int .i64 a0_0, .int .i64 a0_1, .string a0_2] 23 (0, 0)) (bk_ BK158.out)) : gb158 ≠ gb159)); have n6_ := am_ ((by rw [hg]; exact Nat.ne_of_gt (blk_lt (g := gb158) (o := .cells #[.int .i64 a0_0, .int .i64 a0_1, .string a0_2] 23 (0, 0)) (bk_ BK158.out)) : gb159 ≠ gb158)); clear BK158; clear HB; have BK158 := n0_; have HB := n1_; have BK159 := n2_; have GW159 := n3_; have GE159 := n4_; have NB158_159 := n5_; have NB159_158 := n6_; clear n0_ n1_ n2_ n3_ n4_ n5_ n6_; clear hb hbox hg; have hnb8 := NB158_159.out; have hnc8 := NB159_158.out; obtain ⟨hcz9_0, hcz9_1, hcz9_2, hfz9_0, hfz9_1, hfz9_2⟩ := bw3_ BK158.out; obtain ⟨hcz10_0, hcz10_1, hcz10_2, hfz10_0, hfz10_1, hfz10_2⟩ := bw3_ BK159.out) | ((with_reducible refine gate_callee (f := 123) rfl ?_); refine goesL_ (some 23) rfl rfl Tryd.func123 (by kernel_rfl) rfl #[.agg #[.int .i64 a0_0, .int .i64 a0_1, .string a0_2], .agg #[.int .i64 a1_0, .int .i64 a1_1, .string a1_2]] rfl (by (try simp only [List.map_toArray, List.map_cons, List.map_nil]); first | done | rfl | (simp only [List.length_drop, List.length_take]; rfl)) ?_; (with_reducible refine (r01_Order.calls k a0_0 a0_1 a0_2 a1_0 a1_1 a1_2 t160 _ A5.out).mono ?_); rintro e w11 ⟨rfl, hb⟩; refine ⟨_, rfl, ?_⟩; replace BK158 := am_ (blk_below (bk_ BK158.out) hb); replace BK159 := am_ (blk_below (bk_ BK159.out) hb); replace HB := am_ (below_step (bl_) hb); (try clear hb); (try clear hb2); (try clear hk); (try clear hi)))
   go_ret2
   exact ⟨ew_, bl_⟩
  ·rw [if_neg c4] at H
   have c4b0 : (a0_0 == 1) = false := beq_eq_false_iff_ne.mpr c4; have c4b1 : (a0_0 != 1) = true := bne_iff_ne.mpr c4
   by_cases c12 : a0_0 = 2
   ·rw [if_pos c12] at H
    have c12b0 : (a0_0 == 2) = true := beq_iff_eq.mpr c12; have c12b1 : (a0_0 != 2) = false := bne_eq_false_iff_eq.mpr c12; clear c12; replace H := Option.bind_eq_some_iff.mp H; obtain ⟨t161, A130, H⟩ := H; replace H : (some (t161, true)) = some (r1, r2) := H; have A13 := am_ A130; clear A130; simp only [Option.some.injEq, Prod.mk.injEq] at H; obtain ⟨rfl, rfl⟩ := H
    go_enter Tryd.func165, Tryd.ntmps165
    go_wp2_with (first | ((with_reducible refine gate_dst (N := 2) rfl ?_); refine box_event ?hg (N := 2) ?hd (cs := #[.int .i64 a0_0, .int .i64 a0_1, .string a0_2]) (t := 23) ?hr ?_; (case hd => rfl); (case hg => rfl); (case hr => first | (go_simp; done) | (go_simp; rfl)); intro gb158 hg w14 hbox hb; have BK158 := am_ (hbox); have GW158 := am_ ((by rw [hg]; exact (below_size (bl_)) : w.heap.size ≤ gb158)); have GE158 := am_ ((by rw [hg]; exact (below_size (bl_)) : w.heap.size ≤ gb158)); replace HB := am_ (below_step (bl_) hb); clear hb hbox hg) | ((with_reducible refine gate_dst (N := 3) rfl ?_); refine box_event ?hg (N := 3) ?hd (cs := #[.int .i64 a1_0, .int .i64 a1_1, .string a1_2]) (t := 23) ?hr ?_; (case hd => rfl); (case hg => rfl); (case hr => first | (go_simp; done) | (go_simp; rfl)); intro gb159 hg w15 hbox hb; have n0_ := am_ (blk_below (bk_ BK158.out) hb); have n1_ := am_ (below_step (bl_) hb); have n2_ := am_ (hbox); have n3_ := am_ ((by rw [hg]; exact (below_size (bl_)) : w.heap.size ≤ gb159)); have n4_ := am_ ((by rw [hg]; exact (below_size (bl_)) : w.heap.size ≤ gb159)); have n5_ := am_ ((by rw [hg]; exact Nat.ne_of_lt (blk_lt (g := gb158) (o := .cells #[.int .i64 a0_0, .int .i64 a0_1, .string a0_2] 23 (0, 0)) (bk_ BK158.out)) : gb158 ≠ gb159)); have n6_ := am_ ((by rw [hg]; exact Nat.ne_of_gt (blk_lt (g := gb158) (o := .cells #[.int .i64 a0_0, .int .i64 a0_1, .string a0_2] 23 (0, 0)) (bk_ BK158.out)) : gb159 ≠ gb158)); clear BK158; clear HB; have BK158 := n0_; have HB := n1_; have BK159 := n2_; have GW159 := n3_; have GE159 := n4_; have NB158_159 := n5_; have NB159_158 := n6_; clear n0_ n1_ n2_ n3_ n4_ n5_ n6_; clear hb hbox hg; have hnb16 := NB158_159.out; have hnc16 := NB159_158.out; obtain ⟨hcz17_0, hcz17_1, hcz17_2, hfz17_0, hfz17_1, hfz17_2⟩ := bw3_ BK158.out; obtain ⟨hcz18_0, hcz18_1, hcz18_2, hfz18_0, hfz18_1, hfz18_2⟩ := bw3_ BK159.out) | ((with_reducible refine gate_callee (f := 123) rfl ?_); refine goesL_ (some 23) rfl rfl Tryd.func123 (by kernel_rfl) rfl #[.agg #[.int .i64 a0_0, .int .i64 a0_1, .string a0_2], .agg #[.int .i64 a1_0, .int .i64 a1_1, .string a1_2]] rfl (by (try simp only [List.map_toArray, List.map_cons, List.map_nil]); first | done | rfl | (simp only [List.length_drop, List.length_take]; rfl)) ?_; (with_reducible refine (r01_Order.calls k a0_0 a0_1 a0_2 a1_0 a1_1 a1_2 t161 _ A13.out).mono ?_); rintro e w19 ⟨rfl, hb⟩; refine ⟨_, rfl, ?_⟩; replace BK158 := am_ (blk_below (bk_ BK158.out) hb); replace BK159 := am_ (blk_below (bk_ BK159.out) hb); replace HB := am_ (below_step (bl_) hb); (try clear hb); (try clear hb2); (try clear hk); (try clear hi)))
    go_ret2
    exact ⟨ew_, bl_⟩
   ·rw [if_neg c12] at H
    have c12b0 : (a0_0 == 2) = false := beq_eq_false_iff_ne.mpr c12; have c12b1 : (a0_0 != 2) = true := bne_iff_ne.mpr c12; simp only [Option.some.injEq, Prod.mk.injEq] at H; obtain ⟨rfl, rfl⟩ := H
    go_enter Tryd.func165, Tryd.ntmps165
    go_wp2_with (first | ((with_reducible refine gate_dst (N := 2) rfl ?_); refine box_event ?hg (N := 2) ?hd (cs := #[.int .i64 a0_0, .int .i64 a0_1, .string a0_2]) (t := 23) ?hr ?_; (case hd => rfl); (case hg => rfl); (case hr => first | (go_simp; done) | (go_simp; rfl)); intro gb158 hg w20 hbox hb; have BK158 := am_ (hbox); have GW158 := am_ ((by rw [hg]; exact (below_size (bl_)) : w.heap.size ≤ gb158)); have GE158 := am_ ((by rw [hg]; exact (below_size (bl_)) : w.heap.size ≤ gb158)); replace HB := am_ (below_step (bl_) hb); clear hb hbox hg) | ((with_reducible refine gate_dst (N := 3) rfl ?_); refine box_event ?hg (N := 3) ?hd (cs := #[.int .i64 a1_0, .int .i64 a1_1, .string a1_2]) (t := 23) ?hr ?_; (case hd => rfl); (case hg => rfl); (case hr => first | (go_simp; done) | (go_simp; rfl)); intro gb159 hg w21 hbox hb; have n0_ := am_ (blk_below (bk_ BK158.out) hb); have n1_ := am_ (below_step (bl_) hb); have n2_ := am_ (hbox); have n3_ := am_ ((by rw [hg]; exact (below_size (bl_)) : w.heap.size ≤ gb159)); have n4_ := am_ ((by rw [hg]; exact (below_size (bl_)) : w.heap.size ≤ gb159)); have n5_ := am_ ((by rw [hg]; exact Nat.ne_of_lt (blk_lt (g := gb158) (o := .cells #[.int .i64 a0_0, .int .i64 a0_1, .string a0_2] 23 (0, 0)) (bk_ BK158.out)) : gb158 ≠ gb159)); have n6_ := am_ ((by rw [hg]; exact Nat.ne_of_gt (blk_lt (g := gb158) (o := .cells #[.int .i64 a0_0, .int .i64 a0_1, .string a0_2] 23 (0, 0)) (bk_ BK158.out)) : gb159 ≠ gb158)); clear BK158; clear HB; have BK158 := n0_; have HB := n1_; have BK159 := n2_; have GW159 := n3_; have GE159 := n4_; have NB158_159 := n5_; have NB159_158 := n6_; clear n0_ n1_ n2_ n3_ n4_ n5_ n6_; clear hb hbox hg; have hnb22 := NB158_159.out; have hnc22 := NB159_158.out; obtain ⟨hcz23_0, hcz23_1, hcz23_2, hfz23_0, hfz23_1, hfz23_2⟩ := bw3_ BK158.out; obtain ⟨hcz24_0, hcz24_1, hcz24_2, hfz24_0, hfz24_1, hfz24_2⟩ := bw3_ BK159.out))
    go_ret2
    exact ⟨ew_, bl_⟩
 ·rw [if_neg c3] at H
  have c3b0 : (a0_0 == a1_0) = false := beq_eq_false_iff_ne.mpr c3; have c3b1 : (a0_0 != a1_0) = true := bne_iff_ne.mpr c3; simp only [Option.some.injEq, Prod.mk.injEq] at H; obtain ⟨rfl, rfl⟩ := H
  go_enter Tryd.func165, Tryd.ntmps165
  go_wp2_with (first | ((with_reducible refine gate_dst (N := 2) rfl ?_); refine box_event ?hg (N := 2) ?hd (cs := #[.int .i64 a0_0, .int .i64 a0_1, .string a0_2]) (t := 23) ?hr ?_; (case hd => rfl); (case hg => rfl); (case hr => first | (go_simp; done) | (go_simp; rfl)); intro gb158 hg w25 hbox hb; have BK158 := am_ (hbox); have GW158 := am_ ((by rw [hg]; exact (below_size (bl_)) : w.heap.size ≤ gb158)); have GE158 := am_ ((by rw [hg]; exact (below_size (bl_)) : w.heap.size ≤ gb158)); replace HB := am_ (below_step (bl_) hb); clear hb hbox hg) | ((with_reducible refine gate_dst (N := 3) rfl ?_); refine box_event ?hg (N := 3) ?hd (cs := #[.int .i64 a1_0, .int .i64 a1_1, .string a1_2]) (t := 23) ?hr ?_; (case hd => rfl); (case hg => rfl); (case hr => first | (go_simp; done) | (go_simp; rfl)); intro gb159 hg w26 hbox hb; have n0_ := am_ (blk_below (bk_ BK158.out) hb); have n1_ := am_ (below_step (bl_) hb); have n2_ := am_ (hbox); have n3_ := am_ ((by rw [hg]; exact (below_size (bl_)) : w.heap.size ≤ gb159)); have n4_ := am_ ((by rw [hg]; exact (below_size (bl_)) : w.heap.size ≤ gb159)); have n5_ := am_ ((by rw [hg]; exact Nat.ne_of_lt (blk_lt (g := gb158) (o := .cells #[.int .i64 a0_0, .int .i64 a0_1, .string a0_2] 23 (0, 0)) (bk_ BK158.out)) : gb158 ≠ gb159)); have n6_ := am_ ((by rw [hg]; exact Nat.ne_of_gt (blk_lt (g := gb158) (o := .cells #[.int .i64 a0_0, .int .i64 a0_1, .string a0_2] 23 (0, 0)) (bk_ BK158.out)) : gb159 ≠ gb158)); clear BK158; clear HB; have BK158 := n0_; have HB := n1_; have BK159 := n2_; have GW159 := n3_; have GE159 := n4_; have NB158_159 := n5_; have NB159_158 := n6_; clear n0_ n1_ n2_ n3_ n4_ n5_ n6_; clear hb hbox hg; have hnb27 := NB158_159.out; have hnc27 := NB159_158.out; obtain ⟨hcz28_0, hcz28_1, hcz28_2, hfz28_0, hfz28_1, hfz28_2⟩ := bw3_ BK158.out; obtain ⟨hcz29_0, hcz29_1, hcz29_2, hfz29_0, hfz29_1, hfz29_2⟩ := bw3_ BK159.out))
  go_ret2
  exact ⟨ew_, bl_⟩
def r02_Test.f (k : Nat) (a0 : Int) (a1_0 : Int) (a1_1 : Int) (a1_2 : ByteArray) (a2_0 : Int) (a2_1 : Int) (a2_2 : ByteArray) : Option (Int) := (r01_Cmp.f k a1_0 a1_1 a1_2 a2_0 a2_1 a2_2).bind fun bt164 => (if bt164.2 = true then (if a0 < 1 then (some 2) else (if a0 > 6 then (some 2) else ((some (([(([0, 1, 0] : List Int)), (([1, 0, 1] : List Int)), (([1, 0, 0] : List Int)), (([1, 1, 0] : List Int)), (([0, 0, 1] : List Int)), (([0, 1, 1] : List Int))] : List (List Int)) : List (List Int))).bind fun y184 => (if 0 ≤ (wrap64 (a0 - 1)) then (if (wrap64 (a0 - 1)) < (y184.length : Int) then (if 0 ≤ (wrap64 (bt164.1 + 1)) then (if (wrap64 (bt164.1 + 1)) < ((rd_L9 y184 (wrap64 (a0 - 1))).length : Int) then (some (rd (rd_L9 y184 (wrap64 (a0 - 1))) (wrap64 (bt164.1 + 1)))) else (none)) else (none)) else (none)) else (none))))) else (some 2))
theorem r02_Test.mono : ∀ a0 a1 a2 a3 a4 a5 a6 k, LeO (r02_Test.f k a0 a1 a2 a3 a4 a5 a6) (r02_Test.f (k + 1) a0 a1 a2 a3 a4 a5 a6) := by
 intro a0 a1 a2 a3 a4 a5 a6 k; unfold r02_Test.f
 repeat' first
   | (with_reducible exact r01_Cmp.mono _ _ _ _ _ _ _)
   | (with_reducible exact LeO.refl _)
   | (with_reducible exact LeO.none _)
   | (with_reducible refine LeO.ite ?_ ?_)
   | (with_reducible refine LeO.bind ?_ (fun _ => ?_))
   | exact r01_Cmp.mono _ _ _ _ _ _ _
   | exact LeO.none _
   | refine LeO.ite ?_ ?_
   | refine LeO.bind ?_ (fun _ => ?_)
theorem r02_Test.calls (k : Nat) (a0 : Int) (a1_0 : Int) (a1_1 : Int) (a1_2 : ByteArray) (a2_0 : Int) (a2_1 : Int) (a2_2 : ByteArray) (r : Int) (w : World) (h : r02_Test.f k a0 a1_0 a1_1 a1_2 a2_0 a2_1 a2_2 = some r) :
  Calls Tryd.prog 147 #[.int .i64 a0, .agg #[.int .i64 a1_0, .int .i64 a1_1, .string a1_2], .agg #[.int .i64 a2_0, .int .i64 a2_1, .string a2_2]] w fun e w' => e = .returned (.int .i64 r) ∧ Below w.heap.size w w' := by
 have hu23 := Tryd.underlying23; have HB := am_ (Below.refl w.heap.size w); have H : ((r01_Cmp.f k a1_0 a1_1 a1_2 a2_0 a2_1 a2_2).bind fun bt164 => (if bt164.2 = true then (if a0 < 1 then (some 2) else (if a0 > 6 then (some 2) else ((some (([(([0, 1, 0] : List Int)), (([1, 0, 1] : List Int)), (([1, 0, 0] : List Int)), (([1, 1, 0] : List Int)), (([0, 0, 1] : List Int)), (([0, 1, 1] : List Int))] : List (List Int)) : List (List Int))).bind fun y184 => (if 0 ≤ (wrap64 (a0 - 1)) then (if (wrap64 (a0 - 1)) < (y184.length : Int) then (if 0 ≤ (wrap64 (bt164.1 + 1)) then (if (wrap64 (bt164.1 + 1)) < ((rd_L9 y184 (wrap64 (a0 - 1))).length : Int) then (some (rd (rd_L9 y184 (wrap64 (a0 - 1))) (wrap64 (bt164.1 + 1)))) else (none)) else (none)) else (none)) else (none))))) else (some 2))) = some r := h; clear h; replace H := Option.bind_eq_some_iff.mp H; obtain ⟨⟨t164, t165⟩, A40, H⟩ := H; replace H : (if t165 = true then (if a0 < 1 then (some 2) else (if a0 > 6 then (some 2) else ((some (([(([0, 1, 0] : List Int)), (([1, 0, 1] : List Int)), (([1, 0, 0] : List Int)), (([1, 1, 0] : List Int)), (([0, 0, 1] : List Int)), (([0, 1, 1] : List Int))] : List (List Int)) : List (List Int))).bind fun y184 => (if 0 ≤ (wrap64 (a0 - 1)) then (if (wrap64 (a0 - 1)) < (y184.length : Int) then (if 0 ≤ (wrap64 (t164 + 1)) then (if (wrap64 (t164 + 1)) < ((rd_L9 y184 (wrap64 (a0 - 1))).length : Int) then (some (rd (rd_L9 y184 (wrap64 (a0 - 1))) (wrap64 (t164 + 1)))) else (none)) else (none)) else (none)) else (none))))) else (some 2)) = some r := H; have A4 := am_ A40; clear A40
 by_cases c5 : t165 = true
 ·subst c5
  have H1 : (if a0 < 1 then (some 2) else (if a0 > 6 then (some 2) else ((some (([(([0, 1, 0] : List Int)), (([1, 0, 1] : List Int)), (([1, 0, 0] : List Int)), (([1, 1, 0] : List Int)), (([0, 0, 1] : List Int)), (([0, 1, 1] : List Int))] : List (List Int)) : List (List Int))).bind fun y184 => (if 0 ≤ (wrap64 (a0 - 1)) then (if (wrap64 (a0 - 1)) < (y184.length : Int) then (if 0 ≤ (wrap64 (t164 + 1)) then (if (wrap64 (t164 + 1)) < ((rd_L9 y184 (wrap64 (a0 - 1))).length : Int) then (some (rd (rd_L9 y184 (wrap64 (a0 - 1))) (wrap64 (t164 + 1)))) else (none)) else (none)) else (none)) else (none))))) = some r := by rw [if_pos rfl] at H; exact H
  clear H; have H := H1; clear H1
  by_cases c6 : a0 < 1
  ·rw [if_pos c6] at H
   have c6b0 : decide (a0 < 1) = true := decide_eq_true c6; clear c6; obtain rfl := Option.some.inj H
   go_enter Tryd.func147, Tryd.ntmps147
   go_wp2_with (first | ((with_reducible refine gate_dst (N := 4) rfl ?_); refine box_event ?hg (N := 4) ?hd (cs := #[.int .i64 a1_0, .int .i64 a1_1, .string a1_2]) (t := 23) ?hr ?_; (case hd => rfl); (case hg => rfl); (case hr => first | (go_simp; done) | (go_simp; rfl)); intro gb162 hg w7 hbox hb; have BK162 := am_ (hbox); have GW162 := am_ ((by rw [hg]; exact (below_size (bl_)) : w.heap.size ≤ gb162)); have GE162 := am_ ((by rw [hg]; exact (below_size (bl_)) : w.heap.size ≤ gb162)); replace HB := am_ (below_step (bl_) hb); clear hb hbox hg) | ((with_reducible refine gate_dst (N := 5) rfl ?_); refine box_event ?hg (N := 5) ?hd (cs := #[.int .i64 a2_0, .int .i64 a2_1, .string a2_2]) (t := 23) ?hr ?_; (case hd => rfl); (case hg => rfl); (case hr => first | (go_simp; done) | (go_simp; rfl)); intro gb163 hg w8 hbox hb; have n0_ := am_ (blk_below (bk_ BK162.out) hb); have n1_ := am_ (below_step (bl_) hb); have n2_ := am_ (hbox); have n3_ := am_ ((by rw [hg]; exact (below_size (bl_)) : w.heap.size ≤ gb163)); have n4_ := am_ ((by rw [hg]; exact (below_size (bl_)) : w.heap.size ≤ gb163)); have n5_ := am_ ((by rw [hg]; exact Nat.ne_of_lt (blk_lt (g := gb162) (o := .cells #[.int .i64 a1_0, .int .i64 a1_1, .string a1_2] 23 (0, 0)) (bk_ BK162.out)) : gb162 ≠ gb163)); have n6_ := am_ ((by rw [hg]; exact Nat.ne_of_gt (blk_lt (g := gb162) (o := .cells #[.int .i64 a1_0, .int .i64 a1_1, .string a1_2] 23 (0, 0)) (bk_ BK162.out)) : gb163 ≠ gb162)); clear BK162; clear HB; have BK162 := n0_; have HB := n1_; have BK163 := n2_; have GW163 := n3_; have GE163 := n4_; have NB162_163 := n5_; have NB163_162 := n6_; clear n0_ n1_ n2_ n3_ n4_ n5_ n6_; clear hb hbox hg; have hnb9 := NB162_163.out; have hnc9 := NB163_162.out; obtain ⟨hcz10_0, hcz10_1, hcz10_2, hfz10_0, hfz10_1, hfz10_2⟩ := bw3_ BK162.out; obtain ⟨hcz11_0, hcz11_1, hcz11_2, hfz11_0, hfz11_1, hfz11_2⟩ := bw3_ BK163.out) | ((with_reducible refine gate_callee (f := 165) rfl ?_); refine goesL_ (some 13) rfl rfl Tryd.func165 (by kernel_rfl) rfl #[.agg #[.int .i64 a1_0, .int .i64 a1_1, .string a1_2], .agg #[.int .i64 a2_0, .int .i64 a2_1, .string a2_2]] rfl (by (try simp only [List.map_toArray, List.map_cons, List.map_nil]); first | done | rfl | (simp only [List.length_drop, List.length_take]; rfl)) ?_; (with_reducible refine (r01_Cmp.calls k a1_0 a1_1 a1_2 a2_0 a2_1 a2_2 t164 true _ A4.out).mono ?_); rintro e w12 ⟨rfl, hb⟩; refine ⟨_, rfl, ?_⟩; replace BK162 := am_ (blk_below (bk_ BK162.out) hb); replace BK163 := am_ (blk_below (bk_ BK163.out) hb); replace HB := am_ (below_step (bl_) hb); (try clear hb); (try clear hb2); (try clear hk); (try clear hi)))
   go_ret
   exact ⟨ew_, bl_⟩
  ·rw [if_neg c6] at H
   have c6b0 : decide (a0 < 1) = false := decide_eq_false c6; clear c6
   by_cases c13 : a0 > 6
   ·rw [if_pos c13] at H
    have c13b0 : decide (6 < a0) = true := decide_eq_true c13; clear c13; obtain rfl := Option.some.inj H
    go_enter Tryd.func147, Tryd.ntmps147
    go_wp2_with (first | ((with_reducible refine gate_dst (N := 4) rfl ?_); refine box_event ?hg (N := 4) ?hd (cs := #[.int .i64 a1_0, .int .i64 a1_1, .string a1_2]) (t := 23) ?hr ?_; (case hd => rfl); (case hg => rfl); (case hr => first | (go_simp; done) | (go_simp; rfl)); intro gb162 hg w14 hbox hb; have BK162 := am_ (hbox); have GW162 := am_ ((by rw [hg]; exact (below_size (bl_)) : w.heap.size ≤ gb162)); have GE162 := am_ ((by rw [hg]; exact (below_size (bl_)) : w.heap.size ≤ gb162)); replace HB := am_ (below_step (bl_) hb); clear hb hbox hg) | ((with_reducible refine gate_dst (N := 5) rfl ?_); refine box_event ?hg (N := 5) ?hd (cs := #[.int .i64 a2_0, .int .i64 a2_1, .string a2_2]) (t := 23) ?hr ?_; (case hd => rfl); (case hg => rfl); (case hr => first | (go_simp; done) | (go_simp; rfl)); intro gb163 hg w15 hbox hb; have n0_ := am_ (blk_below (bk_ BK162.out) hb); have n1_ := am_ (below_step (bl_) hb); have n2_ := am_ (hbox); have n3_ := am_ ((by rw [hg]; exact (below_size (bl_)) : w.heap.size ≤ gb163)); have n4_ := am_ ((by rw [hg]; exact (below_size (bl_)) : w.heap.size ≤ gb163)); have n5_ := am_ ((by rw [hg]; exact Nat.ne_of_lt (blk_lt (g := gb162) (o := .cells #[.int .i64 a1_0, .int .i64 a1_1, .string a1_2] 23 (0, 0)) (bk_ BK162.out)) : gb162 ≠ gb163)); have n6_ := am_ ((by rw [hg]; exact Nat.ne_of_gt (blk_lt (g := gb162) (o := .cells #[.int .i64 a1_0, .int .i64 a1_1, .string a1_2] 23 (0, 0)) (bk_ BK162.out)) : gb163 ≠ gb162)); clear BK162; clear HB; have BK162 := n0_; have HB := n1_; have BK163 := n2_; have GW163 := n3_; have GE163 := n4_; have NB162_163 := n5_; have NB163_162 := n6_; clear n0_ n1_ n2_ n3_ n4_ n5_ n6_; clear hb hbox hg; have hnb16 := NB162_163.out; have hnc16 := NB163_162.out; obtain ⟨hcz17_0, hcz17_1, hcz17_2, hfz17_0, hfz17_1, hfz17_2⟩ := bw3_ BK162.out; obtain ⟨hcz18_0, hcz18_1, hcz18_2, hfz18_0, hfz18_1, hfz18_2⟩ := bw3_ BK163.out) | ((with_reducible refine gate_callee (f := 165) rfl ?_); refine goesL_ (some 13) rfl rfl Tryd.func165 (by kernel_rfl) rfl #[.agg #[.int .i64 a1_0, .int .i64 a1_1, .string a1_2], .agg #[.int .i64 a2_0, .int .i64 a2_1, .string a2_2]] rfl (by (try simp only [List.map_toArray, List.map_cons, List.map_nil]); first | done | rfl | (simp only [List.length_drop, List.length_take]; rfl)) ?_; (with_reducible refine (r01_Cmp.calls k a1_0 a1_1 a1_2 a2_0 a2_1 a2_2 t164 true _ A4.out).mono ?_); rintro e w19 ⟨rfl, hb⟩; refine ⟨_, rfl, ?_⟩; replace BK162 := am_ (blk_below (bk_ BK162.out) hb); replace BK163 := am_ (blk_below (bk_ BK163.out) hb); replace HB := am_ (below_step (bl_) hb); (try clear hb); (try clear hb2); (try clear hk); (try clear hi)))
    go_ret
    exact ⟨ew_, bl_⟩
   ·rw [if_neg c13] at H
    have c13b0 : decide (6 < a0) = false := decide_eq_false c13; clear c13
    obtain ⟨y166, hy166⟩ : ∃ y_ : List Int, y_ = (([0, 1, 0] : List Int)) := ⟨_, rfl⟩
    replace H : ((some (([y166, (([1, 0, 1] : List Int)), (([1, 0, 0] : List Int)), (([1, 1, 0] : List Int)), (([0, 0, 1] : List Int)), (([0, 1, 1] : List Int))] : List (List Int)) : List (List Int))).bind fun y184 => (if 0 ≤ (wrap64 (a0 - 1)) then (if (wrap64 (a0 - 1)) < (y184.length : Int) then (if 0 ≤ (wrap64 (t164 + 1)) then (if (wrap64 (t164 + 1)) < ((rd_L9 y184 (wrap64 (a0 - 1))).length : Int) then (some (rd (rd_L9 y184 (wrap64 (a0 - 1))) (wrap64 (t164 + 1)))) else (none)) else (none)) else (none)) else (none))) = some r := by first | (rw [hy166]; with_reducible exact H) | (have H2_ := (Option.bind_some _ _).symm.trans H; rw [hy166]; with_reducible exact H2_) | (have H2_ := (Option.bind_some _ _).symm.trans H; with_reducible exact H2_) | with_reducible exact H | (rw [hy166]; exact H) | exact H
    have Ny166 := am_ hy166; clear hy166
    obtain ⟨y169, hy169⟩ : ∃ y_ : List Int, y_ = (([1, 0, 1] : List Int)) := ⟨_, rfl⟩
    replace H : ((some (([y166, y169, (([1, 0, 0] : List Int)), (([1, 1, 0] : List Int)), (([0, 0, 1] : List Int)), (([0, 1, 1] : List Int))] : List (List Int)) : List (List Int))).bind fun y184 => (if 0 ≤ (wrap64 (a0 - 1)) then (if (wrap64 (a0 - 1)) < (y184.length : Int) then (if 0 ≤ (wrap64 (t164 + 1)) then (if (wrap64 (t164 + 1)) < ((rd_L9 y184 (wrap64 (a0 - 1))).length : Int) then (some (rd (rd_L9 y184 (wrap64 (a0 - 1))) (wrap64 (t164 + 1)))) else (none)) else (none)) else (none)) else (none))) = some r := by first | (rw [hy169]; with_reducible exact H) | (have H2_ := (Option.bind_some _ _).symm.trans H; rw [hy169]; with_reducible exact H2_) | (have H2_ := (Option.bind_some _ _).symm.trans H; with_reducible exact H2_) | with_reducible exact H | (rw [hy169]; exact H) | exact H
    have Ny169 := am_ hy169; clear hy169
    obtain ⟨y172, hy172⟩ : ∃ y_ : List Int, y_ = (([1, 0, 0] : List Int)) := ⟨_, rfl⟩
    replace H : ((some (([y166, y169, y172, (([1, 1, 0] : List Int)), (([0, 0, 1] : List Int)), (([0, 1, 1] : List Int))] : List (List Int)) : List (List Int))).bind fun y184 => (if 0 ≤ (wrap64 (a0 - 1)) then (if (wrap64 (a0 - 1)) < (y184.length : Int) then (if 0 ≤ (wrap64 (t164 + 1)) then (if (wrap64 (t164 + 1)) < ((rd_L9 y184 (wrap64 (a0 - 1))).length : Int) then (some (rd (rd_L9 y184 (wrap64 (a0 - 1))) (wrap64 (t164 + 1)))) else (none)) else (none)) else (none)) else (none))) = some r := by first | (rw [hy172]; with_reducible exact H) | (have H2_ := (Option.bind_some _ _).symm.trans H; rw [hy172]; with_reducible exact H2_) | (have H2_ := (Option.bind_some _ _).symm.trans H; with_reducible exact H2_) | with_reducible exact H | (rw [hy172]; exact H) | exact H
    have Ny172 := am_ hy172; clear hy172
    obtain ⟨y175, hy175⟩ : ∃ y_ : List Int, y_ = (([1, 1, 0] : List Int)) := ⟨_, rfl⟩
    replace H : ((some (([y166, y169, y172, y175, (([0, 0, 1] : List Int)), (([0, 1, 1] : List Int))] : List (List Int)) : List (List Int))).bind fun y184 => (if 0 ≤ (wrap64 (a0 - 1)) then (if (wrap64 (a0 - 1)) < (y184.length : Int) then (if 0 ≤ (wrap64 (t164 + 1)) then (if (wrap64 (t164 + 1)) < ((rd_L9 y184 (wrap64 (a0 - 1))).length : Int) then (some (rd (rd_L9 y184 (wrap64 (a0 - 1))) (wrap64 (t164 + 1)))) else (none)) else (none)) else (none)) else (none))) = some r := by first | (rw [hy175]; with_reducible exact H) | (have H2_ := (Option.bind_some _ _).symm.trans H; rw [hy175]; with_reducible exact H2_) | (have H2_ := (Option.bind_some _ _).symm.trans H; with_reducible exact H2_) | with_reducible exact H | (rw [hy175]; exact H) | exact H
    have Ny175 := am_ hy175; clear hy175
    obtain ⟨y178, hy178⟩ : ∃ y_ : List Int, y_ = (([0, 0, 1] : List Int)) := ⟨_, rfl⟩
    replace H : ((some (([y166, y169, y172, y175, y178, (([0, 1, 1] : List Int))] : List (List Int)) : List (List Int))).bind fun y184 => (if 0 ≤ (wrap64 (a0 - 1)) then (if (wrap64 (a0 - 1)) < (y184.length : Int) then (if 0 ≤ (wrap64 (t164 + 1)) then (if (wrap64 (t164 + 1)) < ((rd_L9 y184 (wrap64 (a0 - 1))).length : Int) then (some (rd (rd_L9 y184 (wrap64 (a0 - 1))) (wrap64 (t164 + 1)))) else (none)) else (none)) else (none)) else (none))) = some r := by first | (rw [hy178]; with_reducible exact H) | (have H2_ := (Option.bind_some _ _).symm.trans H; rw [hy178]; with_reducible exact H2_) | (have H2_ := (Option.bind_some _ _).symm.trans H; with_reducible exact H2_) | with_reducible exact H | (rw [hy178]; exact H) | exact H
    have Ny178 := am_ hy178; clear hy178
    obtain ⟨y181, hy181⟩ : ∃ y_ : List Int, y_ = (([0, 1, 1] : List Int)) := ⟨_, rfl⟩
    replace H : ((some (([y166, y169, y172, y175, y178, y181] : List (List Int)) : List (List Int))).bind fun y184 => (if 0 ≤ (wrap64 (a0 - 1)) then (if (wrap64 (a0 - 1)) < (y184.length : Int) then (if 0 ≤ (wrap64 (t164 + 1)) then (if (wrap64 (t164 + 1)) < ((rd_L9 y184 (wrap64 (a0 - 1))).length : Int) then (some (rd (rd_L9 y184 (wrap64 (a0 - 1))) (wrap64 (t164 + 1)))) else (none)) else (none)) else (none)) else (none))) = some r := by first | (rw [hy181]; with_reducible exact H) | (have H2_ := (Option.bind_some _ _).symm.trans H; rw [hy181]; with_reducible exact H2_) | (have H2_ := (Option.bind_some _ _).symm.trans H; with_reducible exact H2_) | with_reducible exact H | (rw [hy181]; exact H) | exact H
    have Ny181 := am_ hy181; clear hy181
    obtain ⟨y184, hy184⟩ : ∃ y_ : List (List Int), y_ = (([y166, y169, y172, y175, y178, y181] : List (List Int))) := ⟨_, rfl⟩
    replace H : (if 0 ≤ (wrap64 (a0 - 1)) then (if (wrap64 (a0 - 1)) < (y184.length : Int) then (if 0 ≤ (wrap64 (t164 + 1)) then (if (wrap64 (t164 + 1)) < ((rd_L9 y184 (wrap64 (a0 - 1))).length : Int) then (some (rd (rd_L9 y184 (wrap64 (a0 - 1))) (wrap64 (t164 + 1)))) else (none)) else (none)) else (none)) else (none)) = some r := by first | (rw [hy184]; with_reducible exact H) | (have H2_ := (Option.bind_some _ _).symm.trans H; rw [hy184]; with_reducible exact H2_) | (have H2_ := (Option.bind_some _ _).symm.trans H; with_reducible exact H2_) | with_reducible exact H | (rw [hy184]; exact H) | exact H
    have Ny184 := am_ hy184; clear hy184
    obtain ⟨ji20, hji20⟩ : ∃ j_ : Int, (wrap64 (a0 - 1)) = j_ := ⟨_, rfl⟩
    replace H : (if 0 ≤ (ji20) then (if (ji20) < (y184.length : Int) then (if 0 ≤ (wrap64 (t164 + 1)) then (if (wrap64 (t164 + 1)) < ((rd_L9 y184 (ji20)).length : Int) then (some (rd (rd_L9 y184 (ji20)) (wrap64 (t164 + 1)))) else (none)) else (none)) else (none)) else (none)) = some r := by first | (rw [hji20] at H; exact H) | (simp only [hji20] at H ⊢; exact H)
    (try rw [hji20] at A4); have hji20w : (IntKind.i64.wrap (a0 - 1)) = ji20 := (i64_w _).trans hji20
    by_cases c21 : 0 ≤ (ji20)
    ·rw [if_pos c21] at H
     have c21b0 : decide (0 ≤ (ji20)) = true := decide_eq_true c21; clear c21
     by_cases c22 : (ji20) < (y184.length : Int)
     ·rw [if_pos c22] at H
      have c22b0 : decide ((ji20) < (y184.length : Int)) = true := decide_eq_true c22; clear c22
      obtain ⟨ji23, hji23⟩ : ∃ j_ : Int, (wrap64 (t164 + 1)) = j_ := ⟨_, rfl⟩
      replace H : (if 0 ≤ (ji23) then (if (ji23) < ((rd_L9 y184 (ji20)).length : Int) then (some (rd (rd_L9 y184 (ji20)) (ji23))) else (none)) else (none)) = some r := by first | (rw [hji23] at H; exact H) | (simp only [hji23] at H ⊢; exact H)
      (try rw [hji23] at A4); have hji23w : (IntKind.i64.wrap (t164 + 1)) = ji23 := (i64_w _).trans hji23
      by_cases c24 : 0 ≤ (ji23)
      ·rw [if_pos c24] at H
       have c24b0 : decide (0 ≤ (ji23)) = true := decide_eq_true c24; clear c24
       by_cases c25 : (ji23) < ((rd_L9 y184 (ji20)).length : Int)
       ·rw [if_pos c25] at H
        have c25b0 : decide ((ji23) < ((rd_L9 y184 (ji20)).length : Int)) = true := decide_eq_true c25; clear c25; obtain rfl := Option.some.inj H
        go_enter Tryd.func147, Tryd.ntmps147
        go_wp2_with (first | ((with_reducible refine gate_dst (N := 4) rfl ?_); refine box_event ?hg (N := 4) ?hd (cs := #[.int .i64 a1_0, .int .i64 a1_1, .string a1_2]) (t := 23) ?hr ?_; (case hd => rfl); (case hg => rfl); (case hr => first | (go_simp; done) | (go_simp; rfl)); intro gb162 hg w26 hbox hb; have BK162 := am_ (hbox); have GW162 := am_ ((by rw [hg]; exact (below_size (bl_)) : w.heap.size ≤ gb162)); have GE162 := am_ ((by rw [hg]; exact (below_size (bl_)) : w.heap.size ≤ gb162)); replace HB := am_ (below_step (bl_) hb); clear hb hbox hg) | ((with_reducible refine gate_dst (N := 5) rfl ?_); refine box_event ?hg (N := 5) ?hd (cs := #[.int .i64 a2_0, .int .i64 a2_1, .string a2_2]) (t := 23) ?hr ?_; (case hd => rfl); (case hg => rfl); (case hr => first | (go_simp; done) | (go_simp; rfl)); intro gb163 hg w27 hbox hb; have n0_ := am_ (blk_below (bk_ BK162.out) hb); have n1_ := am_ (below_step (bl_) hb); have n2_ := am_ (hbox); have n3_ := am_ ((by rw [hg]; exact (below_size (bl_)) : w.heap.size ≤ gb163)); have n4_ := am_ ((by rw [hg]; exact (below_size (bl_)) : w.heap.size ≤ gb163)); have n5_ := am_ ((by rw [hg]; exact Nat.ne_of_lt (blk_lt (g := gb162) (o := .cells #[.int .i64 a1_0, .int .i64 a1_1, .string a1_2] 23 (0, 0)) (bk_ BK162.out)) : gb162 ≠ gb163)); have n6_ := am_ ((by rw [hg]; exact Nat.ne_of_gt (blk_lt (g := gb162) (o := .cells #[.int .i64 a1_0, .int .i64 a1_1, .string a1_2] 23 (0, 0)) (bk_ BK162.out)) : gb163 ≠ gb162)); clear BK162; clear HB; have BK162 := n0_; have HB := n1_; have BK163 := n2_; have GW163 := n3_; have GE163 := n4_; have NB162_163 := n5_; have NB163_162 := n6_; clear n0_ n1_ n2_ n3_ n4_ n5_ n6_; clear hb hbox hg; have hnb28 := NB162_163.out; have hnc28 := NB163_162.out; obtain ⟨hcz29_0, hcz29_1, hcz29_2, hfz29_0, hfz29_1, hfz29_2⟩ := bw3_ BK162.out; obtain ⟨hcz30_0, hcz30_1, hcz30_2, hfz30_0, hfz30_1, hfz30_2⟩ := bw3_ BK163.out) | ((with_reducible refine gate_callee (f := 165) rfl ?_); refine goesL_ (some 13) rfl rfl Tryd.func165 (by kernel_rfl) rfl #[.agg #[.int .i64 a1_0, .int .i64 a1_1, .string a1_2], .agg #[.int .i64 a2_0, .int .i64 a2_1, .string a2_2]] rfl (by (try simp only [List.map_toArray, List.map_cons, List.map_nil]); first | done | rfl | (simp only [List.length_drop, List.length_take]; rfl)) ?_; (with_reducible refine (r01_Cmp.calls k a1_0 a1_1 a1_2 a2_0 a2_1 a2_2 t164 true _ A4.out).mono ?_); rintro e w31 ⟨rfl, hb⟩; refine ⟨_, rfl, ?_⟩; replace BK162 := am_ (blk_below (bk_ BK162.out) hb); replace BK163 := am_ (blk_below (bk_ BK163.out) hb); replace HB := am_ (below_step (bl_) hb); (try clear hb); (try clear hb2); (try clear hk); (try clear hi)) | ((with_reducible refine gate_dst (N := 26) rfl ?_); refine Kd.R_lit (Kd.int .i64) _ 3 ?hg (N := 26) ?hd (xs := ([0, 1, 0] : List Int)) (inner := [.int .i64 0, .int .i64 1, .int .i64 0]) (ok := fun _ => True) (okp := fun _ => True) ?hr ?hp (fun _ hk => hk) trivial (Below.refl _ _) (Nat.le_refl _) (by simp) ?_; (case hd => rfl); (case hg => rfl); (case hr => first | (go_simp; done) | (go_simp; rfl)); (case hp => exact (Reps.one (show Kd.M (Kd.int .i64) _ _ _ 0 [.int .i64 0] from rfl) (Reps.one (show Kd.M (Kd.int .i64) _ _ _ 1 [.int .i64 1] from rfl) (Reps.one (show Kd.M (Kd.int .i64) _ _ _ 0 [.int .i64 0] from rfl) (Reps.none _ _))))); intro v167 w32 ho33 hb hg_ hnew_; clear hg_ hnew_; (first | rw [← Ny166.out] at ho33 | (simp only [Int.reduceToNat] at ho33; rw [← Ny166.out] at ho33)); have HO168 := am_ (Kd.R_lower ho33 (below_size (bl_))); replace BK162 := am_ (blk_below (bk_ BK162.out) hb); replace BK163 := am_ (blk_below (bk_ BK163.out) hb); replace HB := am_ (below_step (bl_) hb); clear hb ho33) | ((with_reducible refine gate_dst (N := 27) rfl ?_); refine Kd.R_lit (Kd.int .i64) _ 3 ?hg (N := 27) ?hd (xs := ([1, 0, 1] : List Int)) (inner := [.int .i64 1, .int .i64 0, .int .i64 1]) (ok := fun _ => True) (okp := fun _ => True) ?hr ?hp (fun _ hk => hk) trivial (Below.refl _ _) (Nat.le_refl _) (by simp) ?_; (case hd => rfl); (case hg => rfl); (case hr => first | (go_simp; done) | (go_simp; rfl)); (case hp => exact (Reps.one (show Kd.M (Kd.int .i64) _ _ _ 1 [.int .i64 1] from rfl) (Reps.one (show Kd.M (Kd.int .i64) _ _ _ 0 [.int .i64 0] from rfl) (Reps.one (show Kd.M (Kd.int .i64) _ _ _ 1 [.int .i64 1] from rfl) (Reps.none _ _))))); intro v170 w34 ho35 hb hg_ hnew_; clear hg_ hnew_; (first | rw [← Ny169.out] at ho35 | (simp only [Int.reduceToNat] at ho35; rw [← Ny169.out] at ho35)); have n0_ := am_ (Kd.R_elder' (kr_ HO168.out) (Kd.R_base ho35) hb); have n1_ := am_ (Kd.R_lower (Kd.R_new' ho35 (Kd.R_lt (kr_ HO168.out))) (below_size (bl_))); have n2_ := am_ (blk_below (bk_ BK162.out) hb); have n3_ := am_ (blk_below (bk_ BK163.out) hb); have n4_ := am_ (below_step (bl_) hb); clear HO168; clear BK162; clear BK163; clear HB; have HO168 := n0_; have HO171 := n1_; have BK162 := n2_; have BK163 := n3_; have HB := n4_; clear n0_ n1_ n2_ n3_ n4_; clear hb ho35) | ((with_reducible refine gate_dst (N := 28) rfl ?_); refine Kd.R_lit (Kd.int .i64) _ 3 ?hg (N := 28) ?hd (xs := ([1, 0, 0] : List Int)) (inner := [.int .i64 1, .int .i64 0, .int .i64 0]) (ok := fun _ => True) (okp := fun _ => True) ?hr ?hp (fun _ hk => hk) trivial (Below.refl _ _) (Nat.le_refl _) (by simp) ?_; (case hd => rfl); (case hg => rfl); (case hr => first | (go_simp; done) | (go_simp; rfl)); (case hp => exact (Reps.one (show Kd.M (Kd.int .i64) _ _ _ 1 [.int .i64 1] from rfl) (Reps.one (show Kd.M (Kd.int .i64) _ _ _ 0 [.int .i64 0] from rfl) (Reps.one (show Kd.M (Kd.int .i64) _ _ _ 0 [.int .i64 0] from rfl) (Reps.none _ _))))); intro v173 w36 ho37 hb hg_ hnew_; clear hg_ hnew_; (first | rw [← Ny172.out] at ho37 | (simp only [Int.reduceToNat] at ho37; rw [← Ny172.out] at ho37)); have n0_ := am_ (Kd.R_elder' (kr_ HO168.out) (Kd.R_base ho37) hb); have n1_ := am_ (Kd.R_elder' (kr_ HO171.out) (Kd.R_base ho37) hb); have n2_ := am_ (Kd.R_lower (Kd.R_new' (Kd.R_new' ho37 (Kd.R_lt (kr_ HO168.out))) (Kd.R_lt (kr_ HO171.out))) (below_size (bl_))); have n3_ := am_ (blk_below (bk_ BK162.out) hb); have n4_ := am_ (blk_below (bk_ BK163.out) hb); have n5_ := am_ (below_step (bl_) hb); clear HO168; clear HO171; clear BK162; clear BK163; clear HB; have HO168 := n0_; have HO171 := n1_; have HO174 := n2_; have BK162 := n3_; have BK163 := n4_; have HB := n5_; clear n0_ n1_ n2_ n3_ n4_ n5_; clear hb ho37) | ((with_reducible refine gate_dst (N := 29) rfl ?_); refine Kd.R_lit (Kd.int .i64) _ 3 ?hg (N := 29) ?hd (xs := ([1, 1, 0] : List Int)) (inner := [.int .i64 1, .int .i64 1, .int .i64 0]) (ok := fun _ => True) (okp := fun _ => True) ?hr ?hp (fun _ hk => hk) trivial (Below.refl _ _) (Nat.le_refl _) (by simp) ?_; (case hd => rfl); (case hg => rfl); (case hr => first | (go_simp; done) | (go_simp; rfl)); (case hp => exact (Reps.one (show Kd.M (Kd.int .i64) _ _ _ 1 [.int .i64 1] from rfl) (Reps.one (show Kd.M (Kd.int .i64) _ _ _ 1 [.int .i64 1] from rfl) (Reps.one (show Kd.M (Kd.int .i64) _ _ _ 0 [.int .i64 0] from rfl) (Reps.none _ _))))); intro v176 w38 ho39 hb hg_ hnew_; clear hg_ hnew_; (first | rw [← Ny175.out] at ho39 | (simp only [Int.reduceToNat] at ho39; rw [← Ny175.out] at ho39)); have n0_ := am_ (Kd.R_elder' (kr_ HO168.out) (Kd.R_base ho39) hb); have n1_ := am_ (Kd.R_elder' (kr_ HO171.out) (Kd.R_base ho39) hb); have n2_ := am_ (Kd.R_elder' (kr_ HO174.out) (Kd.R_base ho39) hb); have n3_ := am_ (Kd.R_lower (Kd.R_new' (Kd.R_new' (Kd.R_new' ho39 (Kd.R_lt (kr_ HO168.out))) (Kd.R_lt (kr_ HO171.out))) (Kd.R_lt (kr_ HO174.out))) (below_size (bl_))); have n4_ := am_ (blk_below (bk_ BK162.out) hb); have n5_ := am_ (blk_below (bk_ BK163.out) hb); have n6_ := am_ (below_step (bl_) hb); clear HO168; clear HO171; clear HO174; clear BK162; clear BK163; clear HB; have HO168 := n0_; have HO171 := n1_; have HO174 := n2_; have HO177 := n3_; have BK162 := n4_; have BK163 := n5_; have HB := n6_; clear n0_ n1_ n2_ n3_ n4_ n5_ n6_; clear hb ho39) | ((with_reducible refine gate_dst (N := 30) rfl ?_); refine Kd.R_lit (Kd.int .i64) _ 3 ?hg (N := 30) ?hd (xs := ([0, 0, 1] : List Int)) (inner := [.int .i64 0, .int .i64 0, .int .i64 1]) (ok := fun _ => True) (okp := fun _ => True) ?hr ?hp (fun _ hk => hk) trivial (Below.refl _ _) (Nat.le_refl _) (by simp) ?_; (case hd => rfl); (case hg => rfl); (case hr => first | (go_simp; done) | (go_simp; rfl)); (case hp => exact (Reps.one (show Kd.M (Kd.int .i64) _ _ _ 0 [.int .i64 0] from rfl) (Reps.one (show Kd.M (Kd.int .i64) _ _ _ 0 [.int .i64 0] from rfl) (Reps.one (show Kd.M (Kd.int .i64) _ _ _ 1 [.int .i64 1] from rfl) (Reps.none _ _))))); intro v179 w40 ho41 hb hg_ hnew_; clear hg_ hnew_; (first | rw [← Ny178.out] at ho41 | (simp only [Int.reduceToNat] at ho41; rw [← Ny178.out] at ho41)); have n0_ := am_ (Kd.R_elder' (kr_ HO168.out) (Kd.R_base ho41) hb); have n1_ := am_ (Kd.R_elder' (kr_ HO171.out) (Kd.R_base ho41) hb); have n2_ := am_ (Kd.R_elder' (kr_ HO174.out) (Kd.R_base ho41) hb); have n3_ := am_ (Kd.R_elder' (kr_ HO177.out) (Kd.R_base ho41) hb); have n4_ := am_ (Kd.R_lower (Kd.R_new' (Kd.R_new' (Kd.R_new' (Kd.R_new' ho41 (Kd.R_lt (kr_ HO168.out))) (Kd.R_lt (kr_ HO171.out))) (Kd.R_lt (kr_ HO174.out))) (Kd.R_lt (kr_ HO177.out))) (below_size (bl_))); have n5_ := am_ (blk_below (bk_ BK162.out) hb); have n6_ := am_ (blk_below (bk_ BK163.out) hb); have n7_ := am_ (below_step (bl_) hb); clear HO168; clear HO171; clear HO174; clear HO177; clear BK162; clear BK163; clear HB; have HO168 := n0_; have HO171 := n1_; have HO174 := n2_; have HO177 := n3_; have HO180 := n4_; have BK162 := n5_; have BK163 := n6_; have HB := n7_; clear n0_ n1_ n2_ n3_ n4_ n5_ n6_ n7_; clear hb ho41) | ((with_reducible refine gate_dst (N := 31) rfl ?_); refine Kd.R_lit (Kd.int .i64) _ 3 ?hg (N := 31) ?hd (xs := ([0, 1, 1] : List Int)) (inner := [.int .i64 0, .int .i64 1, .int .i64 1]) (ok := fun _ => True) (okp := fun _ => True) ?hr ?hp (fun _ hk => hk) trivial (Below.refl _ _) (Nat.le_refl _) (by simp) ?_; (case hd => rfl); (case hg => rfl); (case hr => first | (go_simp; done) | (go_simp; rfl)); (case hp => exact (Reps.one (show Kd.M (Kd.int .i64) _ _ _ 0 [.int .i64 0] from rfl) (Reps.one (show Kd.M (Kd.int .i64) _ _ _ 1 [.int .i64 1] from rfl) (Reps.one (show Kd.M (Kd.int .i64) _ _ _ 1 [.int .i64 1] from rfl) (Reps.none _ _))))); intro v182 w42 ho43 hb hg_ hnew_; clear hg_ hnew_; (first | rw [← Ny181.out] at ho43 | (simp only [Int.reduceToNat] at ho43; rw [← Ny181.out] at ho43)); have n0_ := am_ (Kd.R_elder' (kr_ HO168.out) (Kd.R_base ho43) hb); have n1_ := am_ (Kd.R_elder' (kr_ HO171.out) (Kd.R_base ho43) hb); have n2_ := am_ (Kd.R_elder' (kr_ HO174.out) (Kd.R_base ho43) hb); have n3_ := am_ (Kd.R_elder' (kr_ HO177.out) (Kd.R_base ho43) hb); have n4_ := am_ (Kd.R_elder' (kr_ HO180.out) (Kd.R_base ho43) hb); have n5_ := am_ (Kd.R_lower (Kd.R_new' (Kd.R_new' (Kd.R_new' (Kd.R_new' (Kd.R_new' ho43 (Kd.R_lt (kr_ HO168.out))) (Kd.R_lt (kr_ HO171.out))) (Kd.R_lt (kr_ HO174.out))) (Kd.R_lt (kr_ HO177.out))) (Kd.R_lt (kr_ HO180.out))) (below_size (bl_))); have n6_ := am_ (blk_below (bk_ BK162.out) hb); have n7_ := am_ (blk_below (bk_ BK163.out) hb); have n8_ := am_ (below_step (bl_) hb); clear HO168; clear HO171; clear HO174; clear HO177; clear HO180; clear BK162; clear BK163; clear HB; have HO168 := n0_; have HO171 := n1_; have HO174 := n2_; have HO177 := n3_; have HO180 := n4_; have HO183 := n5_; have BK162 := n6_; have BK163 := n7_; have HB := n8_; clear n0_ n1_ n2_ n3_ n4_ n5_ n6_ n7_ n8_; clear hb ho43; obtain ⟨Ao44, co44, eo44⟩ := Kd.R_slice HO168.out; subst eo44; obtain ⟨Ao45, co45, eo45⟩ := Kd.R_slice HO171.out; subst eo45; obtain ⟨Ao46, co46, eo46⟩ := Kd.R_slice HO174.out; subst eo46; obtain ⟨Ao47, co47, eo47⟩ := Kd.R_slice HO177.out; subst eo47; obtain ⟨Ao48, co48, eo48⟩ := Kd.R_slice HO180.out; subst eo48; obtain ⟨Ao49, co49, eo49⟩ := Kd.R_slice HO183.out; subst eo49) | ((with_reducible refine gate_dst (N := 32) rfl ?_); refine Kd.N_lit (Kd.slice 3 (Kd.int .i64)) _ 44 ?hg (N' := 32) ?hd (xs := ([y166, y169, y172, y175, y178, y181] : List (List Int))) (inner := [.slice Ao44 y166.length co44, .slice Ao45 y169.length co45, .slice Ao46 y172.length co46, .slice Ao47 y175.length co47, .slice Ao48 y178.length co48, .slice Ao49 y181.length co49]) (ok := (fun k_ => k_ ≠ gb162 ∧ k_ ≠ gb163)) (okp := (fun k_ => k_ ≠ gb162 ∧ k_ ≠ gb163)) ?hr ?hp (fun _ hk => hk) ((show ∀ k_, w42.heap.size ≤ k_ → (fun k_ => k_ ≠ gb162 ∧ k_ ≠ gb163) k_ from fun k_ hk => ⟨Kd.freshB (g := gb162) (o := .cells #[.int .i64 a1_0, .int .i64 a1_1, .string a1_2] 23 (0, 0)) (bk_ BK162.out) k_ hk, Kd.freshB (g := gb163) (o := .cells #[.int .i64 a2_0, .int .i64 a2_1, .string a2_2] 23 (0, 0)) (bk_ BK163.out) k_ hk⟩) _ (Nat.le_refl _)) (Below.refl _ _) (Nat.le_refl _) (by simp) ?_; (case hd => rfl); (case hg => rfl); (case hr => first | (go_simp; done) | (go_simp; rfl)); (case hp => exact (Reps.one (show Kd.FK (Kd.slice 3 (Kd.int .i64)) _ _ y166 [.slice Ao44 y166.length co44] from (Kd.FK_slice_mk (Kd.R_reads' (Kd.R_mono (ok' := (fun k_ => k_ ≠ gb162 ∧ k_ ≠ gb163)) (kr_ (Kd.R_types (Kd.R_types (HO168.out) BK162.out (by decide)) BK163.out (by decide))) (fun k_ hk => ⟨hk.1.2, hk.2⟩))).2.1 (Kd.R_F (Kd.R_mono (ok' := (fun k_ => k_ ≠ gb162 ∧ k_ ≠ gb163)) (kr_ (Kd.R_types (Kd.R_types (HO168.out) BK162.out (by decide)) BK163.out (by decide))) (fun k_ hk => ⟨hk.1.2, hk.2⟩))))) (Reps.one (show Kd.FK (Kd.slice 3 (Kd.int .i64)) _ _ y169 [.slice Ao45 y169.length co45] from (Kd.FK_slice_mk (Kd.R_reads' (Kd.R_mono (ok' := (fun k_ => k_ ≠ gb162 ∧ k_ ≠ gb163)) (kr_ (Kd.R_types (Kd.R_types (HO171.out) BK162.out (by decide)) BK163.out (by decide))) (fun k_ hk => ⟨hk.1.2, hk.2⟩))).2.1 (Kd.R_F (Kd.R_mono (ok' := (fun k_ => k_ ≠ gb162 ∧ k_ ≠ gb163)) (kr_ (Kd.R_types (Kd.R_types (HO171.out) BK162.out (by decide)) BK163.out (by decide))) (fun k_ hk => ⟨hk.1.2, hk.2⟩))))) (Reps.one (show Kd.FK (Kd.slice 3 (Kd.int .i64)) _ _ y172 [.slice Ao46 y172.length co46] from (Kd.FK_slice_mk (Kd.R_reads' (Kd.R_mono (ok' := (fun k_ => k_ ≠ gb162 ∧ k_ ≠ gb163)) (kr_ (Kd.R_types (Kd.R_types (HO174.out) BK162.out (by decide)) BK163.out (by decide))) (fun k_ hk => ⟨hk.1.2, hk.2⟩))).2.1 (Kd.R_F (Kd.R_mono (ok' := (fun k_ => k_ ≠ gb162 ∧ k_ ≠ gb163)) (kr_ (Kd.R_types (Kd.R_types (HO174.out) BK162.out (by decide)) BK163.out (by decide))) (fun k_ hk => ⟨hk.1.2, hk.2⟩))))) (Reps.one (show Kd.FK (Kd.slice 3 (Kd.int .i64)) _ _ y175 [.slice Ao47 y175.length co47] from (Kd.FK_slice_mk (Kd.R_reads' (Kd.R_mono (ok' := (fun k_ => k_ ≠ gb162 ∧ k_ ≠ gb163)) (kr_ (Kd.R_types (Kd.R_types (HO177.out) BK162.out (by decide)) BK163.out (by decide))) (fun k_ hk => ⟨hk.1.2, hk.2⟩))).2.1 (Kd.R_F (Kd.R_mono (ok' := (fun k_ => k_ ≠ gb162 ∧ k_ ≠ gb163)) (kr_ (Kd.R_types (Kd.R_types (HO177.out) BK162.out (by decide)) BK163.out (by decide))) (fun k_ hk => ⟨hk.1.2, hk.2⟩))))) (Reps.one (show Kd.FK (Kd.slice 3 (Kd.int .i64)) _ _ y178 [.slice Ao48 y178.length co48] from (Kd.FK_slice_mk (Kd.R_reads' (Kd.R_mono (ok' := (fun k_ => k_ ≠ gb162 ∧ k_ ≠ gb163)) (kr_ (Kd.R_types (Kd.R_types (HO180.out) BK162.out (by decide)) BK163.out (by decide))) (fun k_ hk => ⟨hk.1.2, hk.2⟩))).2.1 (Kd.R_F (Kd.R_mono (ok' := (fun k_ => k_ ≠ gb162 ∧ k_ ≠ gb163)) (kr_ (Kd.R_types (Kd.R_types (HO180.out) BK162.out (by decide)) BK163.out (by decide))) (fun k_ hk => ⟨hk.1.2, hk.2⟩))))) (Reps.one (show Kd.FK (Kd.slice 3 (Kd.int .i64)) _ _ y181 [.slice Ao49 y181.length co49] from (Kd.FK_slice_mk (Kd.R_reads' (Kd.R_mono (ok' := (fun k_ => k_ ≠ gb162 ∧ k_ ≠ gb163)) (kr_ (Kd.R_types (Kd.R_types (HO183.out) BK162.out (by decide)) BK163.out (by decide))) (fun k_ hk => ⟨hk.1.2, hk.2⟩))).2.1 (Kd.R_F (Kd.R_mono (ok' := (fun k_ => k_ ≠ gb162 ∧ k_ ≠ gb163)) (kr_ (Kd.R_types (Kd.R_types (HO183.out) BK162.out (by decide)) BK163.out (by decide))) (fun k_ hk => ⟨hk.1.2, hk.2⟩))))) (Reps.none _ _)))))))); intro v185 w50 ho51 hb hg_ hnew_; clear hg_ hnew_; (first | rw [← Ny184.out] at ho51 | (simp only [Int.reduceToNat] at ho51; rw [← Ny184.out] at ho51)); have HO186 := am_ (Kd.N_lower ho51 (below_size (bl_))); replace BK162 := am_ (blk_below (bk_ BK162.out) hb); replace BK163 := am_ (blk_below (bk_ BK163.out) hb); replace HB := am_ (below_step (bl_) hb); clear HO168; clear HO171; clear HO174; clear HO177; clear HO180; clear HO183; clear hb ho51; obtain ⟨Ao52, co52, eo52⟩ := Kd.N_slice HO186.out; subst eo52; have p187 : 0 ≤ ((ji20) : Int) := of_decide_eq_true (as_); have q187 : (ji20) < (y184.length : Int) := of_decide_eq_true (as_); obtain ⟨ad187, A187_0, c187_0, e187, hx187_0, hl187_0, hi187_0⟩ := at_L9 (Kd.N_reads' HO186.out).2.2 (ji20) p187 q187; cases e187; obtain ⟨ce187, hce187, hMe187, hcc187⟩ := Kd.N_get HO186.out [] (ji20) p187 (by first | exact q187 | exact of_decide_eq_true (as_) | (have e_ := (Kd.N_reads' HO186.out).1; omega)); obtain ⟨ua187_0, uc187_0, rfl, ul187_0, ge187_0⟩ := Kd.FK_slice_open hMe187; have hv187_0 := hcc187 0 _ rfl; rw [Nat.add_zero, show ((Kd.slice 3 (Kd.int .i64))).sz = 1 from rfl, Nat.mul_one] at hv187_0; replace hv187_0 := Option.some.inj (hv187_0.symm.trans hx187_0); injection hv187_0 with hva_ hvn_ hvc_; rw [hva_] at ge187_0; rw [hvc_] at ul187_0; have HL187_0 := am_ (show Kd.V (Kd.int .i64) 3 _ w.heap.size _ _ (rd_L9 y184 (ji20)) from Kd.V_mk ul187_0 ge187_0); clear hva_ hvn_ hvc_ ge187_0 ul187_0; clear hcc187 hce187; have HR187_0 := am_ hi187_0; have HC187_0 := am_ hl187_0; clear hi187_0 hl187_0; replace p187 := eq_true p187; replace q187 := eq_true q187; have p188 : 0 ≤ ((ji23) : Int) := of_decide_eq_true (as_); have q188 : (ji23) < ((rd_L9 y184 (ji20)).length : Int) := of_decide_eq_true (as_); obtain ⟨ad188, e188, hx188_0⟩ := Kd.at_int (by repeat (first | (with_reducible exact HR187_0.out) | (with_reducible refine Kd.C_alloc ?_ _) | (with_reducible refine Kd.C_drewN ?_ _) | (with_reducible refine Kd.C_drew ?_) | exact HR187_0.out)) (ji23) p188 q188; cases e188; replace p188 := eq_true p188; replace q188 := eq_true q188))
        go_ret
        exact ⟨by first | rfl | (simp [errW_none, errW_some] <;> rfl) | (simp only [← hji20, ← hji23]; first | rfl | (simp [errW_none, errW_some] <;> rfl)) | (simp [*, errW_none, errW_some] <;> rfl), bl_⟩
       ·rw [if_neg c25] at H
        exact absurd H (by simp)
      ·rw [if_neg c24] at H
       exact absurd H (by simp)
     ·rw [if_neg c22] at H
      exact absurd H (by simp)
    ·rw [if_neg c21] at H
     exact absurd H (by simp)
 ·replace c5 := Bool.eq_false_iff.mpr c5
  subst c5
  have H1 : (some 2) = some r := by rw [if_neg (show ¬ (false = true) by decide)] at H; exact H
  clear H; have H := H1; clear H1; obtain rfl := Option.some.inj H
  go_enter Tryd.func147, Tryd.ntmps147
  go_wp2_with (first | ((with_reducible refine gate_dst (N := 4) rfl ?_); refine box_event ?hg (N := 4) ?hd (cs := #[.int .i64 a1_0, .int .i64 a1_1, .string a1_2]) (t := 23) ?hr ?_; (case hd => rfl); (case hg => rfl); (case hr => first | (go_simp; done) | (go_simp; rfl)); intro gb162 hg w53 hbox hb; have BK162 := am_ (hbox); have GW162 := am_ ((by rw [hg]; exact (below_size (bl_)) : w.heap.size ≤ gb162)); have GE162 := am_ ((by rw [hg]; exact (below_size (bl_)) : w.heap.size ≤ gb162)); replace HB := am_ (below_step (bl_) hb); clear hb hbox hg) | ((with_reducible refine gate_dst (N := 5) rfl ?_); refine box_event ?hg (N := 5) ?hd (cs := #[.int .i64 a2_0, .int .i64 a2_1, .string a2_2]) (t := 23) ?hr ?_; (case hd => rfl); (case hg => rfl); (case hr => first | (go_simp; done) | (go_simp; rfl)); intro gb163 hg w54 hbox hb; have n0_ := am_ (blk_below (bk_ BK162.out) hb); have n1_ := am_ (below_step (bl_) hb); have n2_ := am_ (hbox); have n3_ := am_ ((by rw [hg]; exact (below_size (bl_)) : w.heap.size ≤ gb163)); have n4_ := am_ ((by rw [hg]; exact (below_size (bl_)) : w.heap.size ≤ gb163)); have n5_ := am_ ((by rw [hg]; exact Nat.ne_of_lt (blk_lt (g := gb162) (o := .cells #[.int .i64 a1_0, .int .i64 a1_1, .string a1_2] 23 (0, 0)) (bk_ BK162.out)) : gb162 ≠ gb163)); have n6_ := am_ ((by rw [hg]; exact Nat.ne_of_gt (blk_lt (g := gb162) (o := .cells #[.int .i64 a1_0, .int .i64 a1_1, .string a1_2] 23 (0, 0)) (bk_ BK162.out)) : gb163 ≠ gb162)); clear BK162; clear HB; have BK162 := n0_; have HB := n1_; have BK163 := n2_; have GW163 := n3_; have GE163 := n4_; have NB162_163 := n5_; have NB163_162 := n6_; clear n0_ n1_ n2_ n3_ n4_ n5_ n6_; clear hb hbox hg; have hnb55 := NB162_163.out; have hnc55 := NB163_162.out; obtain ⟨hcz56_0, hcz56_1, hcz56_2, hfz56_0, hfz56_1, hfz56_2⟩ := bw3_ BK162.out; obtain ⟨hcz57_0, hcz57_1, hcz57_2, hfz57_0, hfz57_1, hfz57_2⟩ := bw3_ BK163.out) | ((with_reducible refine gate_callee (f := 165) rfl ?_); refine goesL_ (some 13) rfl rfl Tryd.func165 (by kernel_rfl) rfl #[.agg #[.int .i64 a1_0, .int .i64 a1_1, .string a1_2], .agg #[.int .i64 a2_0, .int .i64 a2_1, .string a2_2]] rfl (by (try simp only [List.map_toArray, List.map_cons, List.map_nil]); first | done | rfl | (simp only [List.length_drop, List.length_take]; rfl)) ?_; (with_reducible refine (r01_Cmp.calls k a1_0 a1_1 a1_2 a2_0 a2_1 a2_2 t164 false _ A4.out).mono ?_); rintro e w58 ⟨rfl, hb⟩; refine ⟨_, rfl, ?_⟩; replace BK162 := am_ (blk_below (bk_ BK162.out) hb); replace BK163 := am_ (blk_below (bk_ BK163.out) hb); replace HB := am_ (below_step (bl_) hb); (try clear hb); (try clear hb2); (try clear hk); (try clear hi)))
  go_ret
  exact ⟨ew_, bl_⟩
end Go.Proofs.YtcfgjaggccnoaaaDoor.PTableSteps
namespace Go.Proofs.YtcfgjaggccnoaaaDoor.PTableSteps
open Go.RowKit Go.Proofs.YtcfgjaggccnoaaaDoorW.PrintWords Go.Proofs.YtcfgjaggccnoaaaDoorW.PrintLast Go.Proofs.YtcfgjaggccnoaaaDoorW.PrintMore
attribute [local go_sem] max2_int min2_int max_two min_two max_three min_three max_four min_four
set_option linter.unusedVariables false
set_option maxHeartbeats 8000000
set_option linter.unusedSimpArgs false
set_option maxRecDepth 100000
def r24_Match.l0 : Nat → List (S23) → List (S23) → Int → Option (Bool)
 | 0, _, _, _ => none
 | k + 1, x0, x1, x5 => if x5 < (x0.length : Int) then (if 0 ≤ x5 then (if x5 < (x1.length : Int) then ((r02_Test.f k 1 ((rd_T23 x0 x5).f0) ((rd_T23 x0 x5).f1) ((rd_T23 x0 x5).f2) ((rd_T23 x1 x5).f0) ((rd_T23 x1 x5).f1) ((rd_T23 x1 x5).f2)).bind fun t191 => (if t191 = 1 then (r24_Match.l0 k x0 x1 (wrap64 (x5 + 1))) else (some false))) else (none)) else (none)) else (some true)
def r24_Match.f (k : Nat) (l0 : List (S23)) (l1 : List (S23)) : Option (Bool) := if (l0.length : Int) = (l1.length : Int) then (r24_Match.l0 k l0 l1 0) else (some false)
theorem r24_Match.mono_l : ∀ k, (∀ y0 y1 y2, LeO (r24_Match.l0 k y0 y1 y2) (r24_Match.l0 (k + 1) y0 y1 y2))
 | 0 => fun _ _ _ r h => by simp [r24_Match.l0] at h
 | k + 1 => by
  have ih0 := r24_Match.mono_l k
  ·intro y0 y1 y2
   unfold r24_Match.l0
   repeat' first
   | (with_reducible exact ih0 _ _ _)
   | (with_reducible exact r02_Test.mono _ _ _ _ _ _ _ _)
   | (with_reducible exact LeO.refl _)
   | (with_reducible exact LeO.none _)
   | (with_reducible refine LeO.ite ?_ ?_)
   | (with_reducible refine LeO.bind ?_ (fun _ => ?_))
   | exact ih0 _ _ _
   | exact r02_Test.mono _ _ _ _ _ _ _ _
   | exact LeO.none _
   | refine LeO.ite ?_ ?_
   | refine LeO.bind ?_ (fun _ => ?_)
theorem r24_Match.mono : ∀ a0 a1 k, LeO (r24_Match.f k a0 a1) (r24_Match.f (k + 1) a0 a1) := by
 intro a0 a1 k; have ih0 := r24_Match.mono_l k; unfold r24_Match.f
 repeat' first
   | (with_reducible exact ih0 _ _ _)
   | (with_reducible exact r02_Test.mono _ _ _ _ _ _ _ _)
   | (with_reducible exact LeO.refl _)
   | (with_reducible exact LeO.none _)
   | (with_reducible refine LeO.ite ?_ ?_)
   | (with_reducible refine LeO.bind ?_ (fun _ => ?_))
   | exact ih0 _ _ _
   | exact r02_Test.mono _ _ _ _ _ _ _ _
   | exact LeO.none _
   | refine LeO.ite ?_ ?_
   | refine LeO.bind ?_ (fun _ => ?_)
def r24_Match.T6 : Bool × List (List Nat × List Nat) := (true, [([], []), ([], []), ([0, 1], [0, 1]), ([2], [2]), ([], []), ([], []), ([4, 5], [4, 5]), ([6], [6]), ([3, 7], [3, 7]), ([8], [8])])
def r24_Match.B6 : List Nat := [0, 0, 3, 7, 0, 0, 48, 112, 255, 511]
theorem r24_Match.tab6 : rtab .any (opsOf Tryd.f115 6) = r24_Match.T6 := by kernel_rfl
theorem r24_Match.bits6 : waitsOk r24_Match.T6.2 r24_Match.B6 = true := by kernel_rfl
theorem r24_Match.calls (k : Nat) (A0 : Option Addr) (c0 : Nat) (l0 : List (S23)) (A1 : Option Addr) (c1 : Nat) (l1 : List (S23)) (r : Bool) (w : World) (hr0 : Kd.C k23 w A0 l0.length l0) (hc0 : l0.length ≤ c0) (hr1 : Kd.C k23 w A1 l1.length l1) (hc1 : l1.length ≤ c1) (h : r24_Match.f k l0 l1 = some r) :
  Calls Tryd.prog 115 #[.slice A0 l0.length c0, .slice A1 l1.length c1] w fun e w' => e = .returned (.bool r) ∧ Below w.heap.size w w' := by
 have hu23 := Tryd.underlying23; have HR0 := am_ hr0; have HC0 := am_ hc0; clear hr0 hc0; have HR1 := am_ hr1; have HC1 := am_ hc1; clear hr1 hc1; have HB := am_ (Below.refl w.heap.size w); have H : (if (l0.length : Int) = (l1.length : Int) then (r24_Match.l0 k l0 l1 0) else (some false)) = some r := h; clear h
 by_cases c3 : (l0.length : Int) = (l1.length : Int)
 ·rw [if_pos c3] at H
  have c3b0 : ((l0.length : Int) == (l1.length : Int)) = true := beq_iff_eq.mpr c3; have c3b1 : ((l0.length : Int) != (l1.length : Int)) = false := bne_eq_false_iff_eq.mpr c3
  have c3b2 : (l0.length == l1.length) = true := by first | simpa using c3 | (simp at c3 ⊢; omega)
  clear c3; have H' := am_ H; clear H
  go_enter Tryd.func115, Tryd.ntmps115
  go_wp2
  go_loopg [5] k (fun kq v5 w' => ∃ (x5_1 : Int), v5 = .int .i64 x5_1 ∧ Aside0 (r24_Match.l0 kq l0 l1 x5_1 = some r) ∧ Aside0 (kq ≤ k) ∧ Aside0 (Below w.heap.size w w'))
  case atStart => exact ⟨(0), (rs_), H', ⟨Nat.le_refl _⟩, ⟨bl_⟩⟩
  case round =>
   clear H'; (try clear c1); (try clear p2); (try clear c3); (try clear c3b0); (try clear c3b1); (try clear c3b2); obtain ⟨x5_1, rfl, HA, HK1, HB⟩ := hrel
   cases gk with
   | zero => exact absurd HA.out (by simp [r24_Match.l0])
   | succ k1 =>
    have H := HA.out; clear HA; simp only [r24_Match.l0] at H
    by_cases c4 : x5_1 < (l0.length : Int)
    ·rw [if_pos c4] at H
     have c4b0 : decide (x5_1 < (l0.length : Int)) = true := decide_eq_true c4; clear c4
     by_cases c5 : 0 ≤ x5_1
     ·rw [if_pos c5] at H
      have c5b0 : decide (0 ≤ x5_1) = true := decide_eq_true c5; clear c5
      by_cases c6 : x5_1 < (l1.length : Int)
      ·rw [if_pos c6] at H
       have c6b0 : decide (x5_1 < (l1.length : Int)) = true := decide_eq_true c6; clear c6; replace H := Option.bind_eq_some_iff.mp H; obtain ⟨t191, A70, H⟩ := H; replace H : (if t191 = 1 then (r24_Match.l0 k1 l0 l1 (wrap64 (x5_1 + 1))) else (some false)) = some r := H; have A7 := am_ A70; clear A70
       by_cases c8 : t191 = 1
       ·rw [if_pos c8] at H
        have c8b0 : (t191 == 1) = true := beq_iff_eq.mpr c8; have c8b1 : (t191 != 1) = false := bne_eq_false_iff_eq.mpr c8; clear c8; have H' := am_ H; clear H
        try go_wp2
        have n0_ := am_ (below_drew1 HB.out); clear HB; have HB := n0_; clear n0_; have p189 : 0 ≤ (x5_1 : Int) := of_decide_eq_true (as_); have q189 : x5_1 < (l0.length : Int) := of_decide_eq_true (as_); obtain ⟨ad189, e189, hx189_0, hx189_1, hx189_2⟩ := at_T23 HR0.out x5_1 p189 q189; have hw189_2 := hx189_2; have hw189_1 := hx189_1; have hw189_0 := hx189_0; cases e189; replace hx189_0 := (HB.out.cell (World.block_lt_of_cell? w _ hx189_0)).trans hx189_0; replace hx189_1 := (HB.out.cell (World.block_lt_of_cell? w _ hx189_1)).trans hx189_1; replace hx189_2 := (HB.out.cell (World.block_lt_of_cell? w _ hx189_2)).trans hx189_2; replace p189 := eq_true p189; replace q189 := eq_true q189; have p190 : 0 ≤ (x5_1 : Int) := of_decide_eq_true (as_); have q190 : x5_1 < (l1.length : Int) := of_decide_eq_true (as_); obtain ⟨ad190, e190, hx190_0, hx190_1, hx190_2⟩ := at_T23 HR1.out x5_1 p190 q190; have hw190_2 := hx190_2; have hw190_1 := hx190_1; have hw190_0 := hx190_0; cases e190; replace hx190_0 := (HB.out.cell (World.block_lt_of_cell? w _ hx190_0)).trans hx190_0; replace hx190_1 := (HB.out.cell (World.block_lt_of_cell? w _ hx190_1)).trans hx190_1; replace hx190_2 := (HB.out.cell (World.block_lt_of_cell? w _ hx190_2)).trans hx190_2; replace p190 := eq_true p190; replace q190 := eq_true q190
        refine start_ (n := 10) (S := fun w' => w'.cell? (ad189.add ((x5_1).toNat * 3)) = some (.int .i64 ((rd_T23 l0 x5_1).f0)) ∧ w'.cell? ⟨(ad189.add ((x5_1).toNat * 3)).block, (ad189.add ((x5_1).toNat * 3)).off + 1, none⟩ = some (.int .i64 ((rd_T23 l0 x5_1).f1)) ∧ w'.cell? ⟨(ad189.add ((x5_1).toNat * 3)).block, (ad189.add ((x5_1).toNat * 3)).off + 2, none⟩ = some (.string ((rd_T23 l0 x5_1).f2)) ∧ w'.cell? (ad190.add ((x5_1).toNat * 3)) = some (.int .i64 ((rd_T23 l1 x5_1).f0)) ∧ w'.cell? ⟨(ad190.add ((x5_1).toNat * 3)).block, (ad190.add ((x5_1).toNat * 3)).off + 1, none⟩ = some (.int .i64 ((rd_T23 l1 x5_1).f1)) ∧ w'.cell? ⟨(ad190.add ((x5_1).toNat * 3)).block, (ad190.add ((x5_1).toNat * 3)).off + 2, none⟩ = some (.string ((rd_T23 l1 x5_1).f2))) (ds := []) #[false, false, false, false, false, false, false, false, false, false] (by kernel_rfl) rfl rfl ⟨((HB.out.cell (World.block_lt_of_cell? w _ hw189_0)).trans hw189_0), ((HB.out.cell (World.block_lt_of_cell? w _ hw189_1)).trans hw189_1), ((HB.out.cell (World.block_lt_of_cell? w _ hw189_2)).trans hw189_2), ((HB.out.cell (World.block_lt_of_cell? w _ hw190_0)).trans hw190_0), ((HB.out.cell (World.block_lt_of_cell? w _ hw190_1)).trans hw190_1), ((HB.out.cell (World.block_lt_of_cell? w _ hw190_2)).trans hw190_2)⟩ (fun hHeld => ?_); refine with_tabW r24_Match.tab6 r24_Match.bits6 (fun HT_ HW_ => ?_)
        generalize wr.drew = w9 at HB hx189_0 hx189_1 hx189_2 hx190_0 hx190_1 hx190_2 hHeld ⊢
        refine pure_ (i := 0) (N := some 17) (v := ?_) (a' := ?_) #[true, false, false, false, false, false, false, false, false, false] rfl rfl (any_of HT_.out (by kernel_rfl)) (fun _ _ _ h => h) (Or.inl ⟨by rfl, ?_⟩) ?_ ?_; rotate_left
        ·intro w'
         go_simp; (with_reducible rfl)
        rotate_left
        ·simp only [Act.put, sa_, sz_, ss_, i64_w, i32_w]
         rfl
        refine pure_ (i := 1) (N := some 18) (v := ?_) (a' := ?_) #[true, true, false, false, false, false, false, false, false, false] rfl rfl (any_of HT_.out (by kernel_rfl)) (fun _ _ _ h => h) (Or.inl ⟨by rfl, ?_⟩) ?_ ?_; rotate_left
        ·intro w'
         go_simp; (with_reducible rfl)
        rotate_left
        ·simp only [Act.put, sa_, sz_, ss_, i64_w, i32_w]
         rfl
        refine pure_ (i := 2) (N := some 19) (v := ?_) (a' := ?_) #[true, true, true, false, false, false, false, false, false, false] rfl rfl (any_of HT_.out (by kernel_rfl)) (fun _ _ _ h => h) (Or.inl ⟨by rfl, ?_⟩) ?_ ?_; rotate_left
        ·intro w'
         go_simp; (with_reducible rfl)
        rotate_left
        ·simp only [Act.put, sa_, sz_, ss_, i64_w, i32_w]
         rfl
        refine pure_ (i := 4) (N := some 21) (v := ?_) (a' := ?_) #[true, true, true, false, true, false, false, false, false, false] rfl rfl (any_of HT_.out (by kernel_rfl)) (fun _ _ _ h => h) (Or.inl ⟨by rfl, ?_⟩) ?_ ?_; rotate_left
        ·intro w'
         go_simp; (with_reducible rfl)
        rotate_left
        ·simp only [Act.put, sa_, sz_, ss_, i64_w, i32_w]
         rfl
        refine pure_ (i := 5) (N := some 22) (v := ?_) (a' := ?_) #[true, true, true, false, true, true, false, false, false, false] rfl rfl (any_of HT_.out (by kernel_rfl)) (fun _ _ _ h => h) (Or.inl ⟨by rfl, ?_⟩) ?_ ?_; rotate_left
        ·intro w'
         go_simp; (with_reducible rfl)
        rotate_left
        ·simp only [Act.put, sa_, sz_, ss_, i64_w, i32_w]
         rfl
        refine pure_ (i := 6) (N := some 23) (v := ?_) (a' := ?_) #[true, true, true, false, true, true, true, false, false, false] rfl rfl (any_of HT_.out (by kernel_rfl)) (fun _ _ _ h => h) (Or.inl ⟨by rfl, ?_⟩) ?_ ?_; rotate_left
        ·intro w'
         go_simp; (with_reducible rfl)
        rotate_left
        ·simp only [Act.put, sa_, sz_, ss_, i64_w, i32_w]
         rfl
        refine take_ (i := 3) (N := some 20) (v := ?_) (a' := ?_) #[true, true, true, true, true, true, true, false, false, false] rfl rfl (take_ofW HT_.out HW_.out (by kernel_rfl)) (fun _ _ _ h => h) (Or.inl ⟨by rfl, ?_⟩) hHeld ?_ ?_; rotate_left
        ·rintro w' ⟨s0, s1, s2, s3, s4, s5⟩
         go_simp; (with_reducible rfl)
        rotate_left
        ·simp only [Act.put, sa_, sz_, ss_, i64_w, i32_w]
         rfl
        refine take_ (i := 7) (N := some 24) (v := ?_) (a' := ?_) #[true, true, true, true, true, true, true, true, false, false] rfl rfl (take_ofW HT_.out HW_.out (by kernel_rfl)) (fun _ _ _ h => h) (Or.inl ⟨by rfl, ?_⟩) hHeld ?_ ?_; rotate_left
        ·rintro w' ⟨s0, s1, s2, s3, s4, s5⟩
         go_simp; (with_reducible rfl)
        rotate_left
        ·simp only [Act.put, sa_, sz_, ss_, i64_w, i32_w]
         rfl
        refine one_ (i := 8) (N := some 25) #[true, true, true, true, true, true, true, true, true, false] rfl rfl (one_of HT_.out (by kernel_rfl)) (by decide) (fun K hK => ?_); refine goes_ Tryd.func147 (by kernel_rfl) rfl #[.int .i64 1, .agg #[.int .i64 ((rd_T23 l0 x5_1).f0), .int .i64 ((rd_T23 l0 x5_1).f1), .string ((rd_T23 l0 x5_1).f2)], .agg #[.int .i64 ((rd_T23 l1 x5_1).f0), .int .i64 ((rd_T23 l1 x5_1).f1), .string ((rd_T23 l1 x5_1).f2)]] (by rfl) rfl rfl (by (try simp only [List.map_toArray, List.map_cons, List.map_nil]); first | done | rfl | (simp only [List.length_drop, List.length_take]; rfl)) ?_; (with_reducible refine (r02_Test.calls k1 1 ((rd_T23 l0 x5_1).f0) ((rd_T23 l0 x5_1).f1) ((rd_T23 l0 x5_1).f2) ((rd_T23 l1 x5_1).f0) ((rd_T23 l1 x5_1).f1) ((rd_T23 l1 x5_1).f2) t191 _ A7.out).mono ?_); rintro e w10 ⟨rfl, hb⟩; refine ⟨_, rfl, ?_⟩; have n0_ := am_ (below_step (bl_) hb); clear HB; have HB := n0_; clear n0_; (try clear hb); (try clear hb2); (try clear hk); (try clear hi); refine hK.out _ _ ⟨((HB.out.cell (World.block_lt_of_cell? w _ hw189_0)).trans hw189_0), ((HB.out.cell (World.block_lt_of_cell? w _ hw189_1)).trans hw189_1), ((HB.out.cell (World.block_lt_of_cell? w _ hw189_2)).trans hw189_2), ((HB.out.cell (World.block_lt_of_cell? w _ hw190_0)).trans hw190_0), ((HB.out.cell (World.block_lt_of_cell? w _ hw190_1)).trans hw190_1), ((HB.out.cell (World.block_lt_of_cell? w _ hw190_2)).trans hw190_2)⟩ (fun hHeld => ?_); clear hK K; refine norm_ (a' := ?_) ?_ ?_; rotate_left
        ·show Act.put _ (some 25) _ = _
         simp only [Act.put, sa_, sz_, ss_, i64_w, i32_w]; rfl
        refine pure_ (i := 9) (N := some 26) (v := ?_) (a' := ?_) #[true, true, true, true, true, true, true, true, true, true] rfl rfl (any_of HT_.out (by kernel_rfl)) (fun _ _ _ h => h) (Or.inl ⟨by rfl, ?_⟩) ?_ ?_; rotate_left
        ·intro w'
         go_simp; (with_reducible rfl)
        rotate_left
        ·simp only [Act.put, sa_, sz_, ss_, i64_w, i32_w]
         rfl
        refine done_ (done_of HT_.out (by kernel_rfl)) ?_
        try go_wp2
        go_roundg k1
        case measure => have := HK1.out; omega
        case rel => exact ⟨(wrap64 (x5_1 + 1)), (rs_), H', ⟨by have := HK1.out; omega⟩, ⟨bl_⟩⟩
       ·rw [if_neg c8] at H
        have c8b0 : (t191 == 1) = false := beq_eq_false_iff_ne.mpr c8; have c8b1 : (t191 != 1) = true := bne_iff_ne.mpr c8; obtain rfl := Option.some.inj H
        try go_wp2
        have n0_ := am_ (below_drew1 HB.out); clear HB; have HB := n0_; clear n0_; have p189 : 0 ≤ (x5_1 : Int) := of_decide_eq_true (as_); have q189 : x5_1 < (l0.length : Int) := of_decide_eq_true (as_); obtain ⟨ad189, e189, hx189_0, hx189_1, hx189_2⟩ := at_T23 HR0.out x5_1 p189 q189; have hw189_2 := hx189_2; have hw189_1 := hx189_1; have hw189_0 := hx189_0; cases e189; replace hx189_0 := (HB.out.cell (World.block_lt_of_cell? w _ hx189_0)).trans hx189_0; replace hx189_1 := (HB.out.cell (World.block_lt_of_cell? w _ hx189_1)).trans hx189_1; replace hx189_2 := (HB.out.cell (World.block_lt_of_cell? w _ hx189_2)).trans hx189_2; replace p189 := eq_true p189; replace q189 := eq_true q189; have p190 : 0 ≤ (x5_1 : Int) := of_decide_eq_true (as_); have q190 : x5_1 < (l1.length : Int) := of_decide_eq_true (as_); obtain ⟨ad190, e190, hx190_0, hx190_1, hx190_2⟩ := at_T23 HR1.out x5_1 p190 q190; have hw190_2 := hx190_2; have hw190_1 := hx190_1; have hw190_0 := hx190_0; cases e190; replace hx190_0 := (HB.out.cell (World.block_lt_of_cell? w _ hx190_0)).trans hx190_0; replace hx190_1 := (HB.out.cell (World.block_lt_of_cell? w _ hx190_1)).trans hx190_1; replace hx190_2 := (HB.out.cell (World.block_lt_of_cell? w _ hx190_2)).trans hx190_2; replace p190 := eq_true p190; replace q190 := eq_true q190
        refine start_ (n := 10) (S := fun w' => w'.cell? (ad189.add ((x5_1).toNat * 3)) = some (.int .i64 ((rd_T23 l0 x5_1).f0)) ∧ w'.cell? ⟨(ad189.add ((x5_1).toNat * 3)).block, (ad189.add ((x5_1).toNat * 3)).off + 1, none⟩ = some (.int .i64 ((rd_T23 l0 x5_1).f1)) ∧ w'.cell? ⟨(ad189.add ((x5_1).toNat * 3)).block, (ad189.add ((x5_1).toNat * 3)).off + 2, none⟩ = some (.string ((rd_T23 l0 x5_1).f2)) ∧ w'.cell? (ad190.add ((x5_1).toNat * 3)) = some (.int .i64 ((rd_T23 l1 x5_1).f0)) ∧ w'.cell? ⟨(ad190.add ((x5_1).toNat * 3)).block, (ad190.add ((x5_1).toNat * 3)).off + 1, none⟩ = some (.int .i64 ((rd_T23 l1 x5_1).f1)) ∧ w'.cell? ⟨(ad190.add ((x5_1).toNat * 3)).block, (ad190.add ((x5_1).toNat * 3)).off + 2, none⟩ = some (.string ((rd_T23 l1 x5_1).f2))) (ds := []) #[false, false, false, false, false, false, false, false, false, false] (by kernel_rfl) rfl rfl ⟨((HB.out.cell (World.block_lt_of_cell? w _ hw189_0)).trans hw189_0), ((HB.out.cell (World.block_lt_of_cell? w _ hw189_1)).trans hw189_1), ((HB.out.cell (World.block_lt_of_cell? w _ hw189_2)).trans hw189_2), ((HB.out.cell (World.block_lt_of_cell? w _ hw190_0)).trans hw190_0), ((HB.out.cell (World.block_lt_of_cell? w _ hw190_1)).trans hw190_1), ((HB.out.cell (World.block_lt_of_cell? w _ hw190_2)).trans hw190_2)⟩ (fun hHeld => ?_); refine with_tabW r24_Match.tab6 r24_Match.bits6 (fun HT_ HW_ => ?_)
        generalize wr.drew = w11 at HB hx189_0 hx189_1 hx189_2 hx190_0 hx190_1 hx190_2 hHeld ⊢
        refine pure_ (i := 0) (N := some 17) (v := ?_) (a' := ?_) #[true, false, false, false, false, false, false, false, false, false] rfl rfl (any_of HT_.out (by kernel_rfl)) (fun _ _ _ h => h) (Or.inl ⟨by rfl, ?_⟩) ?_ ?_; rotate_left
        ·intro w'
         go_simp; (with_reducible rfl)
        rotate_left
        ·simp only [Act.put, sa_, sz_, ss_, i64_w, i32_w]
         rfl
        refine pure_ (i := 1) (N := some 18) (v := ?_) (a' := ?_) #[true, true, false, false, false, false, false, false, false, false] rfl rfl (any_of HT_.out (by kernel_rfl)) (fun _ _ _ h => h) (Or.inl ⟨by rfl, ?_⟩) ?_ ?_; rotate_left
        ·intro w'
         go_simp; (with_reducible rfl)
        rotate_left
        ·simp only [Act.put, sa_, sz_, ss_, i64_w, i32_w]
         rfl
        refine pure_ (i := 2) (N := some 19) (v := ?_) (a' := ?_) #[true, true, true, false, false, false, false, false, false, false] rfl rfl (any_of HT_.out (by kernel_rfl)) (fun _ _ _ h => h) (Or.inl ⟨by rfl, ?_⟩) ?_ ?_; rotate_left
        ·intro w'
         go_simp; (with_reducible rfl)
        rotate_left
        ·simp only [Act.put, sa_, sz_, ss_, i64_w, i32_w]
         rfl
        refine pure_ (i := 4) (N := some 21) (v := ?_) (a' := ?_) #[true, true, true, false, true, false, false, false, false, false] rfl rfl (any_of HT_.out (by kernel_rfl)) (fun _ _ _ h => h) (Or.inl ⟨by rfl, ?_⟩) ?_ ?_; rotate_left
        ·intro w'
         go_simp; (with_reducible rfl)
        rotate_left
        ·simp only [Act.put, sa_, sz_, ss_, i64_w, i32_w]
         rfl
        refine pure_ (i := 5) (N := some 22) (v := ?_) (a' := ?_) #[true, true, true, false, true, true, false, false, false, false] rfl rfl (any_of HT_.out (by kernel_rfl)) (fun _ _ _ h => h) (Or.inl ⟨by rfl, ?_⟩) ?_ ?_; rotate_left
        ·intro w'
         go_simp; (with_reducible rfl)
        rotate_left
        ·simp only [Act.put, sa_, sz_, ss_, i64_w, i32_w]
         rfl
        refine pure_ (i := 6) (N := some 23) (v := ?_) (a' := ?_) #[true, true, true, false, true, true, true, false, false, false] rfl rfl (any_of HT_.out (by kernel_rfl)) (fun _ _ _ h => h) (Or.inl ⟨by rfl, ?_⟩) ?_ ?_; rotate_left
        ·intro w'
         go_simp; (with_reducible rfl)
        rotate_left
        ·simp only [Act.put, sa_, sz_, ss_, i64_w, i32_w]
         rfl
        refine take_ (i := 3) (N := some 20) (v := ?_) (a' := ?_) #[true, true, true, true, true, true, true, false, false, false] rfl rfl (take_ofW HT_.out HW_.out (by kernel_rfl)) (fun _ _ _ h => h) (Or.inl ⟨by rfl, ?_⟩) hHeld ?_ ?_; rotate_left
        ·rintro w' ⟨s0, s1, s2, s3, s4, s5⟩
         go_simp; (with_reducible rfl)
        rotate_left
        ·simp only [Act.put, sa_, sz_, ss_, i64_w, i32_w]
         rfl
        refine take_ (i := 7) (N := some 24) (v := ?_) (a' := ?_) #[true, true, true, true, true, true, true, true, false, false] rfl rfl (take_ofW HT_.out HW_.out (by kernel_rfl)) (fun _ _ _ h => h) (Or.inl ⟨by rfl, ?_⟩) hHeld ?_ ?_; rotate_left
        ·rintro w' ⟨s0, s1, s2, s3, s4, s5⟩
         go_simp; (with_reducible rfl)
        rotate_left
        ·simp only [Act.put, sa_, sz_, ss_, i64_w, i32_w]
         rfl
        refine one_ (i := 8) (N := some 25) #[true, true, true, true, true, true, true, true, true, false] rfl rfl (one_of HT_.out (by kernel_rfl)) (by decide) (fun K hK => ?_); refine goes_ Tryd.func147 (by kernel_rfl) rfl #[.int .i64 1, .agg #[.int .i64 ((rd_T23 l0 x5_1).f0), .int .i64 ((rd_T23 l0 x5_1).f1), .string ((rd_T23 l0 x5_1).f2)], .agg #[.int .i64 ((rd_T23 l1 x5_1).f0), .int .i64 ((rd_T23 l1 x5_1).f1), .string ((rd_T23 l1 x5_1).f2)]] (by rfl) rfl rfl (by (try simp only [List.map_toArray, List.map_cons, List.map_nil]); first | done | rfl | (simp only [List.length_drop, List.length_take]; rfl)) ?_; (with_reducible refine (r02_Test.calls k1 1 ((rd_T23 l0 x5_1).f0) ((rd_T23 l0 x5_1).f1) ((rd_T23 l0 x5_1).f2) ((rd_T23 l1 x5_1).f0) ((rd_T23 l1 x5_1).f1) ((rd_T23 l1 x5_1).f2) t191 _ A7.out).mono ?_); rintro e w12 ⟨rfl, hb⟩; refine ⟨_, rfl, ?_⟩; have n0_ := am_ (below_step (bl_) hb); clear HB; have HB := n0_; clear n0_; (try clear hb); (try clear hb2); (try clear hk); (try clear hi); refine hK.out _ _ ⟨((HB.out.cell (World.block_lt_of_cell? w _ hw189_0)).trans hw189_0), ((HB.out.cell (World.block_lt_of_cell? w _ hw189_1)).trans hw189_1), ((HB.out.cell (World.block_lt_of_cell? w _ hw189_2)).trans hw189_2), ((HB.out.cell (World.block_lt_of_cell? w _ hw190_0)).trans hw190_0), ((HB.out.cell (World.block_lt_of_cell? w _ hw190_1)).trans hw190_1), ((HB.out.cell (World.block_lt_of_cell? w _ hw190_2)).trans hw190_2)⟩ (fun hHeld => ?_); clear hK K; refine norm_ (a' := ?_) ?_ ?_; rotate_left
        ·show Act.put _ (some 25) _ = _
         simp only [Act.put, sa_, sz_, ss_, i64_w, i32_w]; rfl
        refine pure_ (i := 9) (N := some 26) (v := ?_) (a' := ?_) #[true, true, true, true, true, true, true, true, true, true] rfl rfl (any_of HT_.out (by kernel_rfl)) (fun _ _ _ h => h) (Or.inl ⟨by rfl, ?_⟩) ?_ ?_; rotate_left
        ·intro w'
         go_simp; (with_reducible rfl)
        rotate_left
        ·simp only [Act.put, sa_, sz_, ss_, i64_w, i32_w]
         rfl
        refine done_ (done_of HT_.out (by kernel_rfl)) ?_
        try go_wp2
        go_ret
        exact ⟨ew_, bl_⟩
      ·rw [if_neg c6] at H
       exact absurd H (by simp)
     ·rw [if_neg c5] at H
      exact absurd H (by simp)
    ·rw [if_neg c4] at H
     have c4b0 : decide (x5_1 < (l0.length : Int)) = false := decide_eq_false c4; clear c4; obtain rfl := Option.some.inj H
     go_wp2
     go_ret
     exact ⟨ew_, bl_⟩
 ·rw [if_neg c3] at H
  have c3b0 : ((l0.length : Int) == (l1.length : Int)) = false := beq_eq_false_iff_ne.mpr c3; have c3b1 : ((l0.length : Int) != (l1.length : Int)) = true := bne_iff_ne.mpr c3
  have c3b2 : (l0.length == l1.length) = false := by first | simpa using c3 | (simp at c3 ⊢; omega)
  obtain rfl := Option.some.inj H
  go_enter Tryd.func115, Tryd.ntmps115
  go_wp2
  go_ret
  exact ⟨ew_, bl_⟩
def r34_Find.l0 : Nat → List (S23) → List (List (S23)) → Int → List (List (S23)) → List (List (S23)) → Bool → Option ((List (List (S23))))
 | 0, _, _, _, _, _, _ => none
 | k + 1, x1, x5, x6, x193000, x193001, x193002 => if x6 < (x193000.length : Int) then (if 0 ≤ x6 then ((r24_Match.f k x1 (rd_L3 x193000 x6)).bind fun t194 => (if t194 = true then (if x6 < (x193001.length : Int) then (if x5.length < 5864062014805 then (r34_Find.l0 k x1 (x5 ++ [rd_L3 x193001 x6]) (wrap64 (x6 + 1)) x193000 x193001 x193002) else (none)) else (none)) else (r34_Find.l0 k x1 x5 (wrap64 (x6 + 1)) x193000 x193001 x193002))) else (none)) else (some x5)
def r34_Find.f (k : Nat) (l0_0 : List (List (S23))) (l0_1 : List (List (S23))) (a0_2 : Bool) (l1 : List (S23)) : Option ((List (List (S23)))) := r34_Find.l0 k l1 ([] : List (List (S23))) 0 l0_0 l0_1 a0_2
theorem r34_Find.mono_l : ∀ k, (∀ y0 y1 y2 y3 y4 y5, LeO (r34_Find.l0 k y0 y1 y2 y3 y4 y5) (r34_Find.l0 (k + 1) y0 y1 y2 y3 y4 y5))
 | 0 => fun _ _ _ _ _ _ r h => by simp [r34_Find.l0] at h
 | k + 1 => by
  have ih0 := r34_Find.mono_l k
  ·intro y0 y1 y2 y3 y4 y5
   unfold r34_Find.l0
   repeat' first
   | (with_reducible exact ih0 _ _ _ _ _ _)
   | (with_reducible exact r24_Match.mono _ _ _)
   | (with_reducible exact LeO.refl _)
   | (with_reducible exact LeO.none _)
   | (with_reducible refine LeO.ite ?_ ?_)
   | (with_reducible refine LeO.bind ?_ (fun _ => ?_))
   | exact ih0 _ _ _ _ _ _
   | exact r24_Match.mono _ _ _
   | exact LeO.none _
   | refine LeO.ite ?_ ?_
   | refine LeO.bind ?_ (fun _ => ?_)
theorem r34_Find.mono : ∀ a0 a1 a2 a3 k, LeO (r34_Find.f k a0 a1 a2 a3) (r34_Find.f (k + 1) a0 a1 a2 a3) := by
 intro a0 a1 a2 a3 k; have ih0 := r34_Find.mono_l k; unfold r34_Find.f
 repeat' first
   | (with_reducible exact ih0 _ _ _ _ _ _)
   | (with_reducible exact r24_Match.mono _ _ _)
   | (with_reducible exact LeO.refl _)
   | (with_reducible exact LeO.none _)
   | (with_reducible refine LeO.ite ?_ ?_)
   | (with_reducible refine LeO.bind ?_ (fun _ => ?_))
   | exact ih0 _ _ _ _ _ _
   | exact r24_Match.mono _ _ _
   | exact LeO.none _
   | refine LeO.ite ?_ ?_
   | refine LeO.bind ?_ (fun _ => ?_)
theorem r34_Find.calls (k : Nat) (A0_0 : Option Addr) (c0_0 : Nat) (l0_0 : List (List (S23))) (P0_1_ : Nat → Prop) (A0_1 : Option Addr) (c0_1 : Nat) (l0_1 : List (List (S23))) (a0_2 : Bool) (A1 : Option Addr) (c1 : Nat) (l1 : List (S23)) (r : List (List (S23))) (w : World) (hr0_0 : Kd.C (Kd.slice 23 k23) w A0_0 l0_0.length l0_0) (hc0_0 : l0_0.length ≤ c0_0) (hs0_1 : Kd.V (Kd.slice 23 k23) 24 w w.heap.size (fun k_ => P0_1_ k_) (.slice A0_1 l0_1.length c0_1) l0_1) (hr1 : Kd.C k23 w A1 l1.length l1) (hc1 : l1.length ≤ c1) (h : r34_Find.f k l0_0 l0_1 a0_2 l1 = some r) :
  Calls Tryd.prog 73 #[.agg #[.slice A0_0 l0_0.length c0_0, .slice A0_1 l0_1.length c0_1, .bool a0_2], .slice A1 l1.length c1] w fun e w' => ∃ v0_ : Value, e = .returned (v0_) ∧ Kd.N (Kd.slice 23 k23) 24 w' w.heap.size (fun k_ => (P0_1_ k_ ∨ w.heap.size ≤ k_)) v0_ r ∧ Below w.heap.size w w' := by
 have hu58 := Tryd.underlying58; have HR0_0 := am_ hr0_0; have HC0_0 := am_ hc0_0; clear hr0_0 hc0_0; have HO0_1 := am_ (show Kd.V (Kd.slice 23 k23) 24 w w.heap.size (fun k_ => (P0_1_ k_ ∨ w.heap.size ≤ k_)) (.slice A0_1 l0_1.length c0_1) l0_1 from Kd.V_mono hs0_1 (fun k_ hk => .inl hk)); have HR1 := am_ hr1; have HC1 := am_ hc1; clear hr1 hc1; have HB := am_ (Below.refl w.heap.size w); have H : (r34_Find.l0 k l1 ([] : List (List (S23))) 0 l0_0 l0_1 a0_2) = some r := h; clear h; have H' := am_ H; clear H
 go_enter Tryd.func73, Tryd.ntmps73
 go_wp2_with (first | ((with_reducible refine gate_dst (N := 2) rfl ?_); refine box_event ?hg (N := 2) ?hd (cs := #[.slice A0_0 l0_0.length c0_0, .slice A0_1 l0_1.length c0_1, .bool a0_2]) (t := 58) ?hr ?_; (case hd => rfl); (case hg => rfl); (case hr => first | (go_simp; done) | (go_simp; rfl)); intro gb192 hg w3 hbox hb; replace HO0_1 := am_ (Kd.V_below (Kd.V_elderB (kv_ HO0_1.out) gb192 (Nat.le_of_eq hg.symm)) hb); have BK192 := am_ (hbox); have GW192 := am_ ((by rw [hg]; exact (below_size (bl_)) : w.heap.size ≤ gb192)); have GE192 := am_ ((by rw [hg]; exact (below_size (bl_)) : w.heap.size ≤ gb192)); replace HB := am_ (below_step (bl_) hb); clear hb hbox hg))
 go_loopg [5, 6] k (fun kq v5 v6 w' => ∃ (x5_1 : List (List (S23))) (x6_1 : Int), v6 = .int .i64 x6_1 ∧ Aside0 (r34_Find.l0 kq l1 x5_1 x6_1 l0_0 l0_1 a0_2 = some r) ∧ Aside0 (kq ≤ k) ∧ Aside0 (Kd.N (Kd.slice 23 k23) 24 w' w.heap.size (fun k_ => (P0_1_ k_ ∨ w.heap.size ≤ k_) ∧ k_ ≠ gb192) v5 x5_1) ∧ Aside0 (Kd.V (Kd.slice 23 k23) 24 w' w.heap.size (fun k_ => (P0_1_ k_ ∨ w.heap.size ≤ k_) ∧ some k_ ≠ (v5 : Value).ownBlock ∧ k_ ≠ gb192) (.slice A0_1 l0_1.length c0_1) l0_1) ∧ Aside0 (w'.heap[gb192]? = some (.cells #[(.slice A0_0 l0_0.length c0_0), (.slice A0_1 l0_1.length c0_1), .bool a0_2] 58 (0, 0))) ∧ Aside0 (Below w.heap.size w w'))
 case atStart => exact ⟨(([] : List (List (S23)))), (0), (rs_), H', ⟨Nat.le_refl _⟩, ⟨by first | exact Kd.S_nil _ _ _ _ _ | exact Kd.N_nil _ _ _ _ _ | exact Kd.V_nil _ _ _ _ _ | exact Kd.Q_nil _ _ _ _ _ | exact Kd.R_nil _ _ _ _ _⟩, ⟨by (with_reducible repeat (first | apply Kd.V_alloc | apply Kd.V_drewN | apply Kd.V_drew)); exact Kd.V_mono HO0_1.out (fun _ hk => ⟨hk.1, ⟨(by simp [Value.ownBlock]), hk.2⟩⟩)⟩, ⟨bk_ BK192.out⟩, ⟨bl_⟩⟩
 case round =>
  clear H'; (try clear c1); (try clear p2); obtain ⟨x5_1, x6_1, rfl, HA, HK1, HO_5, HO_193001, BK192, HB⟩ := hrel
  cases gk with
  | zero => exact absurd HA.out (by simp [r34_Find.l0])
  | succ k1 =>
   have H := HA.out; clear HA; simp only [r34_Find.l0] at H
   by_cases c4 : x6_1 < (l0_0.length : Int)
   ·rw [if_pos c4] at H
    have c4b0 : decide (x6_1 < (l0_0.length : Int)) = true := decide_eq_true c4; clear c4
    by_cases c5 : 0 ≤ x6_1
    ·rw [if_pos c5] at H
     have c5b0 : decide (0 ≤ x6_1) = true := decide_eq_true c5; clear c5; replace H := Option.bind_eq_some_iff.mp H; obtain ⟨t194, A60, H⟩ := H; replace H : (if t194 = true then (if x6_1 < (l0_1.length : Int) then (if x5_1.length < 5864062014805 then (r34_Find.l0 k1 l1 (x5_1 ++ [rd_L3 l0_1 x6_1]) (wrap64 (x6_1 + 1)) l0_0 l0_1 a0_2) else (none)) else (none)) else (r34_Find.l0 k1 l1 x5_1 (wrap64 (x6_1 + 1)) l0_0 l0_1 a0_2)) = some r := H; have A6 := am_ A60; clear A60
     by_cases c7 : t194 = true
     ·subst c7
      have H1 : (if x6_1 < (l0_1.length : Int) then (if x5_1.length < 5864062014805 then (r34_Find.l0 k1 l1 (x5_1 ++ [rd_L3 l0_1 x6_1]) (wrap64 (x6_1 + 1)) l0_0 l0_1 a0_2) else (none)) else (none)) = some r := by rw [if_pos rfl] at H; exact H
      clear H; have H := H1; clear H1
      by_cases c8 : x6_1 < (l0_1.length : Int)
      ·rw [if_pos c8] at H
       have c8b0 : decide (x6_1 < (l0_1.length : Int)) = true := decide_eq_true c8; clear c8
       by_cases c9 : x5_1.length < 5864062014805
       ·rw [if_pos c9] at H
        have LMc9 := am_ c9; clear c9
        obtain ⟨y196, hy196⟩ : ∃ y_ : List (List (S23)), y_ = (x5_1 ++ [rd_L3 l0_1 x6_1]) := ⟨_, rfl⟩
        replace H : (r34_Find.l0 k1 l1 y196 (wrap64 (x6_1 + 1)) l0_0 l0_1 a0_2) = some r := by first | (rw [hy196]; with_reducible exact H) | (have H2_ := (Option.bind_some _ _).symm.trans H; rw [hy196]; with_reducible exact H2_) | (have H2_ := (Option.bind_some _ _).symm.trans H; with_reducible exact H2_) | with_reducible exact H | (rw [hy196]; exact H) | exact H
        have Ny196 := am_ hy196; clear hy196; have H' := am_ H; clear H; obtain ⟨hcz10_0, hcz10_1, hcz10_2, hfz10_0, hfz10_1, hfz10_2⟩ := bw3_ BK192.out; have p193 : 0 ≤ (x6_1 : Int) := of_decide_eq_true (as_); have q193 : x6_1 < (l0_0.length : Int) := of_decide_eq_true (as_); obtain ⟨ad193, A193_0, c193_0, e193, hx193_0, hl193_0, hi193_0⟩ := at_L3 HR0_0.out x6_1 p193 q193; cases e193; replace hx193_0 := (HB.out.cell (World.block_lt_of_cell? w _ hx193_0)).trans hx193_0; have HR193_0 := am_ hi193_0; have HC193_0 := am_ hl193_0; clear hi193_0 hl193_0; replace p193 := eq_true p193; replace q193 := eq_true q193
        go_wp2_with (first | ((with_reducible refine gate_callee (f := 115) rfl ?_); refine goesL_ (some 20) rfl rfl Tryd.func115 (by kernel_rfl) rfl #[.slice A1 l1.length c1, .slice A193_0 (rd_L3 l0_0 x6_1).length c193_0] rfl (by (try simp only [List.map_toArray, List.map_cons, List.map_nil]); first | done | rfl | (simp only [List.length_drop, List.length_take]; rfl)) ?_; (with_reducible refine (r24_Match.calls k1 _ _ l1 _ _ (rd_L3 l0_0 x6_1) true _ ?side1 ?side2 ?side3 ?side4 A6.out).mono ?_); (case side1 => repeat (first | exact (Kd.C_below HR1.out HB.out) | (with_reducible refine Kd.C_alloc ?_ _) | (with_reducible refine Kd.C_drewN ?_ _) | (with_reducible refine Kd.C_drew ?_))); (case side2 => exact HC1.out); (case side3 => repeat (first | exact (Kd.C_below HR193_0.out HB.out) | (with_reducible refine Kd.C_alloc ?_ _) | (with_reducible refine Kd.C_drewN ?_ _) | (with_reducible refine Kd.C_drew ?_))); (case side4 => exact HC193_0.out); rintro e w11 ⟨rfl, hb⟩; refine ⟨_, rfl, ?_⟩; replace HO_5 := am_ (Kd.N_below (kn_ HO_5.out) hb); replace HO_193001 := am_ (Kd.V_below (kv_ HO_193001.out) hb); replace BK192 := am_ (blk_below (bk_ BK192.out) hb); replace HB := am_ (below_step (bl_) hb); (try clear hb); (try clear hb2); (try clear hk); (try clear hi); obtain ⟨hcz12_0, hcz12_1, hcz12_2, hfz12_0, hfz12_1, hfz12_2⟩ := bw3_ BK192.out; have p195 : 0 ≤ (x6_1 : Int) := of_decide_eq_true (as_); have q195 : x6_1 < (l0_1.length : Int) := of_decide_eq_true (as_); obtain ⟨ad195, A195_0, c195_0, e195, hx195_0, hl195_0, hi195_0⟩ := at_L3 (Kd.V_reads' HO_193001.out).2.2 x6_1 p195 q195; cases e195; obtain ⟨ce195, hce195, hMe195, hcc195⟩ := Kd.V_get HO_193001.out [] x6_1 p195 (by first | exact q195 | exact of_decide_eq_true (as_) | (have e_ := (Kd.V_reads' HO_193001.out).1; omega)); obtain ⟨ua195_0, uc195_0, rfl, ul195_0, ge195_0⟩ := Kd.FK_slice_open hMe195; have hv195_0 := hcc195 0 _ rfl; rw [Nat.add_zero, show ((Kd.slice 23 k23)).sz = 1 from rfl, Nat.mul_one] at hv195_0; replace hv195_0 := Option.some.inj (hv195_0.symm.trans hx195_0); injection hv195_0 with hva_ hvn_ hvc_; rw [hva_] at ge195_0; rw [hvc_] at ul195_0; have HL195_0 := am_ (show Kd.V k23 23 _ w.heap.size _ _ (rd_L3 l0_1 x6_1) from Kd.V_mk ul195_0 ge195_0); clear hva_ hvn_ hvc_ ge195_0 ul195_0; clear hcc195 hce195; have HR195_0 := am_ hi195_0; have HC195_0 := am_ hl195_0; clear hi195_0 hl195_0; replace p195 := eq_true p195; replace q195 := eq_true q195) | ((with_reducible refine gate_builtin (b := .append) (xs := #[.tmp 21, .tmp 27]) rfl ?_); at_builtin; refine Kd.N_append (Kd.slice 23 k23) (w0 := w) w.heap.size rfl (.tmp 21) (.tmp 27) 26 24 (.slice none 0 0) 24 rfl Tryd.underlying26 info24 rfl (by decide) (by omega) u5 x5_1 (rd_L3 l0_1 x6_1) [.slice A195_0 (rd_L3 l0_1 x6_1).length c195_0] (fun k_ => (P0_1_ k_ ∨ w.heap.size ≤ k_) ∧ k_ ≠ gb192) (fun k_ => ((fun k_ => (P0_1_ k_ ∨ w.heap.size ≤ k_) ∧ k_ ≠ gb192)) k_ ∧ some k_ ≠ (u5 : Value).ownBlock) rfl rfl ?aP (fun _ hk => hk) ?aF ?aO ?aB ?aS ?aL ?_; (case aP => exact (Kd.FK_slice_mk (Kd.V_reads' (Kd.V_mono (ok' := (fun k_ => ((fun k_ => (P0_1_ k_ ∨ w.heap.size ≤ k_) ∧ k_ ≠ gb192)) k_ ∧ some k_ ≠ (u5 : Value).ownBlock)) (kv_ (HL195_0.out)) (fun k_ hk => ⟨⟨hk.1, hk.2.2⟩, hk.2.1⟩))).2.1 (Kd.V_F (Kd.V_mono (ok' := (fun k_ => ((fun k_ => (P0_1_ k_ ∨ w.heap.size ≤ k_) ∧ k_ ≠ gb192)) k_ ∧ some k_ ≠ (u5 : Value).ownBlock)) (kv_ (HL195_0.out)) (fun k_ hk => ⟨⟨hk.1, hk.2.2⟩, hk.2.1⟩))))); (case aB => exact (bl_)); (case aF => exact (fun k_ hk => ⟨(.inr (Nat.le_trans (below_size (bl_)) hk)), Kd.freshB (g := gb192) (o := .cells #[.slice (some ad193) l0_0.length c0_0, .slice (some ad195) l0_1.length c0_1, .bool a0_2] 58 (0, 0)) (bk_ BK192.out) k_ hk⟩)); (case aO => exact (kn_ HO_5.out)); (case aS => exact (below_size (bl_))); (case aL => have := LMc9.out; omega); intro v197 w13 ho hb hg hat; rw [← Ny196.out] at ho; replace HO_193001 := am_ (Kd.V_afterv (ok := (fun k_ => (P0_1_ k_ ∨ w.heap.size ≤ k_) ∧ k_ ≠ gb192)) (by (with_reducible repeat (first | apply Kd.V_alloc | apply Kd.V_drewN | apply Kd.V_drew)); exact Kd.V_mono HO_193001.out (fun _ hk => ⟨⟨hk.1, hk.2.2⟩, hk.2.1⟩)) hg hat); replace BK192 := am_ (blk_grown (g := gb192) (o := .cells #[.slice (some ad193) l0_0.length c0_0, .slice (some ad195) l0_1.length c0_1, .bool a0_2] 58 (0, 0)) (bk_ BK192.out) hg (Kd.N_ne HO_5.out BK192.out (by decide))); replace HL195_0 := am_ (Kd.V_afterv (ok := (fun k_ => (P0_1_ k_ ∨ w.heap.size ≤ k_) ∧ k_ ≠ gb192)) (by (with_reducible repeat (first | apply Kd.V_alloc | apply Kd.V_drewN | apply Kd.V_drew)); exact Kd.V_mono HL195_0.out (fun _ hk => ⟨⟨hk.1, hk.2.2⟩, hk.2.1⟩)) hg hat); have HO198 := am_ (ho); replace HB := am_ (hb); clear HO_5; clear ho hb hg hat))
        go_roundg k1
        case measure => have := HK1.out; omega
        case rel => exact ⟨(y196), (wrap64 (x6_1 + 1)), (rs_), H', ⟨by have := HK1.out; omega⟩, ⟨kn_ HO198.out⟩, ⟨by (with_reducible repeat (first | apply Kd.V_alloc | apply Kd.V_drewN | apply Kd.V_drew)); exact Kd.V_mono HO_193001.out (fun _ hk => ⟨hk.1.1, ⟨hk.2, hk.1.2⟩⟩)⟩, ⟨bk_ BK192.out⟩, ⟨bl_⟩⟩
       ·rw [if_neg c9] at H
        exact absurd H (by simp)
      ·rw [if_neg c8] at H
       exact absurd H (by simp)
     ·replace c7 := Bool.eq_false_iff.mpr c7
      subst c7
      have H1 : (r34_Find.l0 k1 l1 x5_1 (wrap64 (x6_1 + 1)) l0_0 l0_1 a0_2) = some r := by rw [if_neg (show ¬ (false = true) by decide)] at H; exact H
      clear H; have H := H1; clear H1; have H' := am_ H; clear H; obtain ⟨hcz14_0, hcz14_1, hcz14_2, hfz14_0, hfz14_1, hfz14_2⟩ := bw3_ BK192.out; have p193 : 0 ≤ (x6_1 : Int) := of_decide_eq_true (as_); have q193 : x6_1 < (l0_0.length : Int) := of_decide_eq_true (as_); obtain ⟨ad193, A193_0, c193_0, e193, hx193_0, hl193_0, hi193_0⟩ := at_L3 HR0_0.out x6_1 p193 q193; cases e193; replace hx193_0 := (HB.out.cell (World.block_lt_of_cell? w _ hx193_0)).trans hx193_0; have HR193_0 := am_ hi193_0; have HC193_0 := am_ hl193_0; clear hi193_0 hl193_0; replace p193 := eq_true p193; replace q193 := eq_true q193
      go_wp2_with (first | ((with_reducible refine gate_callee (f := 115) rfl ?_); refine goesL_ (some 20) rfl rfl Tryd.func115 (by kernel_rfl) rfl #[.slice A1 l1.length c1, .slice A193_0 (rd_L3 l0_0 x6_1).length c193_0] rfl (by (try simp only [List.map_toArray, List.map_cons, List.map_nil]); first | done | rfl | (simp only [List.length_drop, List.length_take]; rfl)) ?_; (with_reducible refine (r24_Match.calls k1 _ _ l1 _ _ (rd_L3 l0_0 x6_1) false _ ?side1 ?side2 ?side3 ?side4 A6.out).mono ?_); (case side1 => repeat (first | exact (Kd.C_below HR1.out HB.out) | (with_reducible refine Kd.C_alloc ?_ _) | (with_reducible refine Kd.C_drewN ?_ _) | (with_reducible refine Kd.C_drew ?_))); (case side2 => exact HC1.out); (case side3 => repeat (first | exact (Kd.C_below HR193_0.out HB.out) | (with_reducible refine Kd.C_alloc ?_ _) | (with_reducible refine Kd.C_drewN ?_ _) | (with_reducible refine Kd.C_drew ?_))); (case side4 => exact HC193_0.out); rintro e w15 ⟨rfl, hb⟩; refine ⟨_, rfl, ?_⟩; replace HO_5 := am_ (Kd.N_below (kn_ HO_5.out) hb); replace HO_193001 := am_ (Kd.V_below (kv_ HO_193001.out) hb); replace BK192 := am_ (blk_below (bk_ BK192.out) hb); replace HB := am_ (below_step (bl_) hb); (try clear hb); (try clear hb2); (try clear hk); (try clear hi)))
      go_roundg k1
      case measure => have := HK1.out; omega
      case rel => exact ⟨(x5_1), (wrap64 (x6_1 + 1)), (rs_), H', ⟨by have := HK1.out; omega⟩, ⟨kn_ HO_5.out⟩, ⟨kv_ HO_193001.out⟩, ⟨bk_ BK192.out⟩, ⟨bl_⟩⟩
    ·rw [if_neg c5] at H
     exact absurd H (by simp)
   ·rw [if_neg c4] at H
    have c4b0 : decide (x6_1 < (l0_0.length : Int)) = false := decide_eq_false c4; clear c4; obtain rfl := Option.some.inj H; obtain ⟨hcz16_0, hcz16_1, hcz16_2, hfz16_0, hfz16_1, hfz16_2⟩ := bw3_ BK192.out
    go_wp2
    go_ret
    exact ⟨_, ew_, by (with_reducible repeat (first | apply Kd.N_alloc | apply Kd.N_drewN | apply Kd.N_drew)); exact Kd.N_mono HO_5.out (fun _ hk => hk.1), bl_⟩
end Go.Proofs.YtcfgjaggccnoaaaDoor.PTableSteps
namespace Go.Proofs.YtcfgjaggccnoaaaDoor.PTableSteps
open Go.RowKit Go.Proofs.YtcfgjaggccnoaaaDoorW.PrintWords Go.Proofs.YtcfgjaggccnoaaaDoorW.PrintLast Go.Proofs.YtcfgjaggccnoaaaDoorW.PrintMore
attribute [local go_sem] max2_int min2_int max_two min_two max_three min_three max_four min_four
set_option linter.unusedVariables false
set_option maxHeartbeats 8000000
set_option linter.unusedSimpArgs false
set_option maxRecDepth 100000
def r34_Go.f (k : Nat) (l0_0 : List (List (S23))) (l0_1 : List (List (S23))) (a0_2 : Bool) (a1_0 : Int) (l1_1 : List (S23)) (l1_2 : List (S23)) : Option ((List (List (S23))) × (List (List (S23))) × Bool × (List (List (S23))) × Int) := if a1_0 = 2 then (if a0_2 = true then ((r34_Find.f k l0_0 l0_1 a0_2 l1_1).bind fun t202 => (some (l0_0, l0_1, a0_2, t202, 0))) else (some (l0_0, l0_1, a0_2, ([] : List (List (S23))), 10))) else (if a0_2 = true then (some (l0_0, l0_1, a0_2, ([] : List (List (S23))), 10)) else (if a1_0 = 1 then (some (l0_0, l0_1, true, ([] : List (List (S23))), 0)) else ((some (([] : List (List (S23))) : List (List (S23)))).bind fun y205 => (if y205.length + l0_0.length < 5864062014805 then ((some (y205 ++ l0_0 : List (List (S23)))).bind fun y208 => ((some (([l1_1] : List (List (S23))) : List (List (S23)))).bind fun y211 => (if y208.length + y211.length < 5864062014805 then ((some (([] : List (List (S23))) : List (List (S23)))).bind fun y217 => (if y217.length + l0_1.length < 5864062014805 then ((some (y217 ++ l0_1 : List (List (S23)))).bind fun y220 => ((some (([l1_2] : List (List (S23))) : List (List (S23)))).bind fun y223 => (if y220.length + y223.length < 5864062014805 then (some ((y208 ++ y211), (y220 ++ y223), a0_2, ([] : List (List (S23))), 0)) else (none)))) else (none))) else (none)))) else (none)))))
theorem r34_Go.mono : ∀ a0 a1 a2 a3 a4 a5 k, LeO (r34_Go.f k a0 a1 a2 a3 a4 a5) (r34_Go.f (k + 1) a0 a1 a2 a3 a4 a5) := by
 intro a0 a1 a2 a3 a4 a5 k; unfold r34_Go.f
 repeat' first
   | (with_reducible exact r34_Find.mono _ _ _ _ _)
   | (with_reducible exact LeO.refl _)
   | (with_reducible exact LeO.none _)
   | (with_reducible refine LeO.ite ?_ ?_)
   | (with_reducible refine LeO.bind ?_ (fun _ => ?_))
   | exact r34_Find.mono _ _ _ _ _
   | exact LeO.none _
   | refine LeO.ite ?_ ?_
   | refine LeO.bind ?_ (fun _ => ?_)
def r34_Go.T4 : Bool × List (List Nat × List Nat) := (true, [([], []), ([], []), ([], []), ([2], [2]), ([1, 3], [1, 3]), ([0, 4, 0], [0]), ([4, 5, 0, 1, 2, 3, 4, 5], [4]), ([6, 0, 1, 2, 3, 4, 5, 6], [])])
end Go.Proofs.YtcfgjaggccnoaaaDoor.PTableSteps
