-- Written by wip/pack.py, a program of mine: the texts that this law stands on, as far as it uses them; Lean checks it.
import Derived.Test.YtcfgjaggccnoaaaProg
import Derived.Below
import Derived.Deep.Draws
import Derived.Deep.AppendLies
import Derived.Maps.AppendAt
import Derived.OwnWalk
import Derived.Laws.BytesArg
import Derived.Laws.MakeOwn
import Derived.Laws.OwnMore
import Derived.Deep.OwnRows
import Derived.Tactics
import Derived.Lib.ConvBytes
import Derived.Laws.Slices
import Derived.WalkKit
import Derived.KernelRfl
import Derived.RowKit3
import Derived.Deep.LoopGhost
import Derived.Deep.QuietTactic
import Derived.BigQuiet
import Derived.WideLaws
import Derived.Deep.DeepCutAuto
import Derived.Deep.CutBlock
import Derived.Deep.RegionHeld3
import Derived.Laws.Rows
import Derived.Lib.AppendStr
import Derived.ArgAppend
import Derived.Laws.IdiomCopy
import Derived.RowKit
import Derived.OrdersHeld
import Derived.Laws.BitsLemmas
import Derived.Laws.StructEq
import Derived.Laws.DeepStrings4
import Derived.Laws.RangeAny
import Derived.Laws.RangeString
import Derived.Lib.Hide
import Derived.LoopTactic
import Derived.Lib.SliceRun
import Derived.StillTailTactics
import Derived.Outline
import Derived.Defers
import Derived.IntWalk
import Derived.Test.YtcfgjaggccnoaaaZParseExprs3
namespace Go.Proofs.Ytcfgjaggccnoaaa.PParseSmall
open Go.RowKit Go.Proofs.YtcfgjaggccnoaaaW.PrintWords Go.Proofs.YtcfgjaggccnoaaaW.PrintLast Go.Proofs.YtcfgjaggccnoaaaW.PrintMore
attribute [local go_sem] max2_int min2_int max_two min_two max_three min_three max_four min_four
set_option linter.unusedVariables false
set_option linter.unusedSimpArgs false
set_option maxRecDepth 100000
set_option maxHeartbeats 4000000
section
variable {P : Program} {ops : Array Oper} {Q : Exit → Act → World → Prop} {o : Oper} {rest : List Oper} {a : Act} {md : Region.Mode} {K : Act → World → Prop}
theorem chg3_ {gb : Nat} {W : World} {v0 v1 v2 : Value} : Chg gb W (((W.setCell ⟨gb, 0, none⟩ v0).setCell ⟨gb, 1, none⟩ v1).setCell ⟨gb, 2, none⟩ v2) := ((((Chg.refl gb W).set 0 v0).set 1 v1).set 2 v2)
end
end Go.Proofs.Ytcfgjaggccnoaaa.PParseSmall
namespace Go.Proofs.Ytcfgjaggccnoaaa.PParseSmall
open Go.RowKit Go.Proofs.YtcfgjaggccnoaaaW.PrintWords Go.Proofs.YtcfgjaggccnoaaaW.PrintLast Go.Proofs.YtcfgjaggccnoaaaW.PrintMore
attribute [local go_sem] max2_int min2_int max_two min_two max_three min_three max_four min_four
set_option linter.unusedVariables false
set_option linter.unusedSimpArgs false
set_option maxRecDepth 100000
set_option maxHeartbeats 4000000
theorem nmE_at {l : List S91} {i e : Int} : kiP l i e = 1 ↔ (tokP l i e).f0 = 1 := by
  unfold kiP tokP
  split
  · rfl
  · exact ⟨fun h => absurd h (by decide), fun h => absurd h (by decide)⟩
theorem cell_chg {g : Nat} {w w1 : World} {p : Addr} {v : Value} (hc : w.cell? p = some v) (k : Chg g w w1) (hn : p.block ≠ g) : w1.cell? p = some v :=
  (World.cell?_of_block (w := w) (k.2.2 p.block (World.block_lt_of_cell? w _ hc) hn (by simp))).trans hc
def NmD (w : World) (A : Option Addr) (c : Nat) (l : List S91) (i e : Int) (r : Ending) (w' : World) : Prop := r = .returned (.tuple #[atV A l.length c (nmI l i e) (nmE l i e), .string (nmS l i e)]) ∧ Below w.heap.size w w'
theorem r_name {l : List S91} {A : Option Addr} {c : Nat} {i e : Int} {w : World} (hC : Kd.C k91 w A l.length l) (h0 : 0 ≤ i) (h1 : i ≤ l.length) (hl : l.length ≤ 1000000) :
    Calls Try.prog 196 #[atV A l.length c i e] w (NmD w A c l i e) := by
  have h2 : i ≤ 1000000 := by omega
  unfold NmD nmI nmE nmS
  by_cases k : (tokP l i e).f0 = 1
  · rw [if_pos k, if_pos k, if_pos k]
    have q := tok_le l i e (by rw [k]; decide)
    have HK := Lib.hid (nmE_at.2 k)
    have ht : tokP l i e = rd_T91 l i := if_pos q
    rw [ht]
    obtain ⟨ad, ha, t0, t1, t2, t3⟩ := at_T91 hC i h0 q.2
    have HT := Lib.hid t1
    have hb := Lib.hid (World.block_lt_of_cell? w _ t1)
    clear t0 t1 t2 t3 ht
    obtain ⟨rfl, hi⟩ := q
    have hi' : i < (l.length : Int) := hi
    have hC' := Lib.hid hC; clear hC k
    subst ha
    go_enter Try.func196, Try.ntmps196
    go_wp2_with (first
      | (go_at_call 94; refine (r_kind (Kd.C_old hC'.out (below_alloc (below_alloc (Below.refl _ _) _) _)) h0 HK.out).mono ?_; rintro r w1 ⟨rfl, b1⟩; obtain ⟨x1, x2, x3, x4⟩ := two_new rfl b1; have X1 := Lib.hid x1; have X2 := Lib.hid x2; have X3 := Lib.hid x3; have X4 := Lib.hid x4; clear b1 x1 x2 x3 x4))
    have X5 := Lib.hid ((X3.out.cell (p := ⟨(ad.add (i.toNat * 4)).block, (ad.add (i.toNat * 4)).off + 1, none⟩) hb.out).trans HT.out)
    clear HT
    refine start_ (n := 11) (S := fun w' => w'.heap[w.heap.size]? = some (.cells #[.slice (some ad) l.length c, .int .i64 i, .int .i64 0] 95 (0, 0)) ∧ w'.cell? ⟨(ad.add (i.toNat * 4)).block, (ad.add (i.toNat * 4)).off + 1, none⟩ = some (.string (rd_T91 l i).f1)) (ds := []) #[false, false, false, false, false, false, false, false, false, false, false] (by kernel_rfl) rfl rfl (⟨blk_drew X1.out, X5.out⟩) (fun hHeld => ?_)
    have X6 := Lib.hid (blk_drew X2.out); have X7 := Lib.hid (Below.drew X3.out); generalize w1.drew = w2 at X6 X7 hHeld ⊢; clear X1 X2 X3 X5
    refine take_ (i := 0) (N := some 9) (v := ?_) (a' := ?_) #[true, false, false, false, false, false, false, false, false, false, false] rfl rfl (by kernel_rfl) (fun _ _ _ h => h) (Or.inl ⟨by rfl, ?_⟩) hHeld ?_ ?_; rotate_left
    · intro w' hS; obtain ⟨hg, ht⟩ := hS; obtain ⟨s0, s1, s2, f0, f1, f2⟩ := bw3_ hg; go_simp; (with_reducible rfl)
    rotate_left
    · simp only [Act.put, sa_, sz_, ss_, i64_w, i32_w]
      rfl
    refine take_ (i := 2) (N := some 11) (v := ?_) (a' := ?_) #[true, false, true, false, false, false, false, false, false, false, false] rfl rfl (by kernel_rfl) (fun _ _ _ h => h) (Or.inl ⟨by rfl, ?_⟩) hHeld ?_ ?_; rotate_left
    · intro w' hS; go_simp; (with_reducible rfl)
    rotate_left
    · simp only [Act.put, sa_, sz_, ss_, i64_w, i32_w]
      rfl
    refine take_ (i := 3) (N := some 12) (v := ?_) (a' := ?_) #[true, false, true, true, false, false, false, false, false, false, false] rfl rfl (by kernel_rfl) (fun _ _ _ h => h) (Or.inl ⟨by rfl, ?_⟩) hHeld ?_ ?_; rotate_left
    · intro w' hS; obtain ⟨hg, ht⟩ := hS; obtain ⟨s0, s1, s2, f0, f1, f2⟩ := bw3_ hg; go_simp; (with_reducible rfl)
    rotate_left
    · simp only [Act.put, sa_, sz_, ss_, i64_w, i32_w]
      rfl
    refine take_ (i := 4) (N := some 13) (v := ?_) (a' := ?_) #[true, false, true, true, true, false, false, false, false, false, false] rfl rfl (by kernel_rfl) (fun _ _ _ h => h) (Or.inl ⟨by rfl, ?_⟩) hHeld ?_ ?_; rotate_left
    · intro w' hS; go_simp; (with_reducible rfl)
    rotate_left
    · simp only [Act.put, sa_, sz_, ss_, i64_w, i32_w]
      rfl
    refine take_ (i := 5) (N := some 14) (v := ?_) (a' := ?_) #[true, false, true, true, true, true, false, false, false, false, false] rfl rfl (by kernel_rfl) (fun _ _ _ h => h) (Or.inl ⟨by rfl, ?_⟩) hHeld ?_ ?_; rotate_left
    · intro w' hS; obtain ⟨hg, ht⟩ := hS; obtain ⟨s0, s1, s2, f0, f1, f2⟩ := bw3_ hg; go_simp; (with_reducible rfl)
    rotate_left
    · simp only [Act.put, sa_, sz_, ss_, i64_w, i32_w]
      rfl
    refine take_ (i := 6) (N := some 15) (v := ?_) (a' := ?_) #[true, false, true, true, true, true, true, false, false, false, false] rfl rfl (by kernel_rfl) (fun _ _ _ h => h) (Or.inl ⟨by rfl, ?_⟩) hHeld ?_ ?_; rotate_left
    · intro w' hS; go_simp; (with_reducible rfl)
    rotate_left
    · simp only [Act.put, sa_, sz_, ss_, i64_w, i32_w]
      rfl
    refine take_ (i := 7) (N := some 16) (v := ?_) (a' := ?_) #[true, false, true, true, true, true, true, true, false, false, false] rfl rfl (by kernel_rfl) (fun _ _ _ h => h) (Or.inl ⟨by rfl, ?_⟩) hHeld ?_ ?_; rotate_left
    · intro w' hS; go_simp; (with_reducible rfl)
    rotate_left
    · simp only [Act.put, sa_, sz_, ss_, i64_w, i32_w]
      rfl
    refine take_ (i := 8) (N := some 17) (v := ?_) (a' := ?_) #[true, false, true, true, true, true, true, true, true, false, false] rfl rfl (by kernel_rfl) (fun _ _ _ h => h) (Or.inl ⟨by rfl, ?_⟩) hHeld ?_ ?_; rotate_left
    · intro w' hS; obtain ⟨hg, ht⟩ := hS; obtain ⟨s0, s1, s2, f0, f1, f2⟩ := bw3_ hg; go_simp; (with_reducible rfl)
    rotate_left
    · simp only [Act.put, sa_, sz_, ss_, i64_w, i32_w]
      rfl
    refine one_ (i := 1) (N := some 10) #[true, true, true, true, true, true, true, true, true, false, false] rfl rfl (by kernel_rfl) (by decide) (fun K hK => ?_); refine goes_ Try.func92 (by kernel_rfl) rfl #[atV (some ad) l.length c i 0] (by rfl) rfl rfl (by (try simp only [List.map_toArray, List.map_cons, List.map_nil]); first | done | rfl) ?_; refine (r_step (some ad) l.length c i 0 w2 h0 h2).mono ?_; rintro e' w3 ⟨rfl, b3⟩; refine ⟨_, rfl, ?_⟩; have X8 := Lib.hid (blk_below X6.out b3); have X9 := Lib.hid (below_step X7.out b3); refine hK.out _ _ (⟨blk_below hHeld.1 b3, (b3.cell (p := ⟨(ad.add (i.toNat * 4)).block, (ad.add (i.toNat * 4)).off + 1, none⟩) (World.block_lt_of_cell? _ _ hHeld.2)).trans hHeld.2⟩) (fun hHeld => ?_); clear hK K; refine norm_ (a' := ?_) ?_ ?_; rotate_left
    · show Act.put _ (some 10) _ = _
      simp only [Act.put, sa_, sz_, ss_, i64_w, i32_w]; rfl
    obtain ⟨s0, s1, s2, f0, f1, f2⟩ := bw3_ X8.out
    refine one_ (i := 9) (N := none) #[true, true, true, true, true, true, true, true, true, true, false] rfl rfl (by kernel_rfl) (by decide) (fun K hK => ?_); refine skip_ (w1 := ?_) (by rfl) rfl ?_ ?_; rotate_left
    · go_simp
      rfl
    refine hK.out _ _ (⟨chg3_.blk hHeld.1 (by omega), cell_chg hHeld.2 chg3_ (by have := hb.out; show (ad.add (i.toNat * 4)).block ≠ w.heap.size + 1; omega)⟩) (fun hHeld2 => ?_); clear hK K
    clear s0 s1 s2 f0 f1 f2
    refine pure_ (i := 10) (N := some 3) (v := ?_) (a' := ?_) #[true, true, true, true, true, true, true, true, true, true, true] rfl rfl (by kernel_rfl) (fun _ _ _ h => h) (Or.inl ⟨by rfl, ?_⟩) ?_ ?_; rotate_left
    · intro w'
      go_simp; (with_reducible rfl)
    rotate_left
    · simp only [Act.put, sa_, sz_, ss_, i64_w, i32_w]
      rfl
    refine done_ (by kernel_rfl) ?_
    try go_wp2
    exact bodyPost_ret (results_ct rfl _ _ (w.heap.size + 1) 95 #[.slice (some ad) l.length c, .int .i64 (i + 1), .int .i64 0] (0, 0) _ rfl (put3_ X8.out) Try.underlying95 rfl (by kernel_rfl)) rfl ⟨rfl, by repeat (first | (with_reducible exact X9.out) | refine below_set ?_ (Nat.le_succ _))⟩
  · rw [if_neg k, if_neg k, if_neg k]
    obtain ⟨kk, hkk⟩ : ∃ kk, kiP l i e = kk := ⟨_, rfl⟩
    have hk : (kk != 1) = true := bne_iff_ne.2 (fun q => k (nmE_at.1 (hkk.trans q)))
    have HK := Lib.hid hkk
    have HC := Lib.hid hC; clear hC k hkk
    go_enter Try.func196, Try.ntmps196
    go_wp2_with (first
      | (go_at_call 94; refine (r_kind (Kd.C_old HC.out (below_alloc (below_alloc (Below.refl _ _) _) _)) h0 HK.out).mono ?_; rintro r w1 ⟨rfl, b1⟩; obtain ⟨x1, x2, x3, x4⟩ := two_new rfl b1; have X2 := Lib.hid x2; have X3 := Lib.hid x3; obtain ⟨c0, c1, c2, f0, f1, f2⟩ := bw3_ x1; clear b1 x1 x2 x3 x4)
      | (go_at_call 95; refine (r_fail A l.length c i e 1 w1).mono ?_; rintro r w2 ⟨rfl, b2⟩; have X5 := Lib.hid (blk_below X2.out b2); have X6 := Lib.hid (below_step X3.out b2); obtain ⟨d0, d1, d2, g0, g1, g2⟩ := bw3_ X5.out; clear b2))
    exact bodyPost_ret (results_ct rfl _ _ (w.heap.size + 1) 95 #[.slice A l.length c, .int .i64 i, .int .i64 (flE e 1)] (0, 0) _ rfl (put3_ X5.out) Try.underlying95 rfl (by kernel_rfl)) rfl ⟨rfl, by repeat (first | (with_reducible exact X6.out) | refine below_set ?_ (Nat.le_succ _))⟩
end Go.Proofs.Ytcfgjaggccnoaaa.PParseSmall
namespace Go.Proofs.Ytcfgjaggccnoaaa.PParseSmall
open Go.RowKit Go.Proofs.YtcfgjaggccnoaaaW.PrintWords Go.Proofs.YtcfgjaggccnoaaaW.PrintLast Go.Proofs.YtcfgjaggccnoaaaW.PrintMore
attribute [local go_sem] max2_int min2_int max_two min_two max_three min_three max_four min_four
set_option linter.unusedVariables false
set_option linter.unusedSimpArgs false
set_option maxRecDepth 100000
set_option maxHeartbeats 4000000
theorem RS.C {w0 w : World} {L : List (Nat × Array Value × TypeId)} {T : List (S27 × Option Addr × Nat)} (h : RS w0 w L T) {A : Option Addr} {l : List S91} (hC : Kd.C k91 w0 A l.length l) : Kd.C k91 w A l.length l := Kd.C_old hC h.bl
theorem nm_le {l : List S91} {i e : Int} (h0 : 0 ≤ i) (h1 : i ≤ l.length) : 0 ≤ nmI l i e ∧ nmI l i e ≤ l.length := by
  unfold nmI
  split
  · next k => have q := tok_le l i e (by rw [k]; decide); omega
  · exact ⟨h0, h1⟩
theorem isP_lt {l : List S91} {i e : Int} {s : ByteArray} (h : isP l i e s = true) : i + 1 ≤ l.length := by have := (isP_le l i e s h).2; omega
theorem tr_leaf {W : World} {ok : Nat → Prop} {x : S27} (h : x.f6 = []) : Tr W ok x none 0 := by
  refine ⟨by rw [h]; exact Nat.le_refl 0, ?_⟩
  rw [h]
  exact fun W' _ => ⟨rfl, by simp, fun q => absurd q (Nat.lt_irrefl 0)⟩
theorem RS.ne {w0 w : World} {L : List (Nat × Array Value × TypeId)} {T : List (S27 × Option Addr × Nat)} {g g' : Nat} {cs cs' : Array Value} {t t' : TypeId} (h : RS w0 w L T) (i j : Nat) (e : L[i]? = some (g, cs, t)) (e' : L[j]? = some (g', cs', t')) (hn : i ≠ j) : g ≠ g' := by
  obtain ⟨hi, ei⟩ := List.getElem?_eq_some_iff.1 e
  obtain ⟨hj, ej⟩ := List.getElem?_eq_some_iff.1 e'
  intro hc
  have hp := List.pairwise_iff_getElem.1 h.nd
  rcases Nat.lt_or_gt_of_ne hn with q | q
  · exact hp i j (by simpa using hi) (by simpa using hj) q (by rw [List.getElem_map, List.getElem_map, ei, ej]; exact hc)
  · exact hp j i (by simpa using hj) (by simpa using hi) q (by rw [List.getElem_map, List.getElem_map, ei, ej]; exact hc.symm)
def RDone (w : World) (A : Option Addr) (c : Nat) (l : List S91) (r : Re) (ret : Ending) (w' : World) : Prop :=
  ∃ vA vc, ret = .returned (.tuple #[atV A l.length c r.i r.e, exV r.x vA vc]) ∧ Tr w' (fun k => w.heap.size ≤ k) r.x vA vc ∧ Below w.heap.size w w' ∧ 0 ≤ r.i ∧ r.i ≤ l.length
theorem RS.done {w w1 : World} {L : List (Nat × Array Value × TypeId)} {T : List (S27 × Option Addr × Nat)} {A vA : Option Addr} {c vc : Nat} {l : List S91} {r : Re} (h : RS w w1 L T) (ht : Tr w1 (fun k => w.heap.size ≤ k) r.x vA vc) (h0 : 0 ≤ r.i) (h1 : r.i ≤ l.length) : RDone w A c l r (.returned (.tuple #[atV A l.length c r.i r.e, exV r.x vA vc])) w1 := ⟨vA, vc, rfl, ht, h.bl, h0, h1⟩
theorem r_col_no {l : List S91} {A : Option Addr} {c : Nat} {i e : Int} {w : World} (hC : Kd.C k91 w A l.length l) (h0 : 0 ≤ i) (h1 : i ≤ l.length) (hl : l.length ≤ 1000000) (hs : isP l (nmI l i e) (nmE l i e) ⟨#[46]⟩ = false) :
    Calls Try.prog 192 #[atV A l.length c i e] w (RDone w A c l ⟨nmI l i e, 0, nmE l i e, colP ⟨#[]⟩ (nmS l i e)⟩) := by
  have HS := Lib.hid hs; have HC := Lib.hid hC
  have HI := Lib.hid (nm_le (e := e) h0 h1)
  clear hs hC
  have H0 := Lib.hid (RS.start w)
  go_enter Try.func192, Try.ntmps192
  go_wp2_with (first
    | ((with_reducible refine gate_dst (N := 1) rfl ?_); refine box_event ?hg (N := 1) ?hd (cs := #[.slice A l.length c, .int .i64 i, .int .i64 e]) (t := 95) ?hr ?_; (case hd => rfl); (case hg => rfl); (case hr => first | (go_simp; done) | (go_simp; rfl)); intro g1 hg_ w1 hb_ hl_; have H1 := Lib.hid (H0.out.box hb_ hl_ (Nat.le_of_eq hg_.symm)); clear hb_ hl_ hg_ H0; simp only [Act.put, sa_, sz_, ss_])
    | ((with_reducible refine gate_dst (N := 2) rfl ?_); refine box_event ?hg (N := 2) ?hd (cs := #[.slice none 0 0, .int .i64 0, .int .i64 0]) (t := 95) ?hr ?_; (case hd => rfl); (case hg => rfl); (case hr => first | (go_simp; done) | (go_simp; rfl)); intro g2 hg_ w2 hb_ hl_; have H2 := Lib.hid (H1.out.box hb_ hl_ (Nat.le_of_eq hg_.symm)); clear hb_ hl_ hg_ H1; simp only [Act.put, sa_, sz_, ss_])
    | ((with_reducible refine gate_dst (N := 3) rfl ?_); refine box_event ?hg (N := 3) ?hd (cs := #[.int .i64 0, .string (⟨#[]⟩ : ByteArray), .string (⟨#[]⟩ : ByteArray), .int .i64 0, .int .i64 0, .int .i64 0, .int .i64 0, .string (⟨#[]⟩ : ByteArray), .slice none 0 0]) (t := 27) ?hr ?_; (case hd => rfl); (case hg => rfl); (case hr => first | (go_simp; done) | (go_simp; rfl)); intro g3 hg_ w3 hb_ hl_; have H3 := Lib.hid (H2.out.box hb_ hl_ (Nat.le_of_eq hg_.symm)); clear hb_ hl_ hg_ H2; simp only [Act.put, sa_, sz_, ss_]; obtain ⟨lc11_0, lc11_1, lc11_2, lf11_0, lf11_1, lf11_2⟩ := bw3_ (H3.out.get 2 rfl))
    | ((with_reducible refine gate_callee (f := 196) rfl ?_); refine goesL_ (some 9) rfl rfl Try.func196 (by kernel_rfl) rfl #[atV A l.length c i e] rfl (by (try simp only [List.map_toArray, List.map_cons, List.map_nil]); first | done | rfl) ?_; refine (r_name (H3.out.C HC.out) h0 h1 hl).mono ?_; rintro r' w4 ⟨rfl, b4⟩; refine ⟨_, rfl, ?_⟩; simp only [Act.put, sa_, sz_, ss_]; simp only [atV]; have H4 := Lib.hid (H3.out.below b4); clear b4 H3; obtain ⟨lc1_0, lc1_1, lc1_2, lf1_0, lf1_1, lf1_2⟩ := bw3_ (H4.out.get 2 rfl))
    | ((with_reducible refine gate_callee (f := 91) rfl ?_); refine goesL_ (some 13) rfl rfl Try.func91 (by kernel_rfl) rfl #[atV A l.length c (nmI l i e) (nmE l i e), .string ⟨#[46]⟩] rfl (by (try simp only [List.map_toArray, List.map_cons, List.map_nil]); first | done | rfl) ?_; refine (r_is ((H4.out.put 2 rfl (put3_ (H4.out.get 2 rfl)) chg3_).C HC.out) HI.out.1 _ HS.out).mono ?_; rintro r' w6 ⟨rfl, b6⟩; refine ⟨_, rfl, ?_⟩; simp only [Act.put, sa_, sz_, ss_]; have H6 := Lib.hid ((H4.out.put 2 rfl (put3_ (H4.out.get 2 rfl)) chg3_).below b6); clear b6 H4; have nn7 := H6.out.ne 0 1 rfl rfl (by decide); have nm7 := nn7.symm; obtain ⟨lc2_0, lc2_1, lc2_2, lc2_3, lc2_4, lc2_5, lc2_6, lc2_7, lc2_8, lf2_0, lf2_1, lf2_2, lf2_3, lf2_4, lf2_5, lf2_6, lf2_7, lf2_8⟩ := bw9_ (H6.out.get 0 rfl); obtain ⟨lc3_0, lc3_1, lc3_2, lf3_0, lf3_1, lf3_2⟩ := bw3_ (H6.out.get 1 rfl); obtain ⟨lc4_0, lc4_1, lc4_2, lf4_0, lf4_1, lf4_2⟩ := bw3_ (H6.out.get 2 rfl)))
  have H7 := H6.out.put 1 rfl (put3_ (v0 := .slice A l.length c) (v1 := .int .i64 (nmI l i e)) (v2 := .int .i64 (nmE l i e)) (H6.out.get 1 rfl)) chg3_
  have H8 := Lib.hid (H7.put 0 rfl (put9_ (v0 := .int .i64 15) (v1 := .string ⟨#[]⟩) (v2 := .string (nmS l i e)) (v3 := .int .i64 0) (v4 := .int .i64 0) (v5 := .int .i64 0) (v6 := .int .i64 0) (v7 := .string ⟨#[]⟩) (v8 := .slice none 0 0) (H7.get 0 rfl)) chg9_)
  exact bodyPost_ret (results_cc rfl _ _ _ _ 95 27 _ _ (0, 0) (0, 0) _ _ rfl (H8.out.get 1 rfl) Try.underlying95 rfl (by kernel_rfl) rfl (H8.out.get 0 rfl) Try.underlying27 rfl (by kernel_rfl)) rfl (H8.out.done (tr_leaf rfl) HI.out.1 HI.out.2)
theorem r_col_yes {l : List S91} {A : Option Addr} {c : Nat} {i e : Int} {w : World} (hC : Kd.C k91 w A l.length l) (h0 : 0 ≤ i) (h1 : i ≤ l.length) (hl : l.length ≤ 1000000) (hs : isP l (nmI l i e) (nmE l i e) ⟨#[46]⟩ = true) :
    Calls Try.prog 192 #[atV A l.length c i e] w (RDone w A c l ⟨nmI l (nmI l i e + 1) (nmE l i e), 0, nmE l (nmI l i e + 1) (nmE l i e), colP (nmS l i e) (nmS l (nmI l i e + 1) (nmE l i e))⟩) := by
  have HS := Lib.hid hs; have HC := Lib.hid hC
  have HI := Lib.hid (nm_le (e := e) h0 h1)
  have HJ := Lib.hid (nm_le (l := l) (i := nmI l i e + 1) (e := nmE l i e) (by have := HI.out.1; omega) (isP_lt hs))
  have HL := Lib.hid (isP_lt hs)
  clear hs hC
  have H0 := Lib.hid (RS.start w)
  go_enter Try.func192, Try.ntmps192
  go_wp2_with (first
    | ((with_reducible refine gate_dst (N := 1) rfl ?_); refine box_event ?hg (N := 1) ?hd (cs := #[.slice A l.length c, .int .i64 i, .int .i64 e]) (t := 95) ?hr ?_; (case hd => rfl); (case hg => rfl); (case hr => first | (go_simp; done) | (go_simp; rfl)); intro g1 hg_ w1 hb_ hl_; have H1 := Lib.hid (H0.out.box hb_ hl_ (Nat.le_of_eq hg_.symm)); clear hb_ hl_ hg_ H0; simp only [Act.put, sa_, sz_, ss_])
    | ((with_reducible refine gate_dst (N := 2) rfl ?_); refine box_event ?hg (N := 2) ?hd (cs := #[.slice none 0 0, .int .i64 0, .int .i64 0]) (t := 95) ?hr ?_; (case hd => rfl); (case hg => rfl); (case hr => first | (go_simp; done) | (go_simp; rfl)); intro g2 hg_ w2 hb_ hl_; have H2 := Lib.hid (H1.out.box hb_ hl_ (Nat.le_of_eq hg_.symm)); clear hb_ hl_ hg_ H1; simp only [Act.put, sa_, sz_, ss_])
    | ((with_reducible refine gate_dst (N := 3) rfl ?_); refine box_event ?hg (N := 3) ?hd (cs := #[.int .i64 0, .string (⟨#[]⟩ : ByteArray), .string (⟨#[]⟩ : ByteArray), .int .i64 0, .int .i64 0, .int .i64 0, .int .i64 0, .string (⟨#[]⟩ : ByteArray), .slice none 0 0]) (t := 27) ?hr ?_; (case hd => rfl); (case hg => rfl); (case hr => first | (go_simp; done) | (go_simp; rfl)); intro g3 hg_ w3 hb_ hl_; have H3 := Lib.hid (H2.out.box hb_ hl_ (Nat.le_of_eq hg_.symm)); clear hb_ hl_ hg_ H2; simp only [Act.put, sa_, sz_, ss_]; obtain ⟨lc12_0, lc12_1, lc12_2, lf12_0, lf12_1, lf12_2⟩ := bw3_ (H3.out.get 2 rfl))
    | ((with_reducible refine gate_callee (f := 196) rfl ?_); refine goesL_ (some 9) rfl rfl Try.func196 (by kernel_rfl) rfl #[atV A l.length c i e] rfl (by (try simp only [List.map_toArray, List.map_cons, List.map_nil]); first | done | rfl) ?_; refine (r_name (H3.out.C HC.out) h0 h1 hl).mono ?_; rintro r' w4 ⟨rfl, b4⟩; refine ⟨_, rfl, ?_⟩; simp only [Act.put, sa_, sz_, ss_]; simp only [atV]; have H4 := Lib.hid (H3.out.below b4); clear b4 H3; obtain ⟨lc5_0, lc5_1, lc5_2, lf5_0, lf5_1, lf5_2⟩ := bw3_ (H4.out.get 2 rfl))
    | ((with_reducible refine gate_callee (f := 91) rfl ?_); refine goesL_ (some 13) rfl rfl Try.func91 (by kernel_rfl) rfl #[atV A l.length c (nmI l i e) (nmE l i e), .string ⟨#[46]⟩] rfl (by (try simp only [List.map_toArray, List.map_cons, List.map_nil]); first | done | rfl) ?_; refine (r_is ((H4.out.put 2 rfl (put3_ (H4.out.get 2 rfl)) chg3_).C HC.out) HI.out.1 _ HS.out).mono ?_; rintro r' w6 ⟨rfl, b6⟩; refine ⟨_, rfl, ?_⟩; simp only [Act.put, sa_, sz_, ss_]; have H6 := Lib.hid ((H4.out.put 2 rfl (put3_ (H4.out.get 2 rfl)) chg3_).below b6); clear b6 H4; obtain ⟨lc6_0, lc6_1, lc6_2, lf6_0, lf6_1, lf6_2⟩ := bw3_ (H6.out.get 2 rfl))
    | ((with_reducible refine gate_callee (f := 92) rfl ?_); refine goesL_ (some 20) rfl rfl Try.func92 (by kernel_rfl) rfl #[atV A l.length c (nmI l i e) (nmE l i e)] rfl (by (try simp only [List.map_toArray, List.map_cons, List.map_nil]); first | done | rfl) ?_; refine (r_step A l.length c (nmI l i e) (nmE l i e) w6 HI.out.1 (by have := HI.out.2; omega)).mono ?_; rintro r' w7 ⟨rfl, b7⟩; refine ⟨_, rfl, ?_⟩; simp only [Act.put, sa_, sz_, ss_]; simp only [atV]; have H7 := Lib.hid (H6.out.below b7); clear b7 H6)
    | ((with_reducible refine gate_callee (f := 196) rfl ?_); refine goesL_ (some 21) rfl rfl Try.func196 (by kernel_rfl) rfl #[atV A l.length c (nmI l i e + 1) (nmE l i e)] rfl (by (try simp only [List.map_toArray, List.map_cons, List.map_nil]); first | done | rfl) ?_; refine (r_name (H7.out.C HC.out) (by have := HI.out.1; omega) HL.out hl).mono ?_; rintro r' w8 ⟨rfl, b8⟩; refine ⟨_, rfl, ?_⟩; simp only [Act.put, sa_, sz_, ss_]; simp only [atV]; have H8 := Lib.hid (H7.out.below b8); clear b8 H7)
    | (((with_reducible refine gate_dst (N := 5) rfl ?_); refine box_event ?hg (N := 5) ?hd (cs := #[.slice none 0 0, .int .i64 0, .int .i64 0]) (t := 95) ?hr ?_; (case hd => rfl); (case hg => rfl); (case hr => first | (go_simp; done) | (go_simp; rfl)); intro g5 hg_ w9 hb_ hl_; have H9 := Lib.hid (H8.out.box hb_ hl_ (Nat.le_of_eq hg_.symm)); clear hb_ hl_ hg_ H8; simp only [Act.put, sa_, sz_, ss_]; obtain ⟨lc13_0, lc13_1, lc13_2, lf13_0, lf13_1, lf13_2⟩ := bw3_ (H9.out.get 0 rfl); obtain ⟨lc14_0, lc14_1, lc14_2, lc14_3, lc14_4, lc14_5, lc14_6, lc14_7, lc14_8, lf14_0, lf14_1, lf14_2, lf14_3, lf14_4, lf14_5, lf14_6, lf14_7, lf14_8⟩ := bw9_ (H9.out.get 1 rfl); obtain ⟨lc15_0, lc15_1, lc15_2, lf15_0, lf15_1, lf15_2⟩ := bw3_ (H9.out.get 2 rfl)); have nn8 := H9.out.ne 0 1 rfl rfl (by decide); have nm8 := nn8.symm; have nn9 := H9.out.ne 0 2 rfl rfl (by decide); have nm9 := nn9.symm; have nn10 := H9.out.ne 1 2 rfl rfl (by decide); have nm10 := nn10.symm))
  have H10 := H9.out.put 0 rfl (put3_ (v0 := .slice A l.length c) (v1 := .int .i64 (nmI l (nmI l i e + 1) (nmE l i e))) (v2 := .int .i64 (nmE l (nmI l i e + 1) (nmE l i e))) (H9.out.get 0 rfl)) chg3_
  have H11 := H10.put 2 rfl (put3_ (v0 := .slice A l.length c) (v1 := .int .i64 (nmI l (nmI l i e + 1) (nmE l i e))) (v2 := .int .i64 (nmE l (nmI l i e + 1) (nmE l i e))) (H10.get 2 rfl)) chg3_
  have H12 := Lib.hid (H11.put 1 rfl (put9_ (v0 := .int .i64 15) (v1 := .string (nmS l i e)) (v2 := .string (nmS l (nmI l i e + 1) (nmE l i e))) (v3 := .int .i64 0) (v4 := .int .i64 0) (v5 := .int .i64 0) (v6 := .int .i64 0) (v7 := .string ⟨#[]⟩) (v8 := .slice none 0 0) (H11.get 1 rfl)) chg9_)
  exact bodyPost_ret (results_cc rfl _ _ _ _ 95 27 _ _ (0, 0) (0, 0) _ _ rfl (H12.out.get 2 rfl) Try.underlying95 rfl (by kernel_rfl) rfl (H12.out.get 1 rfl) Try.underlying27 rfl (by kernel_rfl)) rfl (H12.out.done (tr_leaf rfl) HJ.out.1 HJ.out.2)
end Go.Proofs.Ytcfgjaggccnoaaa.PParseSmall
namespace Go.Proofs.Ytcfgjaggccnoaaa.PParseSmall
open Go.RowKit Go.Proofs.YtcfgjaggccnoaaaW.PrintWords Go.Proofs.YtcfgjaggccnoaaaW.PrintLast Go.Proofs.YtcfgjaggccnoaaaW.PrintMore
attribute [local go_sem] max2_int min2_int max_two min_two max_three min_three max_four min_four
set_option linter.unusedVariables false
set_option linter.unusedSimpArgs false
set_option maxRecDepth 100000
set_option maxHeartbeats 4000000
theorem RS.tail {w0 w : World} {L : List (Nat × Array Value × TypeId)} {T : List (S27 × Option Addr × Nat)} (h : RS w0 w L T) : RS w0 w L.tail T :=
  ⟨h.bl, fun b hb => h.bx b (List.mem_of_mem_tail hb), fun b hb => h.lo b (List.mem_of_mem_tail hb), (List.map_tail (f := fun b : Nat × Array Value × TypeId => b.1) ▸ h.nd.tail), fun t ht => (h.tr t ht).mono fun k _ hk => ⟨hk.1, fun hm => hk.2 (by rw [List.map_tail] at hm; exact List.mem_of_mem_tail hm)⟩⟩
theorem op_or : opP wOr = 11 := by decide +kernel
theorem op_and : opP wAnd = 10 := by decide +kernel
theorem op_star : opP wStar = 9 := by decide +kernel
def Gr.rnum : Gr → Nat
  | .or => 45 | .and => 90 | .not => 125 | .test => 153 | .sum => 161 | .prod => 168 | .atom => 180
def RGOK (k : Nat) (p : Gr) : Prop := ∀ (w : World) (A : Option Addr) (c : Nat) (l : List S91) (i d e : Int) (r : Re), Kd.C k91 w A l.length l → 0 ≤ i → i ≤ l.length → l.length ≤ 1000000 → 0 ≤ d → d ≤ 50 → rr l k (.f p) i d e = some r → Calls Try.prog p.rnum #[atV A l.length c i e, .int .i64 d] w (RDone w A c l r)
section
variable {P : Program} {ops : Array Oper} {Q : Exit → Act → World → Prop} {S : World → Prop} {ds : List Nat}
theorem startX_ {id n : Nat} {a : Act} {w0 w : World} {L : List (Nat × Array Value × TypeId)} {T : List (S27 × Option Addr × Nat)} (l : Array Bool) (hm : P.follows .mixedOrders = true) (hn : ops.size = n) (hl : Array.replicate n false = l) (hX : RS w0 w L T)
    (hS : ∀ w', RS w0 w' L T → S w') (h : ∀ w', RS w0 w' L T → S w' → wpAnyLast P .any ops Q S ds n l a w') : (Code.region id ops true).wp P Q a w :=
  start_ l hm hn hl (hS _ hX.drew) fun hs => h _ hX.drew hs
end
theorem find1 {s : ByteArray} {f : ByteArray → Bool} {b : Bool} (h : f s = b) : [s].find? f = if b = true then some s else none := by
  simp only [List.find?_cons, List.find?_nil, h]
  cases b <;> rfl
abbrev at3 (A : Option Addr) (n c : Nat) (i e : Int) : Array Value := #[.slice A n c, .int .i64 i, .int .i64 e]
theorem r_or (k : Nat) (hp : ∀ j, j ≤ k → RGOK j .and) : RGOK (k + 1) .or := by
  intro w A c l i0 d e0 r hC h0 h1 hl d0 d50 hr
  simp only [rr] at hr
  obtain ⟨r0, hr0, hr⟩ := Option.bind_eq_some_iff.1 hr
  change Calls Try.prog 45 _ _ _
  have HC := Lib.hid hC; have HP := Lib.hid hp; have HR := Lib.hid hr; have HR0 := Lib.hid hr0
  clear hC hp hr hr0
  have H0 := Lib.hid (RS.start w)
  go_enter Try.func45, Try.ntmps45
  go_wp2_with (first
    | ((with_reducible refine gate_dst (N := 2) rfl ?_); refine box_event ?hg (N := 2) ?hd (cs := #[.slice A l.length c, .int .i64 i0, .int .i64 e0]) (t := 95) ?hr ?_; (case hd => rfl); (case hg => rfl); (case hr => first | (go_simp; done) | (go_simp; rfl)); intro g2 hg_ w1 hb_ hl_; have H1 := Lib.hid (H0.out.box hb_ hl_ (Nat.le_of_eq hg_.symm)); clear hb_ hl_ hg_ H0; simp only [Act.put, sa_, sz_, ss_])
    | ((with_reducible refine gate_dst (N := 4) rfl ?_); refine box_event ?hg (N := 4) ?hd (cs := #[.slice none 0 0, .int .i64 0, .int .i64 0]) (t := 95) ?hr ?_; (case hd => rfl); (case hg => rfl); (case hr => first | (go_simp; done) | (go_simp; rfl)); intro g4 hg_ w2 hb_ hl_; have H2 := Lib.hid (H1.out.box hb_ hl_ (Nat.le_of_eq hg_.symm)); clear hb_ hl_ hg_ H1; simp only [Act.put, sa_, sz_, ss_])
    | ((with_reducible refine gate_dst (N := 5) rfl ?_); refine box_event ?hg (N := 5) ?hd (cs := #[.int .i64 0, .string (⟨#[]⟩ : ByteArray), .string (⟨#[]⟩ : ByteArray), .int .i64 0, .int .i64 0, .int .i64 0, .int .i64 0, .string (⟨#[]⟩ : ByteArray), .slice none 0 0]) (t := 27) ?hr ?_; (case hd => rfl); (case hg => rfl); (case hr => first | (go_simp; done) | (go_simp; rfl)); intro g5 hg_ w3 hb_ hl_; have H3 := Lib.hid (H2.out.box hb_ hl_ (Nat.le_of_eq hg_.symm)); clear hb_ hl_ hg_ H2; simp only [Act.put, sa_, sz_, ss_]; obtain ⟨lc37_0, lc37_1, lc37_2, lf37_0, lf37_1, lf37_2⟩ := bw3_ (H3.out.get 2 rfl))
    | ((with_reducible refine gate_callee (f := 90) rfl ?_); refine goesL_ (some 12) rfl rfl Try.func90 (by kernel_rfl) rfl #[atV A l.length c i0 e0, .int .i64 d] rfl (by (try simp only [List.map_toArray, List.map_cons, List.map_nil]); first | done | rfl) ?_; refine (HP.out k (Nat.le_refl k) _ _ _ _ _ _ _ _ (H3.out.C HC.out) h0 h1 hl d0 d50 HR0.out).mono ?_; rintro r' w4 ⟨vA, vc, rfl, t4, b4, i4, j4⟩; refine ⟨_, rfl, ?_⟩; simp only [Act.put, sa_, sz_, ss_]; simp only [atV, exV]; have H4 := Lib.hid (H3.out.call b4 t4); have I4 := Lib.hid (And.intro i4 j4); clear t4 b4 i4 j4 H3)
    | (((with_reducible refine gate_dst (N := 6) rfl ?_); refine box_event ?hg (N := 6) ?hd (cs := #[.int .i64 0, .string (⟨#[]⟩ : ByteArray), .string (⟨#[]⟩ : ByteArray), .int .i64 0, .int .i64 0, .int .i64 0, .int .i64 0, .string (⟨#[]⟩ : ByteArray), .slice none 0 0]) (t := 27) ?hr ?_; (case hd => rfl); (case hg => rfl); (case hr => first | (go_simp; done) | (go_simp; rfl)); intro g6 hg_ w5 hb_ hl_; have H5 := Lib.hid (H4.out.box hb_ hl_ (Nat.le_of_eq hg_.symm)); clear hb_ hl_ hg_ H4; simp only [Act.put, sa_, sz_, ss_]; obtain ⟨lc38_0, lc38_1, lc38_2, lc38_3, lc38_4, lc38_5, lc38_6, lc38_7, lc38_8, lf38_0, lf38_1, lf38_2, lf38_3, lf38_4, lf38_5, lf38_6, lf38_7, lf38_8⟩ := bw9_ (H5.out.get 0 rfl); obtain ⟨lc39_0, lc39_1, lc39_2, lf39_0, lf39_1, lf39_2⟩ := bw3_ (H5.out.get 3 rfl)); have nn13 := H5.out.ne 0 3 rfl rfl (by decide); have nm13 := nn13.symm))
  go_loopg [] k (fun kq w' => ∃ (i e : Int) (x : S27) (vA : Option Addr) (vc : Nat), Aside0 (rr l kq (.ch .and [wOr] x) i d e = some r) ∧ Aside0 (kq ≤ k) ∧ Aside0 (RS w w' [(g6, cl27 x vA vc, 27), (g5, #[.int .i64 0, .string ⟨#[]⟩, .string ⟨#[]⟩, .int .i64 0, .int .i64 0, .int .i64 0, .int .i64 0, .string ⟨#[]⟩, .slice none 0 0], 27), (g4, #[.slice none 0 0, .int .i64 0, .int .i64 0], 95), (g2, at3 A l.length c i e, 95)] [(x, vA, vc)]) ∧ Aside0 (0 ≤ i ∧ i ≤ l.length))
  case atStart => exact ⟨r0.i, r0.e, r0.x, vA, vc, ⟨HR.out⟩, ⟨Nat.le_refl _⟩, ⟨((H5.out.put 3 rfl (put3_ (H5.out.get 3 rfl)) chg3_).put 0 rfl (put9_ ((H5.out.put 3 rfl (put3_ (H5.out.get 3 rfl)) chg3_).get 0 rfl)) chg9_)⟩, ⟨I4.out⟩⟩
  case round =>
    clear H5 I4 HR0 HR h0 h1
    obtain ⟨i, e, x, vA, vc, HA, HK, H6, HI⟩ := hrel
    cases gk with
    | zero => exact absurd HA.out (by simp [rr])
    | succ k1 =>
      have HH := HA.out; clear HA
      simp only [rr] at HH
      obtain ⟨lc1_0, lc1_1, lc1_2, lf1_0, lf1_1, lf1_2⟩ := bw3_ (H6.out.get 3 rfl)
      cases hs : isP l i e wOr with
      | false =>
        rw [find1 (f := fun s => isP l i e s) hs, if_neg (by decide)] at HH
        obtain rfl := Option.some.inj HH
        have HS := Lib.hid hs; clear HH hs HK
        go_wp2_with (first
          | ((with_reducible refine gate_callee (f := 91) rfl ?_); refine goesL_ (some 16) rfl rfl Try.func91 (by kernel_rfl) rfl #[atV A l.length c i e, .string wOr] rfl (by (try simp only [List.map_toArray, List.map_cons, List.map_nil]); first | done | rfl) ?_; refine (r_is (H6.out.C HC.out) HI.out.1 _ HS.out).mono ?_; rintro r' w7 ⟨rfl, b7⟩; refine ⟨_, rfl, ?_⟩; simp only [Act.put, sa_, sz_, ss_]; have H7 := Lib.hid (H6.out.below b7); clear b7 H6))
        refine startX_ (n := 4) (S := fun w' => w'.heap[g2]? = some (.cells (at3 A l.length c i e) 95 (0, 0)) ∧ w'.heap[g6]? = some (.cells (cl27 x vA vc) 27 (0, 0))) (ds := []) #[false, false, false, false] (by kernel_rfl) rfl rfl (H7.out) (fun w' h => ⟨h.get 3 rfl, h.get 0 rfl⟩) (fun w20 h_ hHeld => ?_)
        have H20 := Lib.hid h_; clear h_ H7
        refine take_ (i := 0) (N := some 28) (v := ?_) (a' := ?_) #[true, false, false, false] rfl rfl (by kernel_rfl) (fun _ _ _ h => h) (Or.inl ⟨by rfl, ?_⟩) hHeld ?_ ?_; rotate_left
        · intro w' hS; obtain ⟨s0, s1, s2, f0, f1, f2⟩ := bw3_ hS.1; go_simp; (with_reducible rfl)
        rotate_left
        · simp only [Act.put, sa_, sz_, ss_, i64_w, i32_w]
          rfl
        refine take_ (i := 1) (N := some 29) (v := ?_) (a' := ?_) #[true, true, false, false] rfl rfl (by kernel_rfl) (fun _ _ _ h => h) (Or.inl ⟨by rfl, ?_⟩) hHeld ?_ ?_; rotate_left
        · intro w' hS; obtain ⟨s0, s1, s2, s3, s4, s5, s6, s7, s8, f0, f1, f2, f3, f4, f5, f6, f7, f8⟩ := bw9_ hS.2; go_simp; (with_reducible rfl)
        rotate_left
        · simp only [Act.put, sa_, sz_, ss_, i64_w, i32_w]
          rfl
        have nn14 := H20.out.ne 2 3 rfl rfl (by decide); have nm14 := nn14.symm; have nn15 := H20.out.ne 2 0 rfl rfl (by decide); have nm15 := nn15.symm; have nn16 := H20.out.ne 1 3 rfl rfl (by decide); have nm16 := nn16.symm; have nn17 := H20.out.ne 1 0 rfl rfl (by decide); have nm17 := nn17.symm; have nn18 := H20.out.ne 2 1 rfl rfl (by decide); have nm18 := nn18.symm; obtain ⟨s0, s1, s2, f0, f1, f2⟩ := bw3_ (H20.out.get 2 rfl)
        refine one_ (i := 2) (N := none) #[true, true, true, false] rfl rfl (by kernel_rfl) (by decide) (fun K hK => ?_); refine skip_ (w1 := ?_) (by rfl) rfl ?_ ?_; rotate_left
        · go_simp
          rfl
        refine hK.out _ _ (⟨chg3_.blk hHeld.1 (H20.out.ne 3 2 rfl rfl (by decide)), chg3_.blk hHeld.2 (H20.out.ne 0 2 rfl rfl (by decide))⟩) (fun hHeld2 => ?_); clear hK K
        clear s0 s1 s2 f0 f1 f2; obtain ⟨s0, s1, s2, s3, s4, s5, s6, s7, s8, f0, f1, f2, f3, f4, f5, f6, f7, f8⟩ := bw9_ (H20.out.get 1 rfl)
        refine one_ (i := 3) (N := none) #[true, true, true, true] rfl rfl (by kernel_rfl) (by decide) (fun K hK => ?_); refine skip_ (w1 := ?_) (by rfl) rfl ?_ ?_; rotate_left
        · go_simp
          rfl
        refine hK.out _ _ (⟨chg9_.blk hHeld2.1 (H20.out.ne 3 1 rfl rfl (by decide)), chg9_.blk hHeld2.2 (H20.out.ne 0 1 rfl rfl (by decide))⟩) (fun hHeld3 => ?_); clear hK K
        refine done_ (by kernel_rfl) ?_
        clear s0 s1 s2 s3 s4 s5 s6 s7 s8 f0 f1 f2 f3 f4 f5 f6 f7 f8 hHeld hHeld2 hHeld3
        try go_wp2
        have H21 := H20.out.put 2 rfl (put3_ (v0 := .slice A l.length c) (v1 := .int .i64 i) (v2 := .int .i64 e) (H20.out.get 2 rfl)) chg3_
        have H22 := H21.put 1 rfl (put9_ (v0 := .int .i64 x.f0) (v1 := .string x.f1) (v2 := .string x.f2) (v3 := .int .i64 x.f3) (v4 := .int .i64 x.f4) (v5 := .int .i64 x.f5.f0) (v6 := .int .i64 x.f5.f1) (v7 := .string x.f5.f2) (v8 := .slice vA x.f6.length vc) (H21.get 1 rfl)) chg9_
        exact bodyPost_ret (results_cc rfl _ _ _ _ 95 27 _ _ (0, 0) (0, 0) _ _ rfl (H22.get 2 rfl) Try.underlying95 rfl (by kernel_rfl) rfl (H22.get 1 rfl) Try.underlying27 rfl (by kernel_rfl)) rfl (H22.done (r := ⟨i, d, e, x⟩) (H22.out 0 rfl) HI.out.1 HI.out.2)
      | true =>
        rw [find1 (f := fun s => isP l i e s) hs, if_pos rfl] at HH
        obtain ⟨r1, hq1, hq2⟩ := Option.bind_eq_some_iff.1 HH
        rw [op_or] at hq2
        have Q1 := Lib.hid hq1; have Q2 := Lib.hid hq2; have HS := Lib.hid hs; have HL := Lib.hid (isP_lt hs); clear hq1 hq2 HH hs
        have hi2 : i ≤ 1000000 := by have := HI.out.2; omega
        go_wp2_with (first
          | ((with_reducible refine gate_callee (f := 91) rfl ?_); refine goesL_ (some 16) rfl rfl Try.func91 (by kernel_rfl) rfl #[atV A l.length c i e, .string wOr] rfl (by (try simp only [List.map_toArray, List.map_cons, List.map_nil]); first | done | rfl) ?_; refine (r_is (H6.out.C HC.out) HI.out.1 _ HS.out).mono ?_; rintro r' w7 ⟨rfl, b7⟩; refine ⟨_, rfl, ?_⟩; simp only [Act.put, sa_, sz_, ss_]; have H7 := Lib.hid (H6.out.below b7); clear b7 H6; obtain ⟨lc2_0, lc2_1, lc2_2, lf2_0, lf2_1, lf2_2⟩ := bw3_ (H7.out.get 3 rfl))
          | ((with_reducible refine gate_callee (f := 92) rfl ?_); refine goesL_ (some 19) rfl rfl Try.func92 (by kernel_rfl) rfl #[atV A l.length c i e] rfl (by (try simp only [List.map_toArray, List.map_cons, List.map_nil]); first | done | rfl) ?_; refine (r_step A l.length c i e w7 HI.out.1 hi2).mono ?_; rintro r' w8 ⟨rfl, b8⟩; refine ⟨_, rfl, ?_⟩; simp only [Act.put, sa_, sz_, ss_]; simp only [atV]; have H8 := Lib.hid (H7.out.below b8); clear b8 H7)
          | ((with_reducible refine gate_callee (f := 90) rfl ?_); refine goesL_ (some 21) rfl rfl Try.func90 (by kernel_rfl) rfl #[atV A l.length c (i + 1) e, .int .i64 d] rfl (by (try simp only [List.map_toArray, List.map_cons, List.map_nil]); first | done | rfl) ?_; refine (HP.out k1 (by have := HK.out; omega) _ _ _ _ _ _ _ _ (H8.out.C HC.out) (by have := HI.out.1; omega) HL.out hl d0 d50 Q1.out).mono ?_; rintro r' w9 ⟨yA, yc, rfl, t9, b9, i9, j9⟩; refine ⟨_, rfl, ?_⟩; simp only [Act.put, sa_, sz_, ss_]; simp only [atV, exV]; have H9 := Lib.hid (H8.out.call b9 t9); have I9 := Lib.hid (And.intro i9 j9); clear t9 b9 i9 j9 H8)
          | ((with_reducible refine gate_dst (N := 7) rfl ?_); refine box_event ?hg (N := 7) ?hd (cs := #[.slice none 0 0, .int .i64 0, .int .i64 0]) (t := 95) ?hr ?_; (case hd => rfl); (case hg => rfl); (case hr => first | (go_simp; done) | (go_simp; rfl)); intro g7 hg_ w10 hb_ hl_; have H10 := Lib.hid (H9.out.box hb_ hl_ (Nat.le_of_eq hg_.symm)); clear hb_ hl_ hg_ H9; simp only [Act.put, sa_, sz_, ss_])
          | (((with_reducible refine gate_dst (N := 8) rfl ?_); refine box_event ?hg (N := 8) ?hd (cs := #[.int .i64 0, .string (⟨#[]⟩ : ByteArray), .string (⟨#[]⟩ : ByteArray), .int .i64 0, .int .i64 0, .int .i64 0, .int .i64 0, .string (⟨#[]⟩ : ByteArray), .slice none 0 0]) (t := 27) ?hr ?_; (case hd => rfl); (case hg => rfl); (case hr => first | (go_simp; done) | (go_simp; rfl)); intro g8 hg_ w11 hb_ hl_; have H11 := Lib.hid (H10.out.box hb_ hl_ (Nat.le_of_eq hg_.symm)); clear hb_ hl_ hg_ H10; simp only [Act.put, sa_, sz_, ss_]; obtain ⟨lc40_0, lc40_1, lc40_2, lc40_3, lc40_4, lc40_5, lc40_6, lc40_7, lc40_8, lf40_0, lf40_1, lf40_2, lf40_3, lf40_4, lf40_5, lf40_6, lf40_7, lf40_8⟩ := bw9_ (H11.out.get 0 rfl); obtain ⟨lc41_0, lc41_1, lc41_2, lf41_0, lf41_1, lf41_2⟩ := bw3_ (H11.out.get 1 rfl)); have nn19 := H11.out.ne 0 1 rfl rfl (by decide); have nm19 := nn19.symm))
        refine startX_ (n := 6) (S := fun w' => w'.heap[g7]? = some (.cells (at3 A l.length c r1.i r1.e) 95 (0, 0)) ∧ w'.heap[g6]? = some (.cells (cl27 x vA vc) 27 (0, 0)) ∧ w'.heap[g8]? = some (.cells (cl27 r1.x yA yc) 27 (0, 0))) (ds := [5]) #[false, false, false, false, false, false] (by kernel_rfl) rfl rfl (((H11.out.put 1 rfl (put3_ (H11.out.get 1 rfl)) chg3_).put 0 rfl (put9_ ((H11.out.put 1 rfl (put3_ (H11.out.get 1 rfl)) chg3_).get 0 rfl)) chg9_)) (fun w' h => ⟨h.get 1 rfl, h.get 2 rfl, h.get 0 rfl⟩) (fun w12 h_ hHeld => ?_)
        have H12 := Lib.hid h_; clear h_ H11
        refine take_ (i := 0) (N := some 24) (v := ?_) (a' := ?_) #[true, false, false, false, false, false] rfl rfl (by kernel_rfl) (fun _ _ _ h => h) (Or.inl ⟨by rfl, ?_⟩) hHeld ?_ ?_; rotate_left
        · intro w' hS; obtain ⟨s0, s1, s2, f0, f1, f2⟩ := bw3_ hS.1; go_simp; (with_reducible rfl)
        rotate_left
        · simp only [Act.put, sa_, sz_, ss_, i64_w, i32_w]
          rfl
        refine take_ (i := 1) (N := some 25) (v := ?_) (a' := ?_) #[true, true, false, false, false, false] rfl rfl (by kernel_rfl) (fun _ _ _ h => h) (Or.inl ⟨by rfl, ?_⟩) hHeld ?_ ?_; rotate_left
        · intro w' hS; obtain ⟨s0, s1, s2, s3, s4, s5, s6, s7, s8, f0, f1, f2, f3, f4, f5, f6, f7, f8⟩ := bw9_ hS.2.1; go_simp; (with_reducible rfl)
        rotate_left
        · simp only [Act.put, sa_, sz_, ss_, i64_w, i32_w]
          rfl
        refine take_ (i := 2) (N := some 26) (v := ?_) (a' := ?_) #[true, true, true, false, false, false] rfl rfl (by kernel_rfl) (fun _ _ _ h => h) (Or.inl ⟨by rfl, ?_⟩) hHeld ?_ ?_; rotate_left
        · intro w' hS; obtain ⟨s0, s1, s2, s3, s4, s5, s6, s7, s8, f0, f1, f2, f3, f4, f5, f6, f7, f8⟩ := bw9_ hS.2.2; go_simp; (with_reducible rfl)
        rotate_left
        · simp only [Act.put, sa_, sz_, ss_, i64_w, i32_w]
          rfl
        refine one_ (i := 3) (N := some 27) #[true, true, true, true, false, false] rfl rfl (by kernel_rfl) (by decide) (fun K hK => ?_); refine goes_ Try.func93 (by kernel_rfl) rfl #[.int .i64 11, exV x vA vc, exV r1.x yA yc] (by rfl) rfl rfl (by (try simp only [List.map_toArray, List.map_cons, List.map_nil]); first | done | rfl) ?_; refine (r_two 11 x r1.x (H12.out.tre 1 rfl) (H12.out.tre 0 rfl)).mono ?_; rintro e' w13 ⟨zA, zc, rfl, t13, b13⟩; refine ⟨_, rfl, ?_⟩; have H13 := Lib.hid (H12.out.callO b13 t13); refine hK.out _ _ (⟨blk_below hHeld.1 b13, blk_below hHeld.2.1 b13, blk_below hHeld.2.2 b13⟩) (fun hHeld => ?_); clear hK K; refine norm_ (a' := ?_) ?_ ?_; rotate_left
        · show Act.put _ (some 27) _ = _
          simp only [Act.put, sa_, sz_, ss_, i64_w, i32_w, exV, ofP]; rfl
        clear b13 t13 H12; obtain ⟨lc3_0, lc3_1, lc3_2, lf3_0, lf3_1, lf3_2⟩ := bw3_ (H13.out.get 5 rfl); have nn20 := H13.out.ne 2 5 rfl rfl (by decide); have nm20 := nn20.symm
        refine one_ (i := 4) (N := none) #[true, true, true, true, true, false] rfl rfl (by kernel_rfl) (by decide) (fun K hK => ?_); refine skip_ (w1 := ?_) (by rfl) rfl ?_ ?_; rotate_left
        · go_simp
          rfl
        refine hK.out _ _ (⟨chg3_.blk hHeld.1 (H13.out.ne 1 5 rfl rfl (by decide)), chg3_.blk hHeld.2.1 (H13.out.ne 2 5 rfl rfl (by decide)), chg3_.blk hHeld.2.2 (H13.out.ne 0 5 rfl rfl (by decide))⟩) (fun hHeld2 => ?_); clear hK K
        obtain ⟨lc4_0, lc4_1, lc4_2, lc4_3, lc4_4, lc4_5, lc4_6, lc4_7, lc4_8, lf4_0, lf4_1, lf4_2, lf4_3, lf4_4, lf4_5, lf4_6, lf4_7, lf4_8⟩ := bw9_ (H13.out.get 2 rfl)
        refine last_ (i := 5) (N := none) #[true, true, true, true, true, true] rfl rfl (by kernel_rfl) (by decide) (fun K hK => ?_); refine skip_ (w1 := ?_) (by rfl) rfl ?_ ?_; rotate_left
        · go_simp
          rfl
        refine hK.out _ _ ?_; clear hK K; refine done_ (by kernel_rfl) ?_
        clear hHeld hHeld2
        try go_wp2
        have H15 := (H13.out.put 5 rfl (put3_ (v0 := .slice A l.length c) (v1 := .int .i64 r1.i) (v2 := .int .i64 r1.e) (H13.out.get 5 rfl)) chg3_).put 2 rfl (put9_ (v0 := .int .i64 11) (v1 := .string ⟨#[]⟩) (v2 := .string ⟨#[]⟩) (v3 := .int .i64 0) (v4 := .int .i64 0) (v5 := .int .i64 0) (v6 := .int .i64 0) (v7 := .string ⟨#[]⟩) (v8 := .slice zA 2 zc) ((H13.out.put 5 rfl (put3_ (v0 := .slice A l.length c) (v1 := .int .i64 r1.i) (v2 := .int .i64 r1.e) (H13.out.get 5 rfl)) chg3_).get 2 rfl)) chg9_
        go_roundg k1
        case measure => omega
        case rel => exact ⟨r1.i, r1.e, ofP 11 [x, r1.x], zA, zc, ⟨Q2.out⟩, ⟨by have := HK.out; omega⟩, ⟨H15.tail.tail.sub (by simp)⟩, ⟨I9.out⟩⟩
theorem r_and (k : Nat) (hp : ∀ j, j ≤ k → RGOK j .not) : RGOK (k + 1) .and := by
  intro w A c l i0 d e0 r hC h0 h1 hl d0 d50 hr
  simp only [rr] at hr
  obtain ⟨r0, hr0, hr⟩ := Option.bind_eq_some_iff.1 hr
  change Calls Try.prog 90 _ _ _
  have HC := Lib.hid hC; have HP := Lib.hid hp; have HR := Lib.hid hr; have HR0 := Lib.hid hr0
  clear hC hp hr hr0
  have H0 := Lib.hid (RS.start w)
  go_enter Try.func90, Try.ntmps90
  go_wp2_with (first
    | ((with_reducible refine gate_dst (N := 2) rfl ?_); refine box_event ?hg (N := 2) ?hd (cs := #[.slice A l.length c, .int .i64 i0, .int .i64 e0]) (t := 95) ?hr ?_; (case hd => rfl); (case hg => rfl); (case hr => first | (go_simp; done) | (go_simp; rfl)); intro g2 hg_ w1 hb_ hl_; have H1 := Lib.hid (H0.out.box hb_ hl_ (Nat.le_of_eq hg_.symm)); clear hb_ hl_ hg_ H0; simp only [Act.put, sa_, sz_, ss_])
    | ((with_reducible refine gate_dst (N := 4) rfl ?_); refine box_event ?hg (N := 4) ?hd (cs := #[.slice none 0 0, .int .i64 0, .int .i64 0]) (t := 95) ?hr ?_; (case hd => rfl); (case hg => rfl); (case hr => first | (go_simp; done) | (go_simp; rfl)); intro g4 hg_ w2 hb_ hl_; have H2 := Lib.hid (H1.out.box hb_ hl_ (Nat.le_of_eq hg_.symm)); clear hb_ hl_ hg_ H1; simp only [Act.put, sa_, sz_, ss_])
    | ((with_reducible refine gate_dst (N := 5) rfl ?_); refine box_event ?hg (N := 5) ?hd (cs := #[.int .i64 0, .string (⟨#[]⟩ : ByteArray), .string (⟨#[]⟩ : ByteArray), .int .i64 0, .int .i64 0, .int .i64 0, .int .i64 0, .string (⟨#[]⟩ : ByteArray), .slice none 0 0]) (t := 27) ?hr ?_; (case hd => rfl); (case hg => rfl); (case hr => first | (go_simp; done) | (go_simp; rfl)); intro g5 hg_ w3 hb_ hl_; have H3 := Lib.hid (H2.out.box hb_ hl_ (Nat.le_of_eq hg_.symm)); clear hb_ hl_ hg_ H2; simp only [Act.put, sa_, sz_, ss_]; obtain ⟨lc42_0, lc42_1, lc42_2, lf42_0, lf42_1, lf42_2⟩ := bw3_ (H3.out.get 2 rfl))
    | ((with_reducible refine gate_callee (f := 125) rfl ?_); refine goesL_ (some 12) rfl rfl Try.func125 (by kernel_rfl) rfl #[atV A l.length c i0 e0, .int .i64 d] rfl (by (try simp only [List.map_toArray, List.map_cons, List.map_nil]); first | done | rfl) ?_; refine (HP.out k (Nat.le_refl k) _ _ _ _ _ _ _ _ (H3.out.C HC.out) h0 h1 hl d0 d50 HR0.out).mono ?_; rintro r' w4 ⟨vA, vc, rfl, t4, b4, i4, j4⟩; refine ⟨_, rfl, ?_⟩; simp only [Act.put, sa_, sz_, ss_]; simp only [atV, exV]; have H4 := Lib.hid (H3.out.call b4 t4); have I4 := Lib.hid (And.intro i4 j4); clear t4 b4 i4 j4 H3)
    | (((with_reducible refine gate_dst (N := 6) rfl ?_); refine box_event ?hg (N := 6) ?hd (cs := #[.int .i64 0, .string (⟨#[]⟩ : ByteArray), .string (⟨#[]⟩ : ByteArray), .int .i64 0, .int .i64 0, .int .i64 0, .int .i64 0, .string (⟨#[]⟩ : ByteArray), .slice none 0 0]) (t := 27) ?hr ?_; (case hd => rfl); (case hg => rfl); (case hr => first | (go_simp; done) | (go_simp; rfl)); intro g6 hg_ w5 hb_ hl_; have H5 := Lib.hid (H4.out.box hb_ hl_ (Nat.le_of_eq hg_.symm)); clear hb_ hl_ hg_ H4; simp only [Act.put, sa_, sz_, ss_]; obtain ⟨lc43_0, lc43_1, lc43_2, lc43_3, lc43_4, lc43_5, lc43_6, lc43_7, lc43_8, lf43_0, lf43_1, lf43_2, lf43_3, lf43_4, lf43_5, lf43_6, lf43_7, lf43_8⟩ := bw9_ (H5.out.get 0 rfl); obtain ⟨lc44_0, lc44_1, lc44_2, lf44_0, lf44_1, lf44_2⟩ := bw3_ (H5.out.get 3 rfl)); have nn21 := H5.out.ne 0 3 rfl rfl (by decide); have nm21 := nn21.symm))
  go_loopg [] k (fun kq w' => ∃ (i e : Int) (x : S27) (vA : Option Addr) (vc : Nat), Aside0 (rr l kq (.ch .not [wAnd] x) i d e = some r) ∧ Aside0 (kq ≤ k) ∧ Aside0 (RS w w' [(g6, cl27 x vA vc, 27), (g5, #[.int .i64 0, .string ⟨#[]⟩, .string ⟨#[]⟩, .int .i64 0, .int .i64 0, .int .i64 0, .int .i64 0, .string ⟨#[]⟩, .slice none 0 0], 27), (g4, #[.slice none 0 0, .int .i64 0, .int .i64 0], 95), (g2, at3 A l.length c i e, 95)] [(x, vA, vc)]) ∧ Aside0 (0 ≤ i ∧ i ≤ l.length))
  case atStart => exact ⟨r0.i, r0.e, r0.x, vA, vc, ⟨HR.out⟩, ⟨Nat.le_refl _⟩, ⟨((H5.out.put 3 rfl (put3_ (H5.out.get 3 rfl)) chg3_).put 0 rfl (put9_ ((H5.out.put 3 rfl (put3_ (H5.out.get 3 rfl)) chg3_).get 0 rfl)) chg9_)⟩, ⟨I4.out⟩⟩
  case round =>
    clear H5 I4 HR0 HR h0 h1
    obtain ⟨i, e, x, vA, vc, HA, HK, H6, HI⟩ := hrel
    cases gk with
    | zero => exact absurd HA.out (by simp [rr])
    | succ k1 =>
      have HH := HA.out; clear HA
      simp only [rr] at HH
      obtain ⟨lc5_0, lc5_1, lc5_2, lf5_0, lf5_1, lf5_2⟩ := bw3_ (H6.out.get 3 rfl)
      cases hs : isP l i e wAnd with
      | false =>
        rw [find1 (f := fun s => isP l i e s) hs, if_neg (by decide)] at HH
        obtain rfl := Option.some.inj HH
        have HS := Lib.hid hs; clear HH hs HK
        go_wp2_with (first
          | ((with_reducible refine gate_callee (f := 91) rfl ?_); refine goesL_ (some 16) rfl rfl Try.func91 (by kernel_rfl) rfl #[atV A l.length c i e, .string wAnd] rfl (by (try simp only [List.map_toArray, List.map_cons, List.map_nil]); first | done | rfl) ?_; refine (r_is (H6.out.C HC.out) HI.out.1 _ HS.out).mono ?_; rintro r' w7 ⟨rfl, b7⟩; refine ⟨_, rfl, ?_⟩; simp only [Act.put, sa_, sz_, ss_]; have H7 := Lib.hid (H6.out.below b7); clear b7 H6))
        refine startX_ (n := 4) (S := fun w' => w'.heap[g2]? = some (.cells (at3 A l.length c i e) 95 (0, 0)) ∧ w'.heap[g6]? = some (.cells (cl27 x vA vc) 27 (0, 0))) (ds := []) #[false, false, false, false] (by kernel_rfl) rfl rfl (H7.out) (fun w' h => ⟨h.get 3 rfl, h.get 0 rfl⟩) (fun w20 h_ hHeld => ?_)
        have H20 := Lib.hid h_; clear h_ H7
        refine take_ (i := 0) (N := some 28) (v := ?_) (a' := ?_) #[true, false, false, false] rfl rfl (by kernel_rfl) (fun _ _ _ h => h) (Or.inl ⟨by rfl, ?_⟩) hHeld ?_ ?_; rotate_left
        · intro w' hS; obtain ⟨s0, s1, s2, f0, f1, f2⟩ := bw3_ hS.1; go_simp; (with_reducible rfl)
        rotate_left
        · simp only [Act.put, sa_, sz_, ss_, i64_w, i32_w]
          rfl
        refine take_ (i := 1) (N := some 29) (v := ?_) (a' := ?_) #[true, true, false, false] rfl rfl (by kernel_rfl) (fun _ _ _ h => h) (Or.inl ⟨by rfl, ?_⟩) hHeld ?_ ?_; rotate_left
        · intro w' hS; obtain ⟨s0, s1, s2, s3, s4, s5, s6, s7, s8, f0, f1, f2, f3, f4, f5, f6, f7, f8⟩ := bw9_ hS.2; go_simp; (with_reducible rfl)
        rotate_left
        · simp only [Act.put, sa_, sz_, ss_, i64_w, i32_w]
          rfl
        have nn22 := H20.out.ne 2 3 rfl rfl (by decide); have nm22 := nn22.symm; have nn23 := H20.out.ne 2 0 rfl rfl (by decide); have nm23 := nn23.symm; have nn24 := H20.out.ne 1 3 rfl rfl (by decide); have nm24 := nn24.symm; have nn25 := H20.out.ne 1 0 rfl rfl (by decide); have nm25 := nn25.symm; have nn26 := H20.out.ne 2 1 rfl rfl (by decide); have nm26 := nn26.symm; obtain ⟨s0, s1, s2, f0, f1, f2⟩ := bw3_ (H20.out.get 2 rfl)
        refine one_ (i := 2) (N := none) #[true, true, true, false] rfl rfl (by kernel_rfl) (by decide) (fun K hK => ?_); refine skip_ (w1 := ?_) (by rfl) rfl ?_ ?_; rotate_left
        · go_simp
          rfl
        refine hK.out _ _ (⟨chg3_.blk hHeld.1 (H20.out.ne 3 2 rfl rfl (by decide)), chg3_.blk hHeld.2 (H20.out.ne 0 2 rfl rfl (by decide))⟩) (fun hHeld2 => ?_); clear hK K
        clear s0 s1 s2 f0 f1 f2; obtain ⟨s0, s1, s2, s3, s4, s5, s6, s7, s8, f0, f1, f2, f3, f4, f5, f6, f7, f8⟩ := bw9_ (H20.out.get 1 rfl)
        refine one_ (i := 3) (N := none) #[true, true, true, true] rfl rfl (by kernel_rfl) (by decide) (fun K hK => ?_); refine skip_ (w1 := ?_) (by rfl) rfl ?_ ?_; rotate_left
        · go_simp
          rfl
        refine hK.out _ _ (⟨chg9_.blk hHeld2.1 (H20.out.ne 3 1 rfl rfl (by decide)), chg9_.blk hHeld2.2 (H20.out.ne 0 1 rfl rfl (by decide))⟩) (fun hHeld3 => ?_); clear hK K
        refine done_ (by kernel_rfl) ?_
        clear s0 s1 s2 s3 s4 s5 s6 s7 s8 f0 f1 f2 f3 f4 f5 f6 f7 f8 hHeld hHeld2 hHeld3
        try go_wp2
        have H21 := H20.out.put 2 rfl (put3_ (v0 := .slice A l.length c) (v1 := .int .i64 i) (v2 := .int .i64 e) (H20.out.get 2 rfl)) chg3_
        have H22 := H21.put 1 rfl (put9_ (v0 := .int .i64 x.f0) (v1 := .string x.f1) (v2 := .string x.f2) (v3 := .int .i64 x.f3) (v4 := .int .i64 x.f4) (v5 := .int .i64 x.f5.f0) (v6 := .int .i64 x.f5.f1) (v7 := .string x.f5.f2) (v8 := .slice vA x.f6.length vc) (H21.get 1 rfl)) chg9_
        exact bodyPost_ret (results_cc rfl _ _ _ _ 95 27 _ _ (0, 0) (0, 0) _ _ rfl (H22.get 2 rfl) Try.underlying95 rfl (by kernel_rfl) rfl (H22.get 1 rfl) Try.underlying27 rfl (by kernel_rfl)) rfl (H22.done (r := ⟨i, d, e, x⟩) (H22.out 0 rfl) HI.out.1 HI.out.2)
      | true =>
        rw [find1 (f := fun s => isP l i e s) hs, if_pos rfl] at HH
        obtain ⟨r1, hq1, hq2⟩ := Option.bind_eq_some_iff.1 HH
        rw [op_and] at hq2
        have Q1 := Lib.hid hq1; have Q2 := Lib.hid hq2; have HS := Lib.hid hs; have HL := Lib.hid (isP_lt hs); clear hq1 hq2 HH hs
        have hi2 : i ≤ 1000000 := by have := HI.out.2; omega
        go_wp2_with (first
          | ((with_reducible refine gate_callee (f := 91) rfl ?_); refine goesL_ (some 16) rfl rfl Try.func91 (by kernel_rfl) rfl #[atV A l.length c i e, .string wAnd] rfl (by (try simp only [List.map_toArray, List.map_cons, List.map_nil]); first | done | rfl) ?_; refine (r_is (H6.out.C HC.out) HI.out.1 _ HS.out).mono ?_; rintro r' w7 ⟨rfl, b7⟩; refine ⟨_, rfl, ?_⟩; simp only [Act.put, sa_, sz_, ss_]; have H7 := Lib.hid (H6.out.below b7); clear b7 H6; obtain ⟨lc6_0, lc6_1, lc6_2, lf6_0, lf6_1, lf6_2⟩ := bw3_ (H7.out.get 3 rfl))
          | ((with_reducible refine gate_callee (f := 92) rfl ?_); refine goesL_ (some 19) rfl rfl Try.func92 (by kernel_rfl) rfl #[atV A l.length c i e] rfl (by (try simp only [List.map_toArray, List.map_cons, List.map_nil]); first | done | rfl) ?_; refine (r_step A l.length c i e w7 HI.out.1 hi2).mono ?_; rintro r' w8 ⟨rfl, b8⟩; refine ⟨_, rfl, ?_⟩; simp only [Act.put, sa_, sz_, ss_]; simp only [atV]; have H8 := Lib.hid (H7.out.below b8); clear b8 H7)
          | ((with_reducible refine gate_callee (f := 125) rfl ?_); refine goesL_ (some 21) rfl rfl Try.func125 (by kernel_rfl) rfl #[atV A l.length c (i + 1) e, .int .i64 d] rfl (by (try simp only [List.map_toArray, List.map_cons, List.map_nil]); first | done | rfl) ?_; refine (HP.out k1 (by have := HK.out; omega) _ _ _ _ _ _ _ _ (H8.out.C HC.out) (by have := HI.out.1; omega) HL.out hl d0 d50 Q1.out).mono ?_; rintro r' w9 ⟨yA, yc, rfl, t9, b9, i9, j9⟩; refine ⟨_, rfl, ?_⟩; simp only [Act.put, sa_, sz_, ss_]; simp only [atV, exV]; have H9 := Lib.hid (H8.out.call b9 t9); have I9 := Lib.hid (And.intro i9 j9); clear t9 b9 i9 j9 H8)
          | ((with_reducible refine gate_dst (N := 7) rfl ?_); refine box_event ?hg (N := 7) ?hd (cs := #[.slice none 0 0, .int .i64 0, .int .i64 0]) (t := 95) ?hr ?_; (case hd => rfl); (case hg => rfl); (case hr => first | (go_simp; done) | (go_simp; rfl)); intro g7 hg_ w10 hb_ hl_; have H10 := Lib.hid (H9.out.box hb_ hl_ (Nat.le_of_eq hg_.symm)); clear hb_ hl_ hg_ H9; simp only [Act.put, sa_, sz_, ss_])
          | (((with_reducible refine gate_dst (N := 8) rfl ?_); refine box_event ?hg (N := 8) ?hd (cs := #[.int .i64 0, .string (⟨#[]⟩ : ByteArray), .string (⟨#[]⟩ : ByteArray), .int .i64 0, .int .i64 0, .int .i64 0, .int .i64 0, .string (⟨#[]⟩ : ByteArray), .slice none 0 0]) (t := 27) ?hr ?_; (case hd => rfl); (case hg => rfl); (case hr => first | (go_simp; done) | (go_simp; rfl)); intro g8 hg_ w11 hb_ hl_; have H11 := Lib.hid (H10.out.box hb_ hl_ (Nat.le_of_eq hg_.symm)); clear hb_ hl_ hg_ H10; simp only [Act.put, sa_, sz_, ss_]; obtain ⟨lc45_0, lc45_1, lc45_2, lc45_3, lc45_4, lc45_5, lc45_6, lc45_7, lc45_8, lf45_0, lf45_1, lf45_2, lf45_3, lf45_4, lf45_5, lf45_6, lf45_7, lf45_8⟩ := bw9_ (H11.out.get 0 rfl); obtain ⟨lc46_0, lc46_1, lc46_2, lf46_0, lf46_1, lf46_2⟩ := bw3_ (H11.out.get 1 rfl)); have nn27 := H11.out.ne 0 1 rfl rfl (by decide); have nm27 := nn27.symm))
        refine startX_ (n := 6) (S := fun w' => w'.heap[g7]? = some (.cells (at3 A l.length c r1.i r1.e) 95 (0, 0)) ∧ w'.heap[g6]? = some (.cells (cl27 x vA vc) 27 (0, 0)) ∧ w'.heap[g8]? = some (.cells (cl27 r1.x yA yc) 27 (0, 0))) (ds := [5]) #[false, false, false, false, false, false] (by kernel_rfl) rfl rfl (((H11.out.put 1 rfl (put3_ (H11.out.get 1 rfl)) chg3_).put 0 rfl (put9_ ((H11.out.put 1 rfl (put3_ (H11.out.get 1 rfl)) chg3_).get 0 rfl)) chg9_)) (fun w' h => ⟨h.get 1 rfl, h.get 2 rfl, h.get 0 rfl⟩) (fun w12 h_ hHeld => ?_)
        have H12 := Lib.hid h_; clear h_ H11
        refine take_ (i := 0) (N := some 24) (v := ?_) (a' := ?_) #[true, false, false, false, false, false] rfl rfl (by kernel_rfl) (fun _ _ _ h => h) (Or.inl ⟨by rfl, ?_⟩) hHeld ?_ ?_; rotate_left
        · intro w' hS; obtain ⟨s0, s1, s2, f0, f1, f2⟩ := bw3_ hS.1; go_simp; (with_reducible rfl)
        rotate_left
        · simp only [Act.put, sa_, sz_, ss_, i64_w, i32_w]
          rfl
        refine take_ (i := 1) (N := some 25) (v := ?_) (a' := ?_) #[true, true, false, false, false, false] rfl rfl (by kernel_rfl) (fun _ _ _ h => h) (Or.inl ⟨by rfl, ?_⟩) hHeld ?_ ?_; rotate_left
        · intro w' hS; obtain ⟨s0, s1, s2, s3, s4, s5, s6, s7, s8, f0, f1, f2, f3, f4, f5, f6, f7, f8⟩ := bw9_ hS.2.1; go_simp; (with_reducible rfl)
        rotate_left
        · simp only [Act.put, sa_, sz_, ss_, i64_w, i32_w]
          rfl
        refine take_ (i := 2) (N := some 26) (v := ?_) (a' := ?_) #[true, true, true, false, false, false] rfl rfl (by kernel_rfl) (fun _ _ _ h => h) (Or.inl ⟨by rfl, ?_⟩) hHeld ?_ ?_; rotate_left
        · intro w' hS; obtain ⟨s0, s1, s2, s3, s4, s5, s6, s7, s8, f0, f1, f2, f3, f4, f5, f6, f7, f8⟩ := bw9_ hS.2.2; go_simp; (with_reducible rfl)
        rotate_left
        · simp only [Act.put, sa_, sz_, ss_, i64_w, i32_w]
          rfl
        refine one_ (i := 3) (N := some 27) #[true, true, true, true, false, false] rfl rfl (by kernel_rfl) (by decide) (fun K hK => ?_); refine goes_ Try.func93 (by kernel_rfl) rfl #[.int .i64 10, exV x vA vc, exV r1.x yA yc] (by rfl) rfl rfl (by (try simp only [List.map_toArray, List.map_cons, List.map_nil]); first | done | rfl) ?_; refine (r_two 10 x r1.x (H12.out.tre 1 rfl) (H12.out.tre 0 rfl)).mono ?_; rintro e' w13 ⟨zA, zc, rfl, t13, b13⟩; refine ⟨_, rfl, ?_⟩; have H13 := Lib.hid (H12.out.callO b13 t13); refine hK.out _ _ (⟨blk_below hHeld.1 b13, blk_below hHeld.2.1 b13, blk_below hHeld.2.2 b13⟩) (fun hHeld => ?_); clear hK K; refine norm_ (a' := ?_) ?_ ?_; rotate_left
        · show Act.put _ (some 27) _ = _
          simp only [Act.put, sa_, sz_, ss_, i64_w, i32_w, exV, ofP]; rfl
        clear b13 t13 H12; obtain ⟨lc7_0, lc7_1, lc7_2, lf7_0, lf7_1, lf7_2⟩ := bw3_ (H13.out.get 5 rfl); have nn28 := H13.out.ne 2 5 rfl rfl (by decide); have nm28 := nn28.symm
        refine one_ (i := 4) (N := none) #[true, true, true, true, true, false] rfl rfl (by kernel_rfl) (by decide) (fun K hK => ?_); refine skip_ (w1 := ?_) (by rfl) rfl ?_ ?_; rotate_left
        · go_simp
          rfl
        refine hK.out _ _ (⟨chg3_.blk hHeld.1 (H13.out.ne 1 5 rfl rfl (by decide)), chg3_.blk hHeld.2.1 (H13.out.ne 2 5 rfl rfl (by decide)), chg3_.blk hHeld.2.2 (H13.out.ne 0 5 rfl rfl (by decide))⟩) (fun hHeld2 => ?_); clear hK K
        obtain ⟨lc8_0, lc8_1, lc8_2, lc8_3, lc8_4, lc8_5, lc8_6, lc8_7, lc8_8, lf8_0, lf8_1, lf8_2, lf8_3, lf8_4, lf8_5, lf8_6, lf8_7, lf8_8⟩ := bw9_ (H13.out.get 2 rfl)
        refine last_ (i := 5) (N := none) #[true, true, true, true, true, true] rfl rfl (by kernel_rfl) (by decide) (fun K hK => ?_); refine skip_ (w1 := ?_) (by rfl) rfl ?_ ?_; rotate_left
        · go_simp
          rfl
        refine hK.out _ _ ?_; clear hK K; refine done_ (by kernel_rfl) ?_
        clear hHeld hHeld2
        try go_wp2
        have H15 := (H13.out.put 5 rfl (put3_ (v0 := .slice A l.length c) (v1 := .int .i64 r1.i) (v2 := .int .i64 r1.e) (H13.out.get 5 rfl)) chg3_).put 2 rfl (put9_ (v0 := .int .i64 10) (v1 := .string ⟨#[]⟩) (v2 := .string ⟨#[]⟩) (v3 := .int .i64 0) (v4 := .int .i64 0) (v5 := .int .i64 0) (v6 := .int .i64 0) (v7 := .string ⟨#[]⟩) (v8 := .slice zA 2 zc) ((H13.out.put 5 rfl (put3_ (v0 := .slice A l.length c) (v1 := .int .i64 r1.i) (v2 := .int .i64 r1.e) (H13.out.get 5 rfl)) chg3_).get 2 rfl)) chg9_
        go_roundg k1
        case measure => omega
        case rel => exact ⟨r1.i, r1.e, ofP 10 [x, r1.x], zA, zc, ⟨Q2.out⟩, ⟨by have := HK.out; omega⟩, ⟨H15.tail.tail.sub (by simp)⟩, ⟨I9.out⟩⟩
theorem r_prod (k : Nat) (hp : ∀ j, j ≤ k → RGOK j .atom) : RGOK (k + 1) .prod := by
  intro w A c l i0 d e0 r hC h0 h1 hl d0 d50 hr
  simp only [rr] at hr
  obtain ⟨r0, hr0, hr⟩ := Option.bind_eq_some_iff.1 hr
  change Calls Try.prog 168 _ _ _
  have HC := Lib.hid hC; have HP := Lib.hid hp; have HR := Lib.hid hr; have HR0 := Lib.hid hr0
  clear hC hp hr hr0
  have H0 := Lib.hid (RS.start w)
  go_enter Try.func168, Try.ntmps168
  go_wp2_with (first
    | ((with_reducible refine gate_dst (N := 2) rfl ?_); refine box_event ?hg (N := 2) ?hd (cs := #[.slice A l.length c, .int .i64 i0, .int .i64 e0]) (t := 95) ?hr ?_; (case hd => rfl); (case hg => rfl); (case hr => first | (go_simp; done) | (go_simp; rfl)); intro g2 hg_ w1 hb_ hl_; have H1 := Lib.hid (H0.out.box hb_ hl_ (Nat.le_of_eq hg_.symm)); clear hb_ hl_ hg_ H0; simp only [Act.put, sa_, sz_, ss_])
    | ((with_reducible refine gate_dst (N := 4) rfl ?_); refine box_event ?hg (N := 4) ?hd (cs := #[.slice none 0 0, .int .i64 0, .int .i64 0]) (t := 95) ?hr ?_; (case hd => rfl); (case hg => rfl); (case hr => first | (go_simp; done) | (go_simp; rfl)); intro g4 hg_ w2 hb_ hl_; have H2 := Lib.hid (H1.out.box hb_ hl_ (Nat.le_of_eq hg_.symm)); clear hb_ hl_ hg_ H1; simp only [Act.put, sa_, sz_, ss_])
    | ((with_reducible refine gate_dst (N := 5) rfl ?_); refine box_event ?hg (N := 5) ?hd (cs := #[.int .i64 0, .string (⟨#[]⟩ : ByteArray), .string (⟨#[]⟩ : ByteArray), .int .i64 0, .int .i64 0, .int .i64 0, .int .i64 0, .string (⟨#[]⟩ : ByteArray), .slice none 0 0]) (t := 27) ?hr ?_; (case hd => rfl); (case hg => rfl); (case hr => first | (go_simp; done) | (go_simp; rfl)); intro g5 hg_ w3 hb_ hl_; have H3 := Lib.hid (H2.out.box hb_ hl_ (Nat.le_of_eq hg_.symm)); clear hb_ hl_ hg_ H2; simp only [Act.put, sa_, sz_, ss_]; obtain ⟨lc47_0, lc47_1, lc47_2, lf47_0, lf47_1, lf47_2⟩ := bw3_ (H3.out.get 2 rfl))
    | ((with_reducible refine gate_callee (f := 180) rfl ?_); refine goesL_ (some 12) rfl rfl Try.func180 (by kernel_rfl) rfl #[atV A l.length c i0 e0, .int .i64 d] rfl (by (try simp only [List.map_toArray, List.map_cons, List.map_nil]); first | done | rfl) ?_; refine (HP.out k (Nat.le_refl k) _ _ _ _ _ _ _ _ (H3.out.C HC.out) h0 h1 hl d0 d50 HR0.out).mono ?_; rintro r' w4 ⟨vA, vc, rfl, t4, b4, i4, j4⟩; refine ⟨_, rfl, ?_⟩; simp only [Act.put, sa_, sz_, ss_]; simp only [atV, exV]; have H4 := Lib.hid (H3.out.call b4 t4); have I4 := Lib.hid (And.intro i4 j4); clear t4 b4 i4 j4 H3)
    | (((with_reducible refine gate_dst (N := 6) rfl ?_); refine box_event ?hg (N := 6) ?hd (cs := #[.int .i64 0, .string (⟨#[]⟩ : ByteArray), .string (⟨#[]⟩ : ByteArray), .int .i64 0, .int .i64 0, .int .i64 0, .int .i64 0, .string (⟨#[]⟩ : ByteArray), .slice none 0 0]) (t := 27) ?hr ?_; (case hd => rfl); (case hg => rfl); (case hr => first | (go_simp; done) | (go_simp; rfl)); intro g6 hg_ w5 hb_ hl_; have H5 := Lib.hid (H4.out.box hb_ hl_ (Nat.le_of_eq hg_.symm)); clear hb_ hl_ hg_ H4; simp only [Act.put, sa_, sz_, ss_]; obtain ⟨lc48_0, lc48_1, lc48_2, lc48_3, lc48_4, lc48_5, lc48_6, lc48_7, lc48_8, lf48_0, lf48_1, lf48_2, lf48_3, lf48_4, lf48_5, lf48_6, lf48_7, lf48_8⟩ := bw9_ (H5.out.get 0 rfl); obtain ⟨lc49_0, lc49_1, lc49_2, lf49_0, lf49_1, lf49_2⟩ := bw3_ (H5.out.get 3 rfl)); have nn29 := H5.out.ne 0 3 rfl rfl (by decide); have nm29 := nn29.symm))
  go_loopg [] k (fun kq w' => ∃ (i e : Int) (x : S27) (vA : Option Addr) (vc : Nat), Aside0 (rr l kq (.ch .atom [wStar] x) i d e = some r) ∧ Aside0 (kq ≤ k) ∧ Aside0 (RS w w' [(g6, cl27 x vA vc, 27), (g5, #[.int .i64 0, .string ⟨#[]⟩, .string ⟨#[]⟩, .int .i64 0, .int .i64 0, .int .i64 0, .int .i64 0, .string ⟨#[]⟩, .slice none 0 0], 27), (g4, #[.slice none 0 0, .int .i64 0, .int .i64 0], 95), (g2, at3 A l.length c i e, 95)] [(x, vA, vc)]) ∧ Aside0 (0 ≤ i ∧ i ≤ l.length))
  case atStart => exact ⟨r0.i, r0.e, r0.x, vA, vc, ⟨HR.out⟩, ⟨Nat.le_refl _⟩, ⟨((H5.out.put 3 rfl (put3_ (H5.out.get 3 rfl)) chg3_).put 0 rfl (put9_ ((H5.out.put 3 rfl (put3_ (H5.out.get 3 rfl)) chg3_).get 0 rfl)) chg9_)⟩, ⟨I4.out⟩⟩
  case round =>
    clear H5 I4 HR0 HR h0 h1
    obtain ⟨i, e, x, vA, vc, HA, HK, H6, HI⟩ := hrel
    cases gk with
    | zero => exact absurd HA.out (by simp [rr])
    | succ k1 =>
      have HH := HA.out; clear HA
      simp only [rr] at HH
      obtain ⟨lc9_0, lc9_1, lc9_2, lf9_0, lf9_1, lf9_2⟩ := bw3_ (H6.out.get 3 rfl)
      cases hs : isP l i e wStar with
      | false =>
        rw [find1 (f := fun s => isP l i e s) hs, if_neg (by decide)] at HH
        obtain rfl := Option.some.inj HH
        have HS := Lib.hid hs; clear HH hs HK
        go_wp2_with (first
          | ((with_reducible refine gate_callee (f := 91) rfl ?_); refine goesL_ (some 16) rfl rfl Try.func91 (by kernel_rfl) rfl #[atV A l.length c i e, .string wStar] rfl (by (try simp only [List.map_toArray, List.map_cons, List.map_nil]); first | done | rfl) ?_; refine (r_is (H6.out.C HC.out) HI.out.1 _ HS.out).mono ?_; rintro r' w7 ⟨rfl, b7⟩; refine ⟨_, rfl, ?_⟩; simp only [Act.put, sa_, sz_, ss_]; have H7 := Lib.hid (H6.out.below b7); clear b7 H6))
        refine startX_ (n := 4) (S := fun w' => w'.heap[g2]? = some (.cells (at3 A l.length c i e) 95 (0, 0)) ∧ w'.heap[g6]? = some (.cells (cl27 x vA vc) 27 (0, 0))) (ds := []) #[false, false, false, false] (by kernel_rfl) rfl rfl (H7.out) (fun w' h => ⟨h.get 3 rfl, h.get 0 rfl⟩) (fun w20 h_ hHeld => ?_)
        have H20 := Lib.hid h_; clear h_ H7
        refine take_ (i := 0) (N := some 28) (v := ?_) (a' := ?_) #[true, false, false, false] rfl rfl (by kernel_rfl) (fun _ _ _ h => h) (Or.inl ⟨by rfl, ?_⟩) hHeld ?_ ?_; rotate_left
        · intro w' hS; obtain ⟨s0, s1, s2, f0, f1, f2⟩ := bw3_ hS.1; go_simp; (with_reducible rfl)
        rotate_left
        · simp only [Act.put, sa_, sz_, ss_, i64_w, i32_w]
          rfl
        refine take_ (i := 1) (N := some 29) (v := ?_) (a' := ?_) #[true, true, false, false] rfl rfl (by kernel_rfl) (fun _ _ _ h => h) (Or.inl ⟨by rfl, ?_⟩) hHeld ?_ ?_; rotate_left
        · intro w' hS; obtain ⟨s0, s1, s2, s3, s4, s5, s6, s7, s8, f0, f1, f2, f3, f4, f5, f6, f7, f8⟩ := bw9_ hS.2; go_simp; (with_reducible rfl)
        rotate_left
        · simp only [Act.put, sa_, sz_, ss_, i64_w, i32_w]
          rfl
        have nn30 := H20.out.ne 2 3 rfl rfl (by decide); have nm30 := nn30.symm; have nn31 := H20.out.ne 2 0 rfl rfl (by decide); have nm31 := nn31.symm; have nn32 := H20.out.ne 1 3 rfl rfl (by decide); have nm32 := nn32.symm; have nn33 := H20.out.ne 1 0 rfl rfl (by decide); have nm33 := nn33.symm; have nn34 := H20.out.ne 2 1 rfl rfl (by decide); have nm34 := nn34.symm; obtain ⟨s0, s1, s2, f0, f1, f2⟩ := bw3_ (H20.out.get 2 rfl)
        refine one_ (i := 2) (N := none) #[true, true, true, false] rfl rfl (by kernel_rfl) (by decide) (fun K hK => ?_); refine skip_ (w1 := ?_) (by rfl) rfl ?_ ?_; rotate_left
        · go_simp
          rfl
        refine hK.out _ _ (⟨chg3_.blk hHeld.1 (H20.out.ne 3 2 rfl rfl (by decide)), chg3_.blk hHeld.2 (H20.out.ne 0 2 rfl rfl (by decide))⟩) (fun hHeld2 => ?_); clear hK K
        clear s0 s1 s2 f0 f1 f2; obtain ⟨s0, s1, s2, s3, s4, s5, s6, s7, s8, f0, f1, f2, f3, f4, f5, f6, f7, f8⟩ := bw9_ (H20.out.get 1 rfl)
        refine one_ (i := 3) (N := none) #[true, true, true, true] rfl rfl (by kernel_rfl) (by decide) (fun K hK => ?_); refine skip_ (w1 := ?_) (by rfl) rfl ?_ ?_; rotate_left
        · go_simp
          rfl
        refine hK.out _ _ (⟨chg9_.blk hHeld2.1 (H20.out.ne 3 1 rfl rfl (by decide)), chg9_.blk hHeld2.2 (H20.out.ne 0 1 rfl rfl (by decide))⟩) (fun hHeld3 => ?_); clear hK K
        refine done_ (by kernel_rfl) ?_
        clear s0 s1 s2 s3 s4 s5 s6 s7 s8 f0 f1 f2 f3 f4 f5 f6 f7 f8 hHeld hHeld2 hHeld3
        try go_wp2
        have H21 := H20.out.put 2 rfl (put3_ (v0 := .slice A l.length c) (v1 := .int .i64 i) (v2 := .int .i64 e) (H20.out.get 2 rfl)) chg3_
        have H22 := H21.put 1 rfl (put9_ (v0 := .int .i64 x.f0) (v1 := .string x.f1) (v2 := .string x.f2) (v3 := .int .i64 x.f3) (v4 := .int .i64 x.f4) (v5 := .int .i64 x.f5.f0) (v6 := .int .i64 x.f5.f1) (v7 := .string x.f5.f2) (v8 := .slice vA x.f6.length vc) (H21.get 1 rfl)) chg9_
        exact bodyPost_ret (results_cc rfl _ _ _ _ 95 27 _ _ (0, 0) (0, 0) _ _ rfl (H22.get 2 rfl) Try.underlying95 rfl (by kernel_rfl) rfl (H22.get 1 rfl) Try.underlying27 rfl (by kernel_rfl)) rfl (H22.done (r := ⟨i, d, e, x⟩) (H22.out 0 rfl) HI.out.1 HI.out.2)
      | true =>
        rw [find1 (f := fun s => isP l i e s) hs, if_pos rfl] at HH
        obtain ⟨r1, hq1, hq2⟩ := Option.bind_eq_some_iff.1 HH
        rw [op_star] at hq2
        have Q1 := Lib.hid hq1; have Q2 := Lib.hid hq2; have HS := Lib.hid hs; have HL := Lib.hid (isP_lt hs); clear hq1 hq2 HH hs
        have hi2 : i ≤ 1000000 := by have := HI.out.2; omega
        go_wp2_with (first
          | ((with_reducible refine gate_callee (f := 91) rfl ?_); refine goesL_ (some 16) rfl rfl Try.func91 (by kernel_rfl) rfl #[atV A l.length c i e, .string wStar] rfl (by (try simp only [List.map_toArray, List.map_cons, List.map_nil]); first | done | rfl) ?_; refine (r_is (H6.out.C HC.out) HI.out.1 _ HS.out).mono ?_; rintro r' w7 ⟨rfl, b7⟩; refine ⟨_, rfl, ?_⟩; simp only [Act.put, sa_, sz_, ss_]; have H7 := Lib.hid (H6.out.below b7); clear b7 H6; obtain ⟨lc10_0, lc10_1, lc10_2, lf10_0, lf10_1, lf10_2⟩ := bw3_ (H7.out.get 3 rfl))
          | ((with_reducible refine gate_callee (f := 92) rfl ?_); refine goesL_ (some 19) rfl rfl Try.func92 (by kernel_rfl) rfl #[atV A l.length c i e] rfl (by (try simp only [List.map_toArray, List.map_cons, List.map_nil]); first | done | rfl) ?_; refine (r_step A l.length c i e w7 HI.out.1 hi2).mono ?_; rintro r' w8 ⟨rfl, b8⟩; refine ⟨_, rfl, ?_⟩; simp only [Act.put, sa_, sz_, ss_]; simp only [atV]; have H8 := Lib.hid (H7.out.below b8); clear b8 H7)
          | ((with_reducible refine gate_callee (f := 180) rfl ?_); refine goesL_ (some 21) rfl rfl Try.func180 (by kernel_rfl) rfl #[atV A l.length c (i + 1) e, .int .i64 d] rfl (by (try simp only [List.map_toArray, List.map_cons, List.map_nil]); first | done | rfl) ?_; refine (HP.out k1 (by have := HK.out; omega) _ _ _ _ _ _ _ _ (H8.out.C HC.out) (by have := HI.out.1; omega) HL.out hl d0 d50 Q1.out).mono ?_; rintro r' w9 ⟨yA, yc, rfl, t9, b9, i9, j9⟩; refine ⟨_, rfl, ?_⟩; simp only [Act.put, sa_, sz_, ss_]; simp only [atV, exV]; have H9 := Lib.hid (H8.out.call b9 t9); have I9 := Lib.hid (And.intro i9 j9); clear t9 b9 i9 j9 H8)
          | ((with_reducible refine gate_dst (N := 7) rfl ?_); refine box_event ?hg (N := 7) ?hd (cs := #[.slice none 0 0, .int .i64 0, .int .i64 0]) (t := 95) ?hr ?_; (case hd => rfl); (case hg => rfl); (case hr => first | (go_simp; done) | (go_simp; rfl)); intro g7 hg_ w10 hb_ hl_; have H10 := Lib.hid (H9.out.box hb_ hl_ (Nat.le_of_eq hg_.symm)); clear hb_ hl_ hg_ H9; simp only [Act.put, sa_, sz_, ss_])
          | (((with_reducible refine gate_dst (N := 8) rfl ?_); refine box_event ?hg (N := 8) ?hd (cs := #[.int .i64 0, .string (⟨#[]⟩ : ByteArray), .string (⟨#[]⟩ : ByteArray), .int .i64 0, .int .i64 0, .int .i64 0, .int .i64 0, .string (⟨#[]⟩ : ByteArray), .slice none 0 0]) (t := 27) ?hr ?_; (case hd => rfl); (case hg => rfl); (case hr => first | (go_simp; done) | (go_simp; rfl)); intro g8 hg_ w11 hb_ hl_; have H11 := Lib.hid (H10.out.box hb_ hl_ (Nat.le_of_eq hg_.symm)); clear hb_ hl_ hg_ H10; simp only [Act.put, sa_, sz_, ss_]; obtain ⟨lc50_0, lc50_1, lc50_2, lc50_3, lc50_4, lc50_5, lc50_6, lc50_7, lc50_8, lf50_0, lf50_1, lf50_2, lf50_3, lf50_4, lf50_5, lf50_6, lf50_7, lf50_8⟩ := bw9_ (H11.out.get 0 rfl); obtain ⟨lc51_0, lc51_1, lc51_2, lf51_0, lf51_1, lf51_2⟩ := bw3_ (H11.out.get 1 rfl)); have nn35 := H11.out.ne 0 1 rfl rfl (by decide); have nm35 := nn35.symm))
        refine startX_ (n := 6) (S := fun w' => w'.heap[g7]? = some (.cells (at3 A l.length c r1.i r1.e) 95 (0, 0)) ∧ w'.heap[g6]? = some (.cells (cl27 x vA vc) 27 (0, 0)) ∧ w'.heap[g8]? = some (.cells (cl27 r1.x yA yc) 27 (0, 0))) (ds := [5]) #[false, false, false, false, false, false] (by kernel_rfl) rfl rfl (((H11.out.put 1 rfl (put3_ (H11.out.get 1 rfl)) chg3_).put 0 rfl (put9_ ((H11.out.put 1 rfl (put3_ (H11.out.get 1 rfl)) chg3_).get 0 rfl)) chg9_)) (fun w' h => ⟨h.get 1 rfl, h.get 2 rfl, h.get 0 rfl⟩) (fun w12 h_ hHeld => ?_)
        have H12 := Lib.hid h_; clear h_ H11
        refine take_ (i := 0) (N := some 24) (v := ?_) (a' := ?_) #[true, false, false, false, false, false] rfl rfl (by kernel_rfl) (fun _ _ _ h => h) (Or.inl ⟨by rfl, ?_⟩) hHeld ?_ ?_; rotate_left
        · intro w' hS; obtain ⟨s0, s1, s2, f0, f1, f2⟩ := bw3_ hS.1; go_simp; (with_reducible rfl)
        rotate_left
        · simp only [Act.put, sa_, sz_, ss_, i64_w, i32_w]
          rfl
        refine take_ (i := 1) (N := some 25) (v := ?_) (a' := ?_) #[true, true, false, false, false, false] rfl rfl (by kernel_rfl) (fun _ _ _ h => h) (Or.inl ⟨by rfl, ?_⟩) hHeld ?_ ?_; rotate_left
        · intro w' hS; obtain ⟨s0, s1, s2, s3, s4, s5, s6, s7, s8, f0, f1, f2, f3, f4, f5, f6, f7, f8⟩ := bw9_ hS.2.1; go_simp; (with_reducible rfl)
        rotate_left
        · simp only [Act.put, sa_, sz_, ss_, i64_w, i32_w]
          rfl
        refine take_ (i := 2) (N := some 26) (v := ?_) (a' := ?_) #[true, true, true, false, false, false] rfl rfl (by kernel_rfl) (fun _ _ _ h => h) (Or.inl ⟨by rfl, ?_⟩) hHeld ?_ ?_; rotate_left
        · intro w' hS; obtain ⟨s0, s1, s2, s3, s4, s5, s6, s7, s8, f0, f1, f2, f3, f4, f5, f6, f7, f8⟩ := bw9_ hS.2.2; go_simp; (with_reducible rfl)
        rotate_left
        · simp only [Act.put, sa_, sz_, ss_, i64_w, i32_w]
          rfl
        refine one_ (i := 3) (N := some 27) #[true, true, true, true, false, false] rfl rfl (by kernel_rfl) (by decide) (fun K hK => ?_); refine goes_ Try.func93 (by kernel_rfl) rfl #[.int .i64 9, exV x vA vc, exV r1.x yA yc] (by rfl) rfl rfl (by (try simp only [List.map_toArray, List.map_cons, List.map_nil]); first | done | rfl) ?_; refine (r_two 9 x r1.x (H12.out.tre 1 rfl) (H12.out.tre 0 rfl)).mono ?_; rintro e' w13 ⟨zA, zc, rfl, t13, b13⟩; refine ⟨_, rfl, ?_⟩; have H13 := Lib.hid (H12.out.callO b13 t13); refine hK.out _ _ (⟨blk_below hHeld.1 b13, blk_below hHeld.2.1 b13, blk_below hHeld.2.2 b13⟩) (fun hHeld => ?_); clear hK K; refine norm_ (a' := ?_) ?_ ?_; rotate_left
        · show Act.put _ (some 27) _ = _
          simp only [Act.put, sa_, sz_, ss_, i64_w, i32_w, exV, ofP]; rfl
        clear b13 t13 H12; obtain ⟨lc11_0, lc11_1, lc11_2, lf11_0, lf11_1, lf11_2⟩ := bw3_ (H13.out.get 5 rfl); have nn36 := H13.out.ne 2 5 rfl rfl (by decide); have nm36 := nn36.symm
        refine one_ (i := 4) (N := none) #[true, true, true, true, true, false] rfl rfl (by kernel_rfl) (by decide) (fun K hK => ?_); refine skip_ (w1 := ?_) (by rfl) rfl ?_ ?_; rotate_left
        · go_simp
          rfl
        refine hK.out _ _ (⟨chg3_.blk hHeld.1 (H13.out.ne 1 5 rfl rfl (by decide)), chg3_.blk hHeld.2.1 (H13.out.ne 2 5 rfl rfl (by decide)), chg3_.blk hHeld.2.2 (H13.out.ne 0 5 rfl rfl (by decide))⟩) (fun hHeld2 => ?_); clear hK K
        obtain ⟨lc12_0, lc12_1, lc12_2, lc12_3, lc12_4, lc12_5, lc12_6, lc12_7, lc12_8, lf12_0, lf12_1, lf12_2, lf12_3, lf12_4, lf12_5, lf12_6, lf12_7, lf12_8⟩ := bw9_ (H13.out.get 2 rfl)
        refine last_ (i := 5) (N := none) #[true, true, true, true, true, true] rfl rfl (by kernel_rfl) (by decide) (fun K hK => ?_); refine skip_ (w1 := ?_) (by rfl) rfl ?_ ?_; rotate_left
        · go_simp
          rfl
        refine hK.out _ _ ?_; clear hK K; refine done_ (by kernel_rfl) ?_
        clear hHeld hHeld2
        try go_wp2
        have H15 := (H13.out.put 5 rfl (put3_ (v0 := .slice A l.length c) (v1 := .int .i64 r1.i) (v2 := .int .i64 r1.e) (H13.out.get 5 rfl)) chg3_).put 2 rfl (put9_ (v0 := .int .i64 9) (v1 := .string ⟨#[]⟩) (v2 := .string ⟨#[]⟩) (v3 := .int .i64 0) (v4 := .int .i64 0) (v5 := .int .i64 0) (v6 := .int .i64 0) (v7 := .string ⟨#[]⟩) (v8 := .slice zA 2 zc) ((H13.out.put 5 rfl (put3_ (v0 := .slice A l.length c) (v1 := .int .i64 r1.i) (v2 := .int .i64 r1.e) (H13.out.get 5 rfl)) chg3_).get 2 rfl)) chg9_
        go_roundg k1
        case measure => omega
        case rel => exact ⟨r1.i, r1.e, ofP 9 [x, r1.x], zA, zc, ⟨Q2.out⟩, ⟨by have := HK.out; omega⟩, ⟨H15.tail.tail.sub (by simp)⟩, ⟨I9.out⟩⟩
end Go.Proofs.Ytcfgjaggccnoaaa.PParseSmall
namespace Go.Proofs.Ytcfgjaggccnoaaa.PParseSmall
open Go.RowKit Go.Proofs.YtcfgjaggccnoaaaW.PrintWords Go.Proofs.YtcfgjaggccnoaaaW.PrintLast Go.Proofs.YtcfgjaggccnoaaaW.PrintMore
attribute [local go_sem] max2_int min2_int max_two min_two max_three min_three max_four min_four
set_option linter.unusedVariables false
set_option linter.unusedSimpArgs false
set_option maxRecDepth 100000
set_option maxHeartbeats 4000000
theorem op_plus : opP wPlus = 7 := by decide +kernel
theorem op_minus : opP wMinus = 8 := by decide +kernel
theorem one_sign {l : List S91} {i e : Int} {s s' : ByteArray} (h : isP l i e s = true) (hn : (s.toList == s'.toList) = false) : isP l i e s' = false := by
  cases c : isP l i e s' with
  | false => rfl
  | true =>
    unfold isP isT at h c
    simp only [Bool.and_eq_true, beq_iff_eq] at h c
    rw [← h.2.2, ← c.2.2] at hn
    simp at hn
theorem find2 {s s' : ByteArray} {f : ByteArray → Bool} {b b' : Bool} (h : f s = b) (h' : f s' = b') : [s, s'].find? f = if b = true then some s else if b' = true then some s' else none := by
  simp only [List.find?_cons, List.find?_nil, h, h']
  cases b <;> cases b' <;> rfl
theorem r_sum (k : Nat) (hp : ∀ j, j ≤ k → RGOK j .prod) : RGOK (k + 1) .sum := by
  intro w A c l i0 d e0 r hC h0 h1 hl d0 d50 hr
  simp only [rr] at hr
  obtain ⟨r0, hr0, hr⟩ := Option.bind_eq_some_iff.1 hr
  change Calls Try.prog 161 _ _ _
  have HC := Lib.hid hC; have HP := Lib.hid hp; have HR := Lib.hid hr; have HR0 := Lib.hid hr0
  clear hC hp hr hr0
  have H0 := Lib.hid (RS.start w)
  go_enter Try.func161, Try.ntmps161
  go_wp2_with (first
    | ((with_reducible refine gate_dst (N := 2) rfl ?_); refine box_event ?hg (N := 2) ?hd (cs := #[.slice A l.length c, .int .i64 i0, .int .i64 e0]) (t := 95) ?hr ?_; (case hd => rfl); (case hg => rfl); (case hr => first | (go_simp; done) | (go_simp; rfl)); intro g2 hg_ w1 hb_ hl_; have H1 := Lib.hid (H0.out.box hb_ hl_ (Nat.le_of_eq hg_.symm)); clear hb_ hl_ hg_ H0; simp only [Act.put, sa_, sz_, ss_])
    | ((with_reducible refine gate_dst (N := 4) rfl ?_); refine box_event ?hg (N := 4) ?hd (cs := #[.slice none 0 0, .int .i64 0, .int .i64 0]) (t := 95) ?hr ?_; (case hd => rfl); (case hg => rfl); (case hr => first | (go_simp; done) | (go_simp; rfl)); intro g4 hg_ w2 hb_ hl_; have H2 := Lib.hid (H1.out.box hb_ hl_ (Nat.le_of_eq hg_.symm)); clear hb_ hl_ hg_ H1; simp only [Act.put, sa_, sz_, ss_])
    | ((with_reducible refine gate_dst (N := 5) rfl ?_); refine box_event ?hg (N := 5) ?hd (cs := #[.int .i64 0, .string (⟨#[]⟩ : ByteArray), .string (⟨#[]⟩ : ByteArray), .int .i64 0, .int .i64 0, .int .i64 0, .int .i64 0, .string (⟨#[]⟩ : ByteArray), .slice none 0 0]) (t := 27) ?hr ?_; (case hd => rfl); (case hg => rfl); (case hr => first | (go_simp; done) | (go_simp; rfl)); intro g5 hg_ w3 hb_ hl_; have H3 := Lib.hid (H2.out.box hb_ hl_ (Nat.le_of_eq hg_.symm)); clear hb_ hl_ hg_ H2; simp only [Act.put, sa_, sz_, ss_]; obtain ⟨lc22_0, lc22_1, lc22_2, lf22_0, lf22_1, lf22_2⟩ := bw3_ (H3.out.get 2 rfl))
    | ((with_reducible refine gate_callee (f := 168) rfl ?_); refine goesL_ (some 13) rfl rfl Try.func168 (by kernel_rfl) rfl #[atV A l.length c i0 e0, .int .i64 d] rfl (by (try simp only [List.map_toArray, List.map_cons, List.map_nil]); first | done | rfl) ?_; refine (HP.out k (Nat.le_refl k) _ _ _ _ _ _ _ _ (H3.out.C HC.out) h0 h1 hl d0 d50 HR0.out).mono ?_; rintro r' w4 ⟨vA, vc, rfl, t4, b4, i4, j4⟩; refine ⟨_, rfl, ?_⟩; simp only [Act.put, sa_, sz_, ss_]; simp only [atV, exV]; have H4 := Lib.hid (H3.out.call b4 t4); have I4 := Lib.hid (And.intro i4 j4); clear t4 b4 i4 j4 H3)
    | (((with_reducible refine gate_dst (N := 6) rfl ?_); refine box_event ?hg (N := 6) ?hd (cs := #[.int .i64 0, .string (⟨#[]⟩ : ByteArray), .string (⟨#[]⟩ : ByteArray), .int .i64 0, .int .i64 0, .int .i64 0, .int .i64 0, .string (⟨#[]⟩ : ByteArray), .slice none 0 0]) (t := 27) ?hr ?_; (case hd => rfl); (case hg => rfl); (case hr => first | (go_simp; done) | (go_simp; rfl)); intro g6 hg_ w5 hb_ hl_; have H5 := Lib.hid (H4.out.box hb_ hl_ (Nat.le_of_eq hg_.symm)); clear hb_ hl_ hg_ H4; simp only [Act.put, sa_, sz_, ss_]; obtain ⟨lc23_0, lc23_1, lc23_2, lc23_3, lc23_4, lc23_5, lc23_6, lc23_7, lc23_8, lf23_0, lf23_1, lf23_2, lf23_3, lf23_4, lf23_5, lf23_6, lf23_7, lf23_8⟩ := bw9_ (H5.out.get 0 rfl); obtain ⟨lc24_0, lc24_1, lc24_2, lf24_0, lf24_1, lf24_2⟩ := bw3_ (H5.out.get 3 rfl)); have nn12 := H5.out.ne 0 3 rfl rfl (by decide); have nm12 := nn12.symm))
  go_loopg [] k (fun kq w' => ∃ (i e : Int) (x : S27) (vA : Option Addr) (vc : Nat), Aside0 (rr l kq (.ch .prod [wPlus, wMinus] x) i d e = some r) ∧ Aside0 (kq ≤ k) ∧ Aside0 (RS w w' [(g6, cl27 x vA vc, 27), (g5, #[.int .i64 0, .string ⟨#[]⟩, .string ⟨#[]⟩, .int .i64 0, .int .i64 0, .int .i64 0, .int .i64 0, .string ⟨#[]⟩, .slice none 0 0], 27), (g4, #[.slice none 0 0, .int .i64 0, .int .i64 0], 95), (g2, at3 A l.length c i e, 95)] [(x, vA, vc)]) ∧ Aside0 (0 ≤ i ∧ i ≤ l.length))
  case atStart => exact ⟨r0.i, r0.e, r0.x, vA, vc, ⟨HR.out⟩, ⟨Nat.le_refl _⟩, ⟨((H5.out.put 3 rfl (put3_ (H5.out.get 3 rfl)) chg3_).put 0 rfl (put9_ ((H5.out.put 3 rfl (put3_ (H5.out.get 3 rfl)) chg3_).get 0 rfl)) chg9_)⟩, ⟨I4.out⟩⟩
  case round =>
    clear H5 I4 HR0 HR h0 h1
    obtain ⟨i, e, x, vA, vc, HA, HK, H6, HI⟩ := hrel
    cases gk with
    | zero => exact absurd HA.out (by simp [rr])
    | succ k1 =>
      have HH := HA.out; clear HA
      simp only [rr] at HH
      obtain ⟨lc1_0, lc1_1, lc1_2, lf1_0, lf1_1, lf1_2⟩ := bw3_ (H6.out.get 3 rfl)
      have hi1 : isP l i e wPlus = true → i + 1 ≤ l.length := isP_lt
      have hi2 : isP l i e wMinus = true → i + 1 ≤ l.length := isP_lt
      cases hs : isP l i e wPlus with
      | false =>
        cases ht : isP l i e wMinus with
        | false =>
          rw [find2 (f := fun s => isP l i e s) hs ht, if_neg (by decide), if_neg (by decide)] at HH
          obtain rfl := Option.some.inj HH
          have HS := Lib.hid hs; have HT := Lib.hid ht; clear HH hs ht HK hi1 hi2
          go_wp2_with (first
            | (((with_reducible refine gate_callee (f := 91) rfl ?_); refine goesL_ (some 17) rfl rfl Try.func91 (by kernel_rfl) rfl #[atV A l.length c i e, .string wPlus] rfl (by (try simp only [List.map_toArray, List.map_cons, List.map_nil]); first | done | rfl) ?_; refine (r_is (H6.out.C HC.out) HI.out.1 _ HS.out).mono ?_; rintro r' w7 ⟨rfl, b7⟩; refine ⟨_, rfl, ?_⟩; simp only [Act.put, sa_, sz_, ss_]; have H7 := Lib.hid (H6.out.below b7); clear b7 H6; obtain ⟨lc2_0, lc2_1, lc2_2, lf2_0, lf2_1, lf2_2⟩ := bw3_ (H7.out.get 3 rfl)))
            | ((with_reducible refine gate_callee (f := 91) rfl ?_); (refine gate_guard (by rfl) ?_; dsimp only); refine goesL_ (some 20) rfl rfl Try.func91 (by kernel_rfl) rfl #[atV A l.length c i e, .string wMinus] rfl (by (try simp only [List.map_toArray, List.map_cons, List.map_nil]); first | done | rfl) ?_; refine (r_is (H7.out.C HC.out) HI.out.1 _ HT.out).mono ?_; rintro r' w8 ⟨rfl, b8⟩; refine ⟨_, rfl, ?_⟩; simp only [Act.put, sa_, sz_, ss_]; have H8 := Lib.hid (H7.out.below b8); clear b8 H7))
          refine startX_ (n := 4) (S := fun w' => w'.heap[g2]? = some (.cells (at3 A l.length c i e) 95 (0, 0)) ∧ w'.heap[g6]? = some (.cells (cl27 x vA vc) 27 (0, 0))) (ds := []) #[false, false, false, false] (by kernel_rfl) rfl rfl (H8.out) (fun w' h => ⟨h.get 3 rfl, h.get 0 rfl⟩) (fun w20 h_ hHeld => ?_)
          have H20 := Lib.hid h_; clear h_ H8
          refine take_ (i := 0) (N := some 36) (v := ?_) (a' := ?_) #[true, false, false, false] rfl rfl (by kernel_rfl) (fun _ _ _ h => h) (Or.inl ⟨by rfl, ?_⟩) hHeld ?_ ?_; rotate_left
          · intro w' hS; obtain ⟨s0, s1, s2, f0, f1, f2⟩ := bw3_ hS.1; go_simp; (with_reducible rfl)
          rotate_left
          · simp only [Act.put, sa_, sz_, ss_, i64_w, i32_w]
            rfl
          refine take_ (i := 1) (N := some 37) (v := ?_) (a' := ?_) #[true, true, false, false] rfl rfl (by kernel_rfl) (fun _ _ _ h => h) (Or.inl ⟨by rfl, ?_⟩) hHeld ?_ ?_; rotate_left
          · intro w' hS; obtain ⟨s0, s1, s2, s3, s4, s5, s6, s7, s8, f0, f1, f2, f3, f4, f5, f6, f7, f8⟩ := bw9_ hS.2; go_simp; (with_reducible rfl)
          rotate_left
          · simp only [Act.put, sa_, sz_, ss_, i64_w, i32_w]
            rfl
          have nn13 := H20.out.ne 2 3 rfl rfl (by decide); have nm13 := nn13.symm; have nn14 := H20.out.ne 2 0 rfl rfl (by decide); have nm14 := nn14.symm; have nn15 := H20.out.ne 1 3 rfl rfl (by decide); have nm15 := nn15.symm; have nn16 := H20.out.ne 1 0 rfl rfl (by decide); have nm16 := nn16.symm; have nn17 := H20.out.ne 2 1 rfl rfl (by decide); have nm17 := nn17.symm; obtain ⟨s0, s1, s2, f0, f1, f2⟩ := bw3_ (H20.out.get 2 rfl)
          refine one_ (i := 2) (N := none) #[true, true, true, false] rfl rfl (by kernel_rfl) (by decide) (fun K hK => ?_); refine skip_ (w1 := ?_) (by rfl) rfl ?_ ?_; rotate_left
          · go_simp
            rfl
          refine hK.out _ _ (⟨chg3_.blk hHeld.1 (H20.out.ne 3 2 rfl rfl (by decide)), chg3_.blk hHeld.2 (H20.out.ne 0 2 rfl rfl (by decide))⟩) (fun hHeld2 => ?_); clear hK K
          clear s0 s1 s2 f0 f1 f2; obtain ⟨s0, s1, s2, s3, s4, s5, s6, s7, s8, f0, f1, f2, f3, f4, f5, f6, f7, f8⟩ := bw9_ (H20.out.get 1 rfl)
          refine one_ (i := 3) (N := none) #[true, true, true, true] rfl rfl (by kernel_rfl) (by decide) (fun K hK => ?_); refine skip_ (w1 := ?_) (by rfl) rfl ?_ ?_; rotate_left
          · go_simp
            rfl
          refine hK.out _ _ (⟨chg9_.blk hHeld2.1 (H20.out.ne 3 1 rfl rfl (by decide)), chg9_.blk hHeld2.2 (H20.out.ne 0 1 rfl rfl (by decide))⟩) (fun hHeld3 => ?_); clear hK K
          refine done_ (by kernel_rfl) ?_
          clear s0 s1 s2 s3 s4 s5 s6 s7 s8 f0 f1 f2 f3 f4 f5 f6 f7 f8 hHeld hHeld2 hHeld3
          try go_wp2
          have H21 := H20.out.put 2 rfl (put3_ (v0 := .slice A l.length c) (v1 := .int .i64 i) (v2 := .int .i64 e) (H20.out.get 2 rfl)) chg3_
          have H22 := H21.put 1 rfl (put9_ (v0 := .int .i64 x.f0) (v1 := .string x.f1) (v2 := .string x.f2) (v3 := .int .i64 x.f3) (v4 := .int .i64 x.f4) (v5 := .int .i64 x.f5.f0) (v6 := .int .i64 x.f5.f1) (v7 := .string x.f5.f2) (v8 := .slice vA x.f6.length vc) (H21.get 1 rfl)) chg9_
          exact bodyPost_ret (results_cc rfl _ _ _ _ 95 27 _ _ (0, 0) (0, 0) _ _ rfl (H22.get 2 rfl) Try.underlying95 rfl (by kernel_rfl) rfl (H22.get 1 rfl) Try.underlying27 rfl (by kernel_rfl)) rfl (H22.done (r := ⟨i, d, e, x⟩) (H22.out 0 rfl) HI.out.1 HI.out.2)
        | true =>
          rw [find2 (f := fun s => isP l i e s) hs ht, if_neg (by decide), if_pos rfl] at HH
          obtain ⟨r1, hq1, hq2⟩ := Option.bind_eq_some_iff.1 HH
          rw [op_minus] at hq2
          have Q1 := Lib.hid hq1; have Q2 := Lib.hid hq2; have HS := Lib.hid hs; have HT := Lib.hid ht; have HL := Lib.hid (hi2 ht); clear hq1 hq2 HH hs ht hi1 hi2
          have hi2 : i ≤ 1000000 := by have := HI.out.2; omega
          go_wp2_with (first
            | ((with_reducible refine gate_callee (f := 91) rfl ?_); refine goesL_ (some 17) rfl rfl Try.func91 (by kernel_rfl) rfl #[atV A l.length c i e, .string wPlus] rfl (by (try simp only [List.map_toArray, List.map_cons, List.map_nil]); first | done | rfl) ?_; refine (r_is (H6.out.C HC.out) HI.out.1 _ HS.out).mono ?_; rintro r' w7 ⟨rfl, b7⟩; refine ⟨_, rfl, ?_⟩; simp only [Act.put, sa_, sz_, ss_]; have H7 := Lib.hid (H6.out.below b7); clear b7 H6; obtain ⟨lc3_0, lc3_1, lc3_2, lf3_0, lf3_1, lf3_2⟩ := bw3_ (H7.out.get 3 rfl))
            | ((with_reducible refine gate_callee (f := 91) rfl ?_); (refine gate_guard (by rfl) ?_; dsimp only); refine goesL_ (some 20) rfl rfl Try.func91 (by kernel_rfl) rfl #[atV A l.length c i e, .string wMinus] rfl (by (try simp only [List.map_toArray, List.map_cons, List.map_nil]); first | done | rfl) ?_; refine (r_is (H7.out.C HC.out) HI.out.1 _ HT.out).mono ?_; rintro r' w17 ⟨rfl, b7⟩; refine ⟨_, rfl, ?_⟩; simp only [Act.put, sa_, sz_, ss_]; have H17 := Lib.hid (H7.out.below b7); clear b7 H7; obtain ⟨lc4_0, lc4_1, lc4_2, lf4_0, lf4_1, lf4_2⟩ := bw3_ (H17.out.get 3 rfl))
            | ((with_reducible refine gate_callee (f := 91) rfl ?_); refine goesL_ (some 23) rfl rfl Try.func91 (by kernel_rfl) rfl #[atV A l.length c i e, .string wMinus] rfl (by (try simp only [List.map_toArray, List.map_cons, List.map_nil]); first | done | rfl) ?_; refine (r_is (H17.out.C HC.out) HI.out.1 _ HT.out).mono ?_; rintro r' w18 ⟨rfl, b7⟩; refine ⟨_, rfl, ?_⟩; simp only [Act.put, sa_, sz_, ss_]; have H18 := Lib.hid (H17.out.below b7); clear b7 H17; obtain ⟨lc5_0, lc5_1, lc5_2, lf5_0, lf5_1, lf5_2⟩ := bw3_ (H18.out.get 3 rfl))
            | ((with_reducible refine gate_callee (f := 92) rfl ?_); refine goesL_ (some 26) rfl rfl Try.func92 (by kernel_rfl) rfl #[atV A l.length c i e] rfl (by (try simp only [List.map_toArray, List.map_cons, List.map_nil]); first | done | rfl) ?_; refine (r_step A l.length c i e w18 HI.out.1 hi2).mono ?_; rintro r' w8 ⟨rfl, b8⟩; refine ⟨_, rfl, ?_⟩; simp only [Act.put, sa_, sz_, ss_]; simp only [atV]; have H8 := Lib.hid (H18.out.below b8); clear b8 H18)
            | ((with_reducible refine gate_callee (f := 168) rfl ?_); refine goesL_ (some 28) rfl rfl Try.func168 (by kernel_rfl) rfl #[atV A l.length c (i + 1) e, .int .i64 d] rfl (by (try simp only [List.map_toArray, List.map_cons, List.map_nil]); first | done | rfl) ?_; refine (HP.out k1 (by have := HK.out; omega) _ _ _ _ _ _ _ _ (H8.out.C HC.out) (by have := HI.out.1; omega) HL.out hl d0 d50 Q1.out).mono ?_; rintro r' w9 ⟨yA, yc, rfl, t9, b9, i9, j9⟩; refine ⟨_, rfl, ?_⟩; simp only [Act.put, sa_, sz_, ss_]; simp only [atV, exV]; have H9 := Lib.hid (H8.out.call b9 t9); have I9 := Lib.hid (And.intro i9 j9); clear t9 b9 i9 j9 H8)
            | ((with_reducible refine gate_dst (N := 8) rfl ?_); refine box_event ?hg (N := 8) ?hd (cs := #[.slice none 0 0, .int .i64 0, .int .i64 0]) (t := 95) ?hr ?_; (case hd => rfl); (case hg => rfl); (case hr => first | (go_simp; done) | (go_simp; rfl)); intro g7 hg_ w10 hb_ hl_; have H10 := Lib.hid (H9.out.box hb_ hl_ (Nat.le_of_eq hg_.symm)); clear hb_ hl_ hg_ H9; simp only [Act.put, sa_, sz_, ss_])
            | (((with_reducible refine gate_dst (N := 9) rfl ?_); refine box_event ?hg (N := 9) ?hd (cs := #[.int .i64 0, .string (⟨#[]⟩ : ByteArray), .string (⟨#[]⟩ : ByteArray), .int .i64 0, .int .i64 0, .int .i64 0, .int .i64 0, .string (⟨#[]⟩ : ByteArray), .slice none 0 0]) (t := 27) ?hr ?_; (case hd => rfl); (case hg => rfl); (case hr => first | (go_simp; done) | (go_simp; rfl)); intro g8 hg_ w11 hb_ hl_; have H11 := Lib.hid (H10.out.box hb_ hl_ (Nat.le_of_eq hg_.symm)); clear hb_ hl_ hg_ H10; simp only [Act.put, sa_, sz_, ss_]; obtain ⟨lc25_0, lc25_1, lc25_2, lc25_3, lc25_4, lc25_5, lc25_6, lc25_7, lc25_8, lf25_0, lf25_1, lf25_2, lf25_3, lf25_4, lf25_5, lf25_6, lf25_7, lf25_8⟩ := bw9_ (H11.out.get 0 rfl); obtain ⟨lc26_0, lc26_1, lc26_2, lf26_0, lf26_1, lf26_2⟩ := bw3_ (H11.out.get 1 rfl)); have nn18 := H11.out.ne 0 1 rfl rfl (by decide); have nm18 := nn18.symm))
          refine startX_ (n := 7) (S := fun w' => w'.heap[g7]? = some (.cells (at3 A l.length c r1.i r1.e) 95 (0, 0)) ∧ w'.heap[g6]? = some (.cells (cl27 x vA vc) 27 (0, 0)) ∧ w'.heap[g8]? = some (.cells (cl27 r1.x yA yc) 27 (0, 0))) (ds := [6]) #[false, false, false, false, false, false, false] (by kernel_rfl) rfl rfl (((H11.out.put 1 rfl (put3_ (H11.out.get 1 rfl)) chg3_).put 0 rfl (put9_ ((H11.out.put 1 rfl (put3_ (H11.out.get 1 rfl)) chg3_).get 0 rfl)) chg9_)) (fun w' h => ⟨h.get 1 rfl, h.get 2 rfl, h.get 0 rfl⟩) (fun w12 h_ hHeld => ?_)
          have H12 := Lib.hid h_; clear h_ H11
          refine take_ (i := 0) (N := some 31) (v := ?_) (a' := ?_) #[true, false, false, false, false, false, false] rfl rfl (by kernel_rfl) (fun _ _ _ h => h) (Or.inl ⟨by rfl, ?_⟩) hHeld ?_ ?_; rotate_left
          · intro w' hS; obtain ⟨s0, s1, s2, f0, f1, f2⟩ := bw3_ hS.1; go_simp; (with_reducible rfl)
          rotate_left
          · simp only [Act.put, sa_, sz_, ss_, i64_w, i32_w]
            rfl
          refine take_ (i := 1) (N := some 32) (v := ?_) (a' := ?_) #[true, true, false, false, false, false, false] rfl rfl (by kernel_rfl) (fun _ _ _ h => h) (Or.inl ⟨by rfl, ?_⟩) hHeld ?_ ?_; rotate_left
          · intro w' hS; go_simp; (with_reducible rfl)
          rotate_left
          · simp only [Act.put, sa_, sz_, ss_, i64_w, i32_w]
            rfl
          refine take_ (i := 2) (N := some 33) (v := ?_) (a' := ?_) #[true, true, true, false, false, false, false] rfl rfl (by kernel_rfl) (fun _ _ _ h => h) (Or.inl ⟨by rfl, ?_⟩) hHeld ?_ ?_; rotate_left
          · intro w' hS; obtain ⟨s0, s1, s2, s3, s4, s5, s6, s7, s8, f0, f1, f2, f3, f4, f5, f6, f7, f8⟩ := bw9_ hS.2.1; go_simp; (with_reducible rfl)
          rotate_left
          · simp only [Act.put, sa_, sz_, ss_, i64_w, i32_w]
            rfl
          refine take_ (i := 3) (N := some 34) (v := ?_) (a' := ?_) #[true, true, true, true, false, false, false] rfl rfl (by kernel_rfl) (fun _ _ _ h => h) (Or.inl ⟨by rfl, ?_⟩) hHeld ?_ ?_; rotate_left
          · intro w' hS; obtain ⟨s0, s1, s2, s3, s4, s5, s6, s7, s8, f0, f1, f2, f3, f4, f5, f6, f7, f8⟩ := bw9_ hS.2.2; go_simp; (with_reducible rfl)
          rotate_left
          · simp only [Act.put, sa_, sz_, ss_, i64_w, i32_w]
            rfl
          refine one_ (i := 4) (N := some 35) #[true, true, true, true, true, false, false] rfl rfl (by kernel_rfl) (by decide) (fun K hK => ?_); refine goes_ Try.func93 (by kernel_rfl) rfl #[.int .i64 8, exV x vA vc, exV r1.x yA yc] (by rfl) rfl rfl (by (try simp only [List.map_toArray, List.map_cons, List.map_nil]); first | done | rfl) ?_; refine (r_two 8 x r1.x (H12.out.tre 1 rfl) (H12.out.tre 0 rfl)).mono ?_; rintro e' w13 ⟨zA, zc, rfl, t13, b13⟩; refine ⟨_, rfl, ?_⟩; have H13 := Lib.hid (H12.out.callO b13 t13); refine hK.out _ _ (⟨blk_below hHeld.1 b13, blk_below hHeld.2.1 b13, blk_below hHeld.2.2 b13⟩) (fun hHeld => ?_); clear hK K; refine norm_ (a' := ?_) ?_ ?_; rotate_left
          · show Act.put _ (some 35) _ = _
            simp only [Act.put, sa_, sz_, ss_, i64_w, i32_w, exV, ofP]; rfl
          clear b13 t13 H12; obtain ⟨lc6_0, lc6_1, lc6_2, lf6_0, lf6_1, lf6_2⟩ := bw3_ (H13.out.get 5 rfl); have nn19 := H13.out.ne 2 5 rfl rfl (by decide); have nm19 := nn19.symm
          refine one_ (i := 5) (N := none) #[true, true, true, true, true, true, false] rfl rfl (by kernel_rfl) (by decide) (fun K hK => ?_); refine skip_ (w1 := ?_) (by rfl) rfl ?_ ?_; rotate_left
          · go_simp
            rfl
          refine hK.out _ _ (⟨chg3_.blk hHeld.1 (H13.out.ne 1 5 rfl rfl (by decide)), chg3_.blk hHeld.2.1 (H13.out.ne 2 5 rfl rfl (by decide)), chg3_.blk hHeld.2.2 (H13.out.ne 0 5 rfl rfl (by decide))⟩) (fun hHeld2 => ?_); clear hK K
          obtain ⟨lc7_0, lc7_1, lc7_2, lc7_3, lc7_4, lc7_5, lc7_6, lc7_7, lc7_8, lf7_0, lf7_1, lf7_2, lf7_3, lf7_4, lf7_5, lf7_6, lf7_7, lf7_8⟩ := bw9_ (H13.out.get 2 rfl)
          refine last_ (i := 6) (N := none) #[true, true, true, true, true, true, true] rfl rfl (by kernel_rfl) (by decide) (fun K hK => ?_); refine skip_ (w1 := ?_) (by rfl) rfl ?_ ?_; rotate_left
          · go_simp
            rfl
          refine hK.out _ _ ?_; clear hK K; refine done_ (by kernel_rfl) ?_
          clear hHeld hHeld2
          try go_wp2
          have H15 := (H13.out.put 5 rfl (put3_ (v0 := .slice A l.length c) (v1 := .int .i64 r1.i) (v2 := .int .i64 r1.e) (H13.out.get 5 rfl)) chg3_).put 2 rfl (put9_ (v0 := .int .i64 8) (v1 := .string ⟨#[]⟩) (v2 := .string ⟨#[]⟩) (v3 := .int .i64 0) (v4 := .int .i64 0) (v5 := .int .i64 0) (v6 := .int .i64 0) (v7 := .string ⟨#[]⟩) (v8 := .slice zA 2 zc) ((H13.out.put 5 rfl (put3_ (v0 := .slice A l.length c) (v1 := .int .i64 r1.i) (v2 := .int .i64 r1.e) (H13.out.get 5 rfl)) chg3_).get 2 rfl)) chg9_
          go_roundg k1
          case measure => omega
          case rel => exact ⟨r1.i, r1.e, ofP 8 [x, r1.x], zA, zc, ⟨Q2.out⟩, ⟨by have := HK.out; omega⟩, ⟨H15.tail.tail.sub (by simp)⟩, ⟨I9.out⟩⟩
      | true =>
        have ht : isP l i e wMinus = false := one_sign hs (by decide +kernel)
        rw [find2 (f := fun s => isP l i e s) hs ht, if_pos rfl] at HH
        obtain ⟨r1, hq1, hq2⟩ := Option.bind_eq_some_iff.1 HH
        rw [op_plus] at hq2
        have Q1 := Lib.hid hq1; have Q2 := Lib.hid hq2; have HS := Lib.hid hs; have HT := Lib.hid ht; have HL := Lib.hid (hi1 hs); clear hq1 hq2 HH hs ht hi1 hi2
        have hi2 : i ≤ 1000000 := by have := HI.out.2; omega
        go_wp2_with (first
          | ((with_reducible refine gate_callee (f := 91) rfl ?_); refine goesL_ (some 17) rfl rfl Try.func91 (by kernel_rfl) rfl #[atV A l.length c i e, .string wPlus] rfl (by (try simp only [List.map_toArray, List.map_cons, List.map_nil]); first | done | rfl) ?_; refine (r_is (H6.out.C HC.out) HI.out.1 _ HS.out).mono ?_; rintro r' w7 ⟨rfl, b7⟩; refine ⟨_, rfl, ?_⟩; simp only [Act.put, sa_, sz_, ss_]; have H7 := Lib.hid (H6.out.below b7); clear b7 H6; obtain ⟨lc8_0, lc8_1, lc8_2, lf8_0, lf8_1, lf8_2⟩ := bw3_ (H7.out.get 3 rfl))
          | ((with_reducible refine gate_callee (f := 91) rfl ?_); refine goesL_ (some 23) rfl rfl Try.func91 (by kernel_rfl) rfl #[atV A l.length c i e, .string wMinus] rfl (by (try simp only [List.map_toArray, List.map_cons, List.map_nil]); first | done | rfl) ?_; refine (r_is (H7.out.C HC.out) HI.out.1 _ HT.out).mono ?_; rintro r' w18 ⟨rfl, b7⟩; refine ⟨_, rfl, ?_⟩; simp only [Act.put, sa_, sz_, ss_]; have H18 := Lib.hid (H7.out.below b7); clear b7 H7; obtain ⟨lc9_0, lc9_1, lc9_2, lf9_0, lf9_1, lf9_2⟩ := bw3_ (H18.out.get 3 rfl))
          | ((with_reducible refine gate_callee (f := 92) rfl ?_); refine goesL_ (some 26) rfl rfl Try.func92 (by kernel_rfl) rfl #[atV A l.length c i e] rfl (by (try simp only [List.map_toArray, List.map_cons, List.map_nil]); first | done | rfl) ?_; refine (r_step A l.length c i e w18 HI.out.1 hi2).mono ?_; rintro r' w8 ⟨rfl, b8⟩; refine ⟨_, rfl, ?_⟩; simp only [Act.put, sa_, sz_, ss_]; simp only [atV]; have H8 := Lib.hid (H18.out.below b8); clear b8 H18)
          | ((with_reducible refine gate_callee (f := 168) rfl ?_); refine goesL_ (some 28) rfl rfl Try.func168 (by kernel_rfl) rfl #[atV A l.length c (i + 1) e, .int .i64 d] rfl (by (try simp only [List.map_toArray, List.map_cons, List.map_nil]); first | done | rfl) ?_; refine (HP.out k1 (by have := HK.out; omega) _ _ _ _ _ _ _ _ (H8.out.C HC.out) (by have := HI.out.1; omega) HL.out hl d0 d50 Q1.out).mono ?_; rintro r' w9 ⟨yA, yc, rfl, t9, b9, i9, j9⟩; refine ⟨_, rfl, ?_⟩; simp only [Act.put, sa_, sz_, ss_]; simp only [atV, exV]; have H9 := Lib.hid (H8.out.call b9 t9); have I9 := Lib.hid (And.intro i9 j9); clear t9 b9 i9 j9 H8)
          | ((with_reducible refine gate_dst (N := 8) rfl ?_); refine box_event ?hg (N := 8) ?hd (cs := #[.slice none 0 0, .int .i64 0, .int .i64 0]) (t := 95) ?hr ?_; (case hd => rfl); (case hg => rfl); (case hr => first | (go_simp; done) | (go_simp; rfl)); intro g7 hg_ w10 hb_ hl_; have H10 := Lib.hid (H9.out.box hb_ hl_ (Nat.le_of_eq hg_.symm)); clear hb_ hl_ hg_ H9; simp only [Act.put, sa_, sz_, ss_])
          | (((with_reducible refine gate_dst (N := 9) rfl ?_); refine box_event ?hg (N := 9) ?hd (cs := #[.int .i64 0, .string (⟨#[]⟩ : ByteArray), .string (⟨#[]⟩ : ByteArray), .int .i64 0, .int .i64 0, .int .i64 0, .int .i64 0, .string (⟨#[]⟩ : ByteArray), .slice none 0 0]) (t := 27) ?hr ?_; (case hd => rfl); (case hg => rfl); (case hr => first | (go_simp; done) | (go_simp; rfl)); intro g8 hg_ w11 hb_ hl_; have H11 := Lib.hid (H10.out.box hb_ hl_ (Nat.le_of_eq hg_.symm)); clear hb_ hl_ hg_ H10; simp only [Act.put, sa_, sz_, ss_]; obtain ⟨lc27_0, lc27_1, lc27_2, lc27_3, lc27_4, lc27_5, lc27_6, lc27_7, lc27_8, lf27_0, lf27_1, lf27_2, lf27_3, lf27_4, lf27_5, lf27_6, lf27_7, lf27_8⟩ := bw9_ (H11.out.get 0 rfl); obtain ⟨lc28_0, lc28_1, lc28_2, lf28_0, lf28_1, lf28_2⟩ := bw3_ (H11.out.get 1 rfl)); have nn20 := H11.out.ne 0 1 rfl rfl (by decide); have nm20 := nn20.symm))
        refine startX_ (n := 7) (S := fun w' => w'.heap[g7]? = some (.cells (at3 A l.length c r1.i r1.e) 95 (0, 0)) ∧ w'.heap[g6]? = some (.cells (cl27 x vA vc) 27 (0, 0)) ∧ w'.heap[g8]? = some (.cells (cl27 r1.x yA yc) 27 (0, 0))) (ds := [6]) #[false, false, false, false, false, false, false] (by kernel_rfl) rfl rfl (((H11.out.put 1 rfl (put3_ (H11.out.get 1 rfl)) chg3_).put 0 rfl (put9_ ((H11.out.put 1 rfl (put3_ (H11.out.get 1 rfl)) chg3_).get 0 rfl)) chg9_)) (fun w' h => ⟨h.get 1 rfl, h.get 2 rfl, h.get 0 rfl⟩) (fun w12 h_ hHeld => ?_)
        have H12 := Lib.hid h_; clear h_ H11
        refine take_ (i := 0) (N := some 31) (v := ?_) (a' := ?_) #[true, false, false, false, false, false, false] rfl rfl (by kernel_rfl) (fun _ _ _ h => h) (Or.inl ⟨by rfl, ?_⟩) hHeld ?_ ?_; rotate_left
        · intro w' hS; obtain ⟨s0, s1, s2, f0, f1, f2⟩ := bw3_ hS.1; go_simp; (with_reducible rfl)
        rotate_left
        · simp only [Act.put, sa_, sz_, ss_, i64_w, i32_w]
          rfl
        refine take_ (i := 1) (N := some 32) (v := ?_) (a' := ?_) #[true, true, false, false, false, false, false] rfl rfl (by kernel_rfl) (fun _ _ _ h => h) (Or.inl ⟨by rfl, ?_⟩) hHeld ?_ ?_; rotate_left
        · intro w' hS; go_simp; (with_reducible rfl)
        rotate_left
        · simp only [Act.put, sa_, sz_, ss_, i64_w, i32_w]
          rfl
        refine take_ (i := 2) (N := some 33) (v := ?_) (a' := ?_) #[true, true, true, false, false, false, false] rfl rfl (by kernel_rfl) (fun _ _ _ h => h) (Or.inl ⟨by rfl, ?_⟩) hHeld ?_ ?_; rotate_left
        · intro w' hS; obtain ⟨s0, s1, s2, s3, s4, s5, s6, s7, s8, f0, f1, f2, f3, f4, f5, f6, f7, f8⟩ := bw9_ hS.2.1; go_simp; (with_reducible rfl)
        rotate_left
        · simp only [Act.put, sa_, sz_, ss_, i64_w, i32_w]
          rfl
        refine take_ (i := 3) (N := some 34) (v := ?_) (a' := ?_) #[true, true, true, true, false, false, false] rfl rfl (by kernel_rfl) (fun _ _ _ h => h) (Or.inl ⟨by rfl, ?_⟩) hHeld ?_ ?_; rotate_left
        · intro w' hS; obtain ⟨s0, s1, s2, s3, s4, s5, s6, s7, s8, f0, f1, f2, f3, f4, f5, f6, f7, f8⟩ := bw9_ hS.2.2; go_simp; (with_reducible rfl)
        rotate_left
        · simp only [Act.put, sa_, sz_, ss_, i64_w, i32_w]
          rfl
        refine one_ (i := 4) (N := some 35) #[true, true, true, true, true, false, false] rfl rfl (by kernel_rfl) (by decide) (fun K hK => ?_); refine goes_ Try.func93 (by kernel_rfl) rfl #[.int .i64 7, exV x vA vc, exV r1.x yA yc] (by rfl) rfl rfl (by (try simp only [List.map_toArray, List.map_cons, List.map_nil]); first | done | rfl) ?_; refine (r_two 7 x r1.x (H12.out.tre 1 rfl) (H12.out.tre 0 rfl)).mono ?_; rintro e' w13 ⟨zA, zc, rfl, t13, b13⟩; refine ⟨_, rfl, ?_⟩; have H13 := Lib.hid (H12.out.callO b13 t13); refine hK.out _ _ (⟨blk_below hHeld.1 b13, blk_below hHeld.2.1 b13, blk_below hHeld.2.2 b13⟩) (fun hHeld => ?_); clear hK K; refine norm_ (a' := ?_) ?_ ?_; rotate_left
        · show Act.put _ (some 35) _ = _
          simp only [Act.put, sa_, sz_, ss_, i64_w, i32_w, exV, ofP]; rfl
        clear b13 t13 H12; obtain ⟨lc10_0, lc10_1, lc10_2, lf10_0, lf10_1, lf10_2⟩ := bw3_ (H13.out.get 5 rfl); have nn21 := H13.out.ne 2 5 rfl rfl (by decide); have nm21 := nn21.symm
        refine one_ (i := 5) (N := none) #[true, true, true, true, true, true, false] rfl rfl (by kernel_rfl) (by decide) (fun K hK => ?_); refine skip_ (w1 := ?_) (by rfl) rfl ?_ ?_; rotate_left
        · go_simp
          rfl
        refine hK.out _ _ (⟨chg3_.blk hHeld.1 (H13.out.ne 1 5 rfl rfl (by decide)), chg3_.blk hHeld.2.1 (H13.out.ne 2 5 rfl rfl (by decide)), chg3_.blk hHeld.2.2 (H13.out.ne 0 5 rfl rfl (by decide))⟩) (fun hHeld2 => ?_); clear hK K
        obtain ⟨lc11_0, lc11_1, lc11_2, lc11_3, lc11_4, lc11_5, lc11_6, lc11_7, lc11_8, lf11_0, lf11_1, lf11_2, lf11_3, lf11_4, lf11_5, lf11_6, lf11_7, lf11_8⟩ := bw9_ (H13.out.get 2 rfl)
        refine last_ (i := 6) (N := none) #[true, true, true, true, true, true, true] rfl rfl (by kernel_rfl) (by decide) (fun K hK => ?_); refine skip_ (w1 := ?_) (by rfl) rfl ?_ ?_; rotate_left
        · go_simp
          rfl
        refine hK.out _ _ ?_; clear hK K; refine done_ (by kernel_rfl) ?_
        clear hHeld hHeld2
        try go_wp2
        have H15 := (H13.out.put 5 rfl (put3_ (v0 := .slice A l.length c) (v1 := .int .i64 r1.i) (v2 := .int .i64 r1.e) (H13.out.get 5 rfl)) chg3_).put 2 rfl (put9_ (v0 := .int .i64 7) (v1 := .string ⟨#[]⟩) (v2 := .string ⟨#[]⟩) (v3 := .int .i64 0) (v4 := .int .i64 0) (v5 := .int .i64 0) (v6 := .int .i64 0) (v7 := .string ⟨#[]⟩) (v8 := .slice zA 2 zc) ((H13.out.put 5 rfl (put3_ (v0 := .slice A l.length c) (v1 := .int .i64 r1.i) (v2 := .int .i64 r1.e) (H13.out.get 5 rfl)) chg3_).get 2 rfl)) chg9_
        go_roundg k1
        case measure => omega
        case rel => exact ⟨r1.i, r1.e, ofP 7 [x, r1.x], zA, zc, ⟨Q2.out⟩, ⟨by have := HK.out; omega⟩, ⟨H15.tail.tail.sub (by simp)⟩, ⟨I9.out⟩⟩
end Go.Proofs.Ytcfgjaggccnoaaa.PParseSmall
namespace Go.Proofs.Ytcfgjaggccnoaaa.PParseSmall
open Go.RowKit Go.Proofs.YtcfgjaggccnoaaaW.PrintWords Go.Proofs.YtcfgjaggccnoaaaW.PrintLast Go.Proofs.YtcfgjaggccnoaaaW.PrintMore
attribute [local go_sem] max2_int min2_int max_two min_two max_three min_three max_four min_four
set_option linter.unusedVariables false
set_option linter.unusedSimpArgs false
set_option maxRecDepth 100000
set_option maxHeartbeats 4000000
theorem lit1s {P : Program} {ops : Array Oper} {Q : Exit → Act → World → Prop} {o : Oper} {a : Act} {Kc : Act → World → Prop} {W : World} {x : S27} {A : Option Addr} {c : Nat} {ok : Nat → Prop} {N' : Tmp} (hw : Region.wanted o (yielded ops a.tmps) = true) (hd : o.dst = some N') (hx : Tr W ok x A c) (hf : ok W.heap.size)
    (hrun : (execOp a.eval o).run P W = .ok (.value (.slice (some ⟨W.heap.size, 0, none⟩) 1 1)) (W.alloc (.cells #[.int .i64 x.f0, .string x.f1, .string x.f2, .int .i64 x.f3, .int .i64 x.f4, .int .i64 x.f5.f0, .int .i64 x.f5.f1, .string x.f5.f2, .slice A x.f6.length c] 27)))
    (h : ∀ A1 c1 w1, Kd.V k27 27 w1 0 ok (.slice A1 1 c1) [x] → Below W.heap.size W w1 → Kc (a.put (some N') (.slice A1 1 c1)) w1) : if Region.wanted o (yielded ops a.tmps) = true then Oper.wp P o a W Kc Q else Kc (a.put (some N') undef) W := by
  rw [← hd]
  refine Kd.N_lit_step k27 W.heap.size 27 hw hd (xs := [x]) (ok := ok) (okp := ok) hrun (reps1 hx) (fun _ q => q) hf (Below.refl _ _) (Nat.le_refl _) (by simp) ?_
  intro v1 w1 hn hb _ _
  obtain ⟨A1, c1, rfl, hl, hF⟩ := Kd.N_V (base' := 0) hn
  rw [hd]
  exact h A1 c1 w1 ⟨A1, c1, rfl, hl, hF⟩ hb
theorem RS.fresh {w0 w : World} {L : List (Nat × Array Value × TypeId)} {T : List (S27 × Option Addr × Nat)} (h : RS w0 w L T) : w0.heap.size ≤ w.heap.size ∧ w.heap.size ∉ L.map (·.1) := by
  refine ⟨h.bl.size, fun hm => ?_⟩
  obtain ⟨b, hb1, hb2⟩ := List.mem_map.1 hm
  have := h.lt hb1
  omega
theorem Tr.ofV {W : World} {ok : Nat → Prop} {op : Int} {xs : List S27} {A : Option Addr} {n c : Nat} (h : Kd.V k27 27 W 0 ok (.slice A n c) xs) : Tr W ok (ofP op xs) A c ∧ n = xs.length := by
  obtain ⟨A2, c2, e2, l2, f2⟩ := h
  obtain ⟨rfl, rfl, rfl⟩ : A = A2 ∧ n = xs.length ∧ c = c2 := by injection e2 with e3 e4 e5; exact ⟨e3, e4, e5⟩
  exact ⟨⟨l2, f2⟩, rfl⟩
theorem r_not_no {k : Nat} (hT : RGOK k .test) {w : World} {A : Option Addr} {c : Nat} {l : List S91} {i d e : Int} {r : Re} (hC : Kd.C k91 w A l.length l) (h0 : 0 ≤ i) (h1 : i ≤ l.length) (hl : l.length ≤ 1000000) (d0 : 0 ≤ d) (d50 : d ≤ 50) (hs : isP l i e wNot = false) (hr : rr l k (.f .test) i d e = some r) :
    Calls Try.prog 125 #[atV A l.length c i e, .int .i64 d] w (RDone w A c l r) := by
  have HC := Lib.hid hC; have HS := Lib.hid hs; have HR := Lib.hid hr; have HT := Lib.hid hT; clear hs hr hT
  clear hC
  have H0 := Lib.hid (RS.start w)
  go_enter Try.func125, Try.ntmps125
  go_wp2_with (first
    | ((with_reducible refine gate_dst (N := 2) rfl ?_); refine box_event ?hg (N := 2) ?hd (cs := #[.slice A l.length c, .int .i64 i, .int .i64 e]) (t := 95) ?hr ?_; (case hd => rfl); (case hg => rfl); (case hr => first | (go_simp; done) | (go_simp; rfl)); intro g2 hg_ w1 hb_ hl_; have H1 := Lib.hid (H0.out.box hb_ hl_ (Nat.le_of_eq hg_.symm)); clear hb_ hl_ hg_ H0; simp only [Act.put, sa_, sz_, ss_])
    | ((with_reducible refine gate_dst (N := 4) rfl ?_); refine box_event ?hg (N := 4) ?hd (cs := #[.slice none 0 0, .int .i64 0, .int .i64 0]) (t := 95) ?hr ?_; (case hd => rfl); (case hg => rfl); (case hr => first | (go_simp; done) | (go_simp; rfl)); intro g4 hg_ w2 hb_ hl_; have H2 := Lib.hid (H1.out.box hb_ hl_ (Nat.le_of_eq hg_.symm)); clear hb_ hl_ hg_ H1; simp only [Act.put, sa_, sz_, ss_])
    | ((with_reducible refine gate_dst (N := 5) rfl ?_); refine box_event ?hg (N := 5) ?hd (cs := #[.int .i64 0, .string (⟨#[]⟩ : ByteArray), .string (⟨#[]⟩ : ByteArray), .int .i64 0, .int .i64 0, .int .i64 0, .int .i64 0, .string (⟨#[]⟩ : ByteArray), .slice none 0 0]) (t := 27) ?hr ?_; (case hd => rfl); (case hg => rfl); (case hr => first | (go_simp; done) | (go_simp; rfl)); intro g5 hg_ w3 hb_ hl_; have H3 := Lib.hid (H2.out.box hb_ hl_ (Nat.le_of_eq hg_.symm)); clear hb_ hl_ hg_ H2; simp only [Act.put, sa_, sz_, ss_]; obtain ⟨lc21_0, lc21_1, lc21_2, lf21_0, lf21_1, lf21_2⟩ := bw3_ (H3.out.get 2 rfl))
    | ((with_reducible refine gate_callee (f := 91) rfl ?_); refine goesL_ (some 9) rfl rfl Try.func91 (by kernel_rfl) rfl #[atV A l.length c i e, .string wNot] rfl (by (try simp only [List.map_toArray, List.map_cons, List.map_nil]); first | done | rfl) ?_; refine (r_is (H3.out.C HC.out) h0 _ HS.out).mono ?_; rintro r' w4 ⟨rfl, b4⟩; refine ⟨_, rfl, ?_⟩; simp only [Act.put, sa_, sz_, ss_]; have H4 := Lib.hid (H3.out.below b4); clear b4 H3; obtain ⟨lc1_0, lc1_1, lc1_2, lf1_0, lf1_1, lf1_2⟩ := bw3_ (H4.out.get 2 rfl))
    | (((with_reducible refine gate_callee (f := 153) rfl ?_); refine goesL_ (some 13) rfl rfl Try.func153 (by kernel_rfl) rfl #[atV A l.length c i e, .int .i64 d] rfl (by (try simp only [List.map_toArray, List.map_cons, List.map_nil]); first | done | rfl) ?_; refine (HT.out _ _ _ _ _ _ _ _ (H4.out.C HC.out) h0 h1 hl d0 d50 HR.out).mono ?_; rintro r' w5 ⟨vA, vc, rfl, t5, b5, i5, j5⟩; refine ⟨_, rfl, ?_⟩; simp only [Act.put, sa_, sz_, ss_]; simp only [atV, exV]; have H5 := Lib.hid (H4.out.call b5 t5); have I5 := Lib.hid (And.intro i5 j5); clear t5 b5 i5 j5 H4; obtain ⟨lc2_0, lc2_1, lc2_2, lc2_3, lc2_4, lc2_5, lc2_6, lc2_7, lc2_8, lf2_0, lf2_1, lf2_2, lf2_3, lf2_4, lf2_5, lf2_6, lf2_7, lf2_8⟩ := bw9_ (H5.out.get 0 rfl); obtain ⟨lc3_0, lc3_1, lc3_2, lf3_0, lf3_1, lf3_2⟩ := bw3_ (H5.out.get 1 rfl); have nn12 := H5.out.ne 0 1 rfl rfl (by decide); have nm12 := nn12.symm)))
  have H6 := ((H5.out.put 1 rfl (put3_ (v0 := .slice A l.length c) (v1 := .int .i64 (r.i)) (v2 := .int .i64 (r.e)) (H5.out.get 1 rfl)) chg3_).put 0 rfl (put9_ (v0 := .int .i64 r.x.f0) (v1 := .string r.x.f1) (v2 := .string r.x.f2) (v3 := .int .i64 r.x.f3) (v4 := .int .i64 r.x.f4) (v5 := .int .i64 r.x.f5.f0) (v6 := .int .i64 r.x.f5.f1) (v7 := .string r.x.f5.f2) (v8 := .slice vA r.x.f6.length vc) ((H5.out.put 1 rfl (put3_ (v0 := .slice A l.length c) (v1 := .int .i64 (r.i)) (v2 := .int .i64 (r.e)) (H5.out.get 1 rfl)) chg3_).get 0 rfl)) chg9_)
  exact bodyPost_ret (results_cc rfl _ _ _ _ 95 27 _ _ (0, 0) (0, 0) _ _ rfl (H6.get 1 rfl) Try.underlying95 rfl (by kernel_rfl) rfl (H6.get 0 rfl) Try.underlying27 rfl (by kernel_rfl)) rfl (H6.done (r := r) (H6.out 0 rfl) I5.out.1 I5.out.2)
theorem r_not_deep {k : Nat} {w : World} {A : Option Addr} {c : Nat} {l : List S91} {i d e : Int} {r : Re} (hC : Kd.C k91 w A l.length l) (h0 : 0 ≤ i) (h1 : i ≤ l.length) (hl : l.length ≤ 1000000) (d0 : 0 ≤ d) (d50 : d ≤ 50) (hs : isP l i e wNot = true) (hd : d = 50) :
    Calls Try.prog 125 #[atV A l.length c i e, .int .i64 d] w (RDone w A c l ⟨i, d, flE e 4, zx27⟩) := by
  have HC := Lib.hid hC; have HS := Lib.hid hs; clear hs d0 d50; subst hd
  clear hC
  have H0 := Lib.hid (RS.start w)
  go_enter Try.func125, Try.ntmps125
  go_wp2_with (first
    | ((with_reducible refine gate_dst (N := 2) rfl ?_); refine box_event ?hg (N := 2) ?hd (cs := #[.slice A l.length c, .int .i64 i, .int .i64 e]) (t := 95) ?hr ?_; (case hd => rfl); (case hg => rfl); (case hr => first | (go_simp; done) | (go_simp; rfl)); intro g2 hg_ w1 hb_ hl_; have H1 := Lib.hid (H0.out.box hb_ hl_ (Nat.le_of_eq hg_.symm)); clear hb_ hl_ hg_ H0; simp only [Act.put, sa_, sz_, ss_])
    | ((with_reducible refine gate_dst (N := 4) rfl ?_); refine box_event ?hg (N := 4) ?hd (cs := #[.slice none 0 0, .int .i64 0, .int .i64 0]) (t := 95) ?hr ?_; (case hd => rfl); (case hg => rfl); (case hr => first | (go_simp; done) | (go_simp; rfl)); intro g4 hg_ w2 hb_ hl_; have H2 := Lib.hid (H1.out.box hb_ hl_ (Nat.le_of_eq hg_.symm)); clear hb_ hl_ hg_ H1; simp only [Act.put, sa_, sz_, ss_])
    | ((with_reducible refine gate_dst (N := 5) rfl ?_); refine box_event ?hg (N := 5) ?hd (cs := #[.int .i64 0, .string (⟨#[]⟩ : ByteArray), .string (⟨#[]⟩ : ByteArray), .int .i64 0, .int .i64 0, .int .i64 0, .int .i64 0, .string (⟨#[]⟩ : ByteArray), .slice none 0 0]) (t := 27) ?hr ?_; (case hd => rfl); (case hg => rfl); (case hr => first | (go_simp; done) | (go_simp; rfl)); intro g5 hg_ w3 hb_ hl_; have H3 := Lib.hid (H2.out.box hb_ hl_ (Nat.le_of_eq hg_.symm)); clear hb_ hl_ hg_ H2; simp only [Act.put, sa_, sz_, ss_]; obtain ⟨lc22_0, lc22_1, lc22_2, lf22_0, lf22_1, lf22_2⟩ := bw3_ (H3.out.get 2 rfl))
    | ((with_reducible refine gate_callee (f := 91) rfl ?_); refine goesL_ (some 9) rfl rfl Try.func91 (by kernel_rfl) rfl #[atV A l.length c i e, .string wNot] rfl (by (try simp only [List.map_toArray, List.map_cons, List.map_nil]); first | done | rfl) ?_; refine (r_is (H3.out.C HC.out) h0 _ HS.out).mono ?_; rintro r' w4 ⟨rfl, b4⟩; refine ⟨_, rfl, ?_⟩; simp only [Act.put, sa_, sz_, ss_]; have H4 := Lib.hid (H3.out.below b4); clear b4 H3; obtain ⟨lc4_0, lc4_1, lc4_2, lf4_0, lf4_1, lf4_2⟩ := bw3_ (H4.out.get 2 rfl))
    | (((with_reducible refine gate_callee (f := 95) rfl ?_); refine goesL_ (some 19) rfl rfl Try.func95 (by kernel_rfl) rfl #[atV A l.length c i e, .int .i64 4] rfl (by (try simp only [List.map_toArray, List.map_cons, List.map_nil]); first | done | rfl) ?_; refine (r_fail A l.length c i e 4 w4).mono ?_; rintro r' w5 ⟨rfl, b5⟩; refine ⟨_, rfl, ?_⟩; simp only [Act.put, sa_, sz_, ss_]; simp only [atV]; have H5 := Lib.hid (H4.out.below b5); clear b5 H4; obtain ⟨lc5_0, lc5_1, lc5_2, lc5_3, lc5_4, lc5_5, lc5_6, lc5_7, lc5_8, lf5_0, lf5_1, lf5_2, lf5_3, lf5_4, lf5_5, lf5_6, lf5_7, lf5_8⟩ := bw9_ (H5.out.get 0 rfl); obtain ⟨lc6_0, lc6_1, lc6_2, lf6_0, lf6_1, lf6_2⟩ := bw3_ (H5.out.get 1 rfl); have nn13 := H5.out.ne 0 1 rfl rfl (by decide); have nm13 := nn13.symm)))
  have H6 := ((H5.out.put 1 rfl (put3_ (v0 := .slice A l.length c) (v1 := .int .i64 (i)) (v2 := .int .i64 (flE e 4)) (H5.out.get 1 rfl)) chg3_).put 0 rfl (put9_ (v0 := .int .i64 0) (v1 := .string ⟨#[]⟩) (v2 := .string ⟨#[]⟩) (v3 := .int .i64 0) (v4 := .int .i64 0) (v5 := .int .i64 0) (v6 := .int .i64 0) (v7 := .string ⟨#[]⟩) (v8 := .slice none 0 0) ((H5.out.put 1 rfl (put3_ (v0 := .slice A l.length c) (v1 := .int .i64 (i)) (v2 := .int .i64 (flE e 4)) (H5.out.get 1 rfl)) chg3_).get 0 rfl)) chg9_)
  exact bodyPost_ret (results_cc rfl _ _ _ _ 95 27 _ _ (0, 0) (0, 0) _ _ rfl (H6.get 1 rfl) Try.underlying95 rfl (by kernel_rfl) rfl (H6.get 0 rfl) Try.underlying27 rfl (by kernel_rfl)) rfl (H6.done (r := ⟨i, 50, flE e 4, zx27⟩) (tr_leaf rfl) h0 h1)
theorem r_not_yes {k : Nat} (hT : RGOK k .not) {w : World} {A : Option Addr} {c : Nat} {l : List S91} {i d e : Int} {r : Re} (hC : Kd.C k91 w A l.length l) (h0 : 0 ≤ i) (h1 : i ≤ l.length) (hl : l.length ≤ 1000000) (d0 : 0 ≤ d) (d50 : d ≤ 50) (hs : isP l i e wNot = true) (hd : d ≠ 50) (hr : rr l k (.f .not) (i + 1) (d + 1) e = some r) :
    Calls Try.prog 125 #[atV A l.length c i e, .int .i64 d] w (RDone w A c l ⟨r.i, d, r.e, ofP 12 [r.x]⟩) := by
  have HC := Lib.hid hC; have HS := Lib.hid hs; have HR := Lib.hid hr; have HT := Lib.hid hT; have HL := Lib.hid (isP_lt hs); have hd2 : (d == 50) = false := beq_eq_false_iff_ne.2 hd; have h2 : i ≤ 1000000 := by omega
  have D0 := Lib.hid (show 0 ≤ d + 1 ∧ d + 1 ≤ 50 by omega); clear hs hr hT hd
  clear hC
  have H0 := Lib.hid (RS.start w)
  go_enter Try.func125, Try.ntmps125
  go_wp2_with (first
    | ((with_reducible refine gate_dst (N := 2) rfl ?_); refine box_event ?hg (N := 2) ?hd (cs := #[.slice A l.length c, .int .i64 i, .int .i64 e]) (t := 95) ?hr ?_; (case hd => rfl); (case hg => rfl); (case hr => first | (go_simp; done) | (go_simp; rfl)); intro g2 hg_ w1 hb_ hl_; have H1 := Lib.hid (H0.out.box hb_ hl_ (Nat.le_of_eq hg_.symm)); clear hb_ hl_ hg_ H0; simp only [Act.put, sa_, sz_, ss_])
    | ((with_reducible refine gate_dst (N := 4) rfl ?_); refine box_event ?hg (N := 4) ?hd (cs := #[.slice none 0 0, .int .i64 0, .int .i64 0]) (t := 95) ?hr ?_; (case hd => rfl); (case hg => rfl); (case hr => first | (go_simp; done) | (go_simp; rfl)); intro g4 hg_ w2 hb_ hl_; have H2 := Lib.hid (H1.out.box hb_ hl_ (Nat.le_of_eq hg_.symm)); clear hb_ hl_ hg_ H1; simp only [Act.put, sa_, sz_, ss_])
    | ((with_reducible refine gate_dst (N := 5) rfl ?_); refine box_event ?hg (N := 5) ?hd (cs := #[.int .i64 0, .string (⟨#[]⟩ : ByteArray), .string (⟨#[]⟩ : ByteArray), .int .i64 0, .int .i64 0, .int .i64 0, .int .i64 0, .string (⟨#[]⟩ : ByteArray), .slice none 0 0]) (t := 27) ?hr ?_; (case hd => rfl); (case hg => rfl); (case hr => first | (go_simp; done) | (go_simp; rfl)); intro g5 hg_ w3 hb_ hl_; have H3 := Lib.hid (H2.out.box hb_ hl_ (Nat.le_of_eq hg_.symm)); clear hb_ hl_ hg_ H2; simp only [Act.put, sa_, sz_, ss_]; obtain ⟨lc23_0, lc23_1, lc23_2, lf23_0, lf23_1, lf23_2⟩ := bw3_ (H3.out.get 2 rfl))
    | ((with_reducible refine gate_callee (f := 91) rfl ?_); refine goesL_ (some 9) rfl rfl Try.func91 (by kernel_rfl) rfl #[atV A l.length c i e, .string wNot] rfl (by (try simp only [List.map_toArray, List.map_cons, List.map_nil]); first | done | rfl) ?_; refine (r_is (H3.out.C HC.out) h0 _ HS.out).mono ?_; rintro r' w4 ⟨rfl, b4⟩; refine ⟨_, rfl, ?_⟩; simp only [Act.put, sa_, sz_, ss_]; have H4 := Lib.hid (H3.out.below b4); clear b4 H3; obtain ⟨lc7_0, lc7_1, lc7_2, lf7_0, lf7_1, lf7_2⟩ := bw3_ (H4.out.get 2 rfl))
    | ((with_reducible refine gate_callee (f := 92) rfl ?_); refine goesL_ (some 23) rfl rfl Try.func92 (by kernel_rfl) rfl #[atV A l.length c i e] rfl (by (try simp only [List.map_toArray, List.map_cons, List.map_nil]); first | done | rfl) ?_; refine (r_step A l.length c i e w4 h0 h2).mono ?_; rintro r' w5 ⟨rfl, b5⟩; refine ⟨_, rfl, ?_⟩; simp only [Act.put, sa_, sz_, ss_]; simp only [atV]; have H5 := Lib.hid (H4.out.below b5); clear b5 H4)
    | ((with_reducible refine gate_callee (f := 125) rfl ?_); refine goesL_ (some 26) rfl rfl Try.func125 (by kernel_rfl) rfl #[atV A l.length c (i + 1) e, .int .i64 (d + 1)] rfl (by (try simp only [List.map_toArray, List.map_cons, List.map_nil]); first | done | rfl) ?_; refine (HT.out _ _ _ _ _ _ _ _ (H5.out.C HC.out) (by omega) HL.out hl D0.out.1 D0.out.2 HR.out).mono ?_; rintro r' w6 ⟨vA, vc, rfl, t6, b6, i6, j6⟩; refine ⟨_, rfl, ?_⟩; simp only [Act.put, sa_, sz_, ss_]; simp only [atV, exV]; have H6 := Lib.hid (H5.out.call b6 t6); have I6 := Lib.hid (And.intro i6 j6); clear t6 b6 i6 j6 H5)
    | ((with_reducible refine gate_dst (N := 6) rfl ?_); refine box_event ?hg (N := 6) ?hd (cs := #[.slice none 0 0, .int .i64 0, .int .i64 0]) (t := 95) ?hr ?_; (case hd => rfl); (case hg => rfl); (case hr => first | (go_simp; done) | (go_simp; rfl)); intro g6 hg_ w7 hb_ hl_; have H7 := Lib.hid (H6.out.box hb_ hl_ (Nat.le_of_eq hg_.symm)); clear hb_ hl_ hg_ H6; simp only [Act.put, sa_, sz_, ss_])
    | (((with_reducible refine gate_dst (N := 7) rfl ?_); refine box_event ?hg (N := 7) ?hd (cs := #[.int .i64 0, .string (⟨#[]⟩ : ByteArray), .string (⟨#[]⟩ : ByteArray), .int .i64 0, .int .i64 0, .int .i64 0, .int .i64 0, .string (⟨#[]⟩ : ByteArray), .slice none 0 0]) (t := 27) ?hr ?_; (case hd => rfl); (case hg => rfl); (case hr => first | (go_simp; done) | (go_simp; rfl)); intro g7 hg_ w8 hb_ hl_; have H8 := Lib.hid (H7.out.box hb_ hl_ (Nat.le_of_eq hg_.symm)); clear hb_ hl_ hg_ H7; simp only [Act.put, sa_, sz_, ss_]; obtain ⟨lc24_0, lc24_1, lc24_2, lc24_3, lc24_4, lc24_5, lc24_6, lc24_7, lc24_8, lf24_0, lf24_1, lf24_2, lf24_3, lf24_4, lf24_5, lf24_6, lf24_7, lf24_8⟩ := bw9_ (H8.out.get 0 rfl); obtain ⟨lc25_0, lc25_1, lc25_2, lf25_0, lf25_1, lf25_2⟩ := bw3_ (H8.out.get 1 rfl)); have nn14 := H8.out.ne 0 1 rfl rfl (by decide); have nm14 := nn14.symm))
  refine startX_ (n := 6) (S := fun w' => w'.heap[g6]? = some (.cells (at3 A l.length c r.i r.e) 95 (0, 0)) ∧ w'.heap[g7]? = some (.cells (cl27 r.x vA vc) 27 (0, 0))) (ds := [5]) #[false, false, false, false, false, false] (by kernel_rfl) rfl rfl (((H8.out.put 1 rfl (put3_ (H8.out.get 1 rfl)) chg3_).put 0 rfl (put9_ ((H8.out.put 1 rfl (put3_ (H8.out.get 1 rfl)) chg3_).get 0 rfl)) chg9_)) (fun w' h => ⟨h.get 1 rfl, h.get 0 rfl⟩) (fun w12 h_ hHeld => ?_)
  have H12 := Lib.hid h_; clear h_ H8
  refine take_ (i := 0) (N := some 29) (v := ?_) (a' := ?_) #[true, false, false, false, false, false] rfl rfl (by kernel_rfl) (fun _ _ _ h => h) (Or.inl ⟨by rfl, ?_⟩) hHeld ?_ ?_; rotate_left
  · intro w' hS; obtain ⟨s0, s1, s2, f0, f1, f2⟩ := bw3_ hS.1; go_simp; (with_reducible rfl)
  rotate_left
  · simp only [Act.put, sa_, sz_, ss_, i64_w, i32_w]
    rfl
  refine take_ (i := 1) (N := some 30) (v := ?_) (a' := ?_) #[true, true, false, false, false, false] rfl rfl (by kernel_rfl) (fun _ _ _ h => h) (Or.inl ⟨by rfl, ?_⟩) hHeld ?_ ?_; rotate_left
  · intro w' hS; obtain ⟨s0, s1, s2, s3, s4, s5, s6, s7, s8, f0, f1, f2, f3, f4, f5, f6, f7, f8⟩ := bw9_ hS.2; go_simp; (with_reducible rfl)
  rotate_left
  · simp only [Act.put, sa_, sz_, ss_, i64_w, i32_w]
    rfl
  refine two_ (i := 2) (j := 4) (Ni := some 31) (Nj := none) #[true, true, true, false, false, false] #[true, true, false, false, true, false] rfl rfl rfl rfl (by kernel_rfl) (by decide) (by decide) (fun K hK => ?_) (fun K hK => ?_)
  · refine lit1s (by rfl) rfl (H12.out.tre 0 rfl) ?hf ?hr ?_; (case hf => exact H12.out.fresh); (case hr => first | (go_simp; done) | (go_simp; rfl)); intro A6 c6 w16 v9 b9; have V6 := Lib.hid v9; have H13 := Lib.hid (H12.out.below b9); refine hK.out _ _ (⟨blk_below hHeld.1 b9, blk_below hHeld.2 b9⟩) (fun hHeld => ?_); clear v9 b9 hK K; refine norm_ (a' := ?_) ?_ ?_; rotate_left
    · show Act.put _ (some 31) _ = _
      simp only [Act.put, sa_, sz_, ss_, i64_w, i32_w]; rfl
    refine pure_ (i := 3) (N := some 32) (v := ?_) (a' := ?_) #[true, true, true, true, false, false] rfl rfl (by kernel_rfl) (fun _ _ _ h => h) (Or.inl ⟨by rfl, ?_⟩) ?_ ?_; rotate_left
    · intro w'
      go_simp; (with_reducible rfl)
    rotate_left
    · simp only [Act.put, sa_, sz_, ss_, i64_w, i32_w]
      rfl
    obtain ⟨lc8_0, lc8_1, lc8_2, lf8_0, lf8_1, lf8_2⟩ := bw3_ (H13.out.get 3 rfl); have nn15 := H13.out.ne 3 2 rfl rfl (by decide); have nm15 := nn15.symm; have nn16 := H13.out.ne 3 1 rfl rfl (by decide); have nm16 := nn16.symm; have nn17 := H13.out.ne 3 0 rfl rfl (by decide); have nm17 := nn17.symm
    refine one_ (i := 4) (N := none) #[true, true, true, true, true, false] rfl rfl (by kernel_rfl) (by decide) (fun K hK => ?_); refine skip_ (w1 := ?_) (by rfl) rfl ?_ ?_; rotate_left
    · go_simp
      rfl
    refine hK.out _ _ (⟨chg3_.blk hHeld.1 (H13.out.ne 1 3 rfl rfl (by decide)), chg3_.blk hHeld.2 (H13.out.ne 0 3 rfl rfl (by decide))⟩) (fun hHeld2 => ?_); clear hK K
    obtain ⟨lc9_0, lc9_1, lc9_2, lc9_3, lc9_4, lc9_5, lc9_6, lc9_7, lc9_8, lf9_0, lf9_1, lf9_2, lf9_3, lf9_4, lf9_5, lf9_6, lf9_7, lf9_8⟩ := bw9_ (H13.out.get 2 rfl)
    refine last_ (i := 5) (N := none) #[true, true, true, true, true, true] rfl rfl (by kernel_rfl) (by decide) (fun K hK => ?_); refine skip_ (w1 := ?_) (by rfl) rfl ?_ ?_; rotate_left
    · go_simp
      rfl
    refine hK.out _ _ ?_; clear hK K; refine done_ (by kernel_rfl) ?_
    try go_wp2
    have H14 := H13.out.add (Tr.ofV (op := 12) V6.out).1
    have H15 := ((H14.put 3 rfl (put3_ (v0 := .slice A l.length c) (v1 := .int .i64 (r.i)) (v2 := .int .i64 (r.e)) (H14.get 3 rfl)) chg3_).put 2 rfl (put9_ (v0 := .int .i64 12) (v1 := .string ⟨#[]⟩) (v2 := .string ⟨#[]⟩) (v3 := .int .i64 0) (v4 := .int .i64 0) (v5 := .int .i64 0) (v6 := .int .i64 0) (v7 := .string ⟨#[]⟩) (v8 := .slice A6 1 c6) ((H14.put 3 rfl (put3_ (v0 := .slice A l.length c) (v1 := .int .i64 (r.i)) (v2 := .int .i64 (r.e)) (H14.get 3 rfl)) chg3_).get 2 rfl)) chg9_)
    exact bodyPost_ret (results_cc rfl _ _ _ _ 95 27 _ _ (0, 0) (0, 0) _ _ rfl (H15.get 3 rfl) Try.underlying95 rfl (by kernel_rfl) rfl (H15.get 2 rfl) Try.underlying27 rfl (by kernel_rfl)) rfl (H15.done (r := ⟨r.i, d, r.e, ofP 12 [r.x]⟩) (H15.out 0 rfl) I6.out.1 I6.out.2)

  · obtain ⟨lc10_0, lc10_1, lc10_2, lf10_0, lf10_1, lf10_2⟩ := bw3_ (H12.out.get 3 rfl); have nn18 := H12.out.ne 3 2 rfl rfl (by decide); have nm18 := nn18.symm; have nn19 := H12.out.ne 3 1 rfl rfl (by decide); have nm19 := nn19.symm; have nn20 := H12.out.ne 3 0 rfl rfl (by decide); have nm20 := nn20.symm
    refine skip_ (w1 := ?_) (by rfl) rfl ?_ ?_; rotate_left
    · go_simp
      rfl
    refine hK.out _ _ (⟨chg3_.blk hHeld.1 (H12.out.ne 1 3 rfl rfl (by decide)), chg3_.blk hHeld.2 (H12.out.ne 0 3 rfl rfl (by decide))⟩) (fun hHeld => ?_); clear hK K
    have H16 := Lib.hid (H12.out.put 3 rfl (put3_ (v0 := .slice A l.length c) (v1 := .int .i64 (r.i)) (v2 := .int .i64 (r.e)) (H12.out.get 3 rfl)) chg3_)
    refine one_ (i := 2) (N := some 31) #[true, true, true, false, true, false] rfl rfl (by kernel_rfl) (by decide) (fun K hK => ?_)
    refine lit1s (by rfl) rfl (H16.out.tre 0 rfl) ?hf ?hr ?_; (case hf => exact H16.out.fresh); (case hr => first | (go_simp; done) | (go_simp; rfl)); intro A6 c6 w16 v9 b9; have V6 := Lib.hid v9; have H17 := Lib.hid (H16.out.below b9); refine hK.out _ _ (⟨blk_below hHeld.1 b9, blk_below hHeld.2 b9⟩) (fun hHeld => ?_); clear v9 b9 hK K; refine norm_ (a' := ?_) ?_ ?_; rotate_left
    · show Act.put _ (some 31) _ = _
      simp only [Act.put, sa_, sz_, ss_, i64_w, i32_w]; rfl
    refine pure_ (i := 3) (N := some 32) (v := ?_) (a' := ?_) #[true, true, true, true, true, false] rfl rfl (by kernel_rfl) (fun _ _ _ h => h) (Or.inl ⟨by rfl, ?_⟩) ?_ ?_; rotate_left
    · intro w'
      go_simp; (with_reducible rfl)
    rotate_left
    · simp only [Act.put, sa_, sz_, ss_, i64_w, i32_w]
      rfl
    obtain ⟨lc11_0, lc11_1, lc11_2, lc11_3, lc11_4, lc11_5, lc11_6, lc11_7, lc11_8, lf11_0, lf11_1, lf11_2, lf11_3, lf11_4, lf11_5, lf11_6, lf11_7, lf11_8⟩ := bw9_ (H17.out.get 2 rfl)
    refine last_ (i := 5) (N := none) #[true, true, true, true, true, true] rfl rfl (by kernel_rfl) (by decide) (fun K hK => ?_); refine skip_ (w1 := ?_) (by rfl) rfl ?_ ?_; rotate_left
    · go_simp
      rfl
    refine hK.out _ _ ?_; clear hK K; refine done_ (by kernel_rfl) ?_
    try go_wp2
    have H18 := H17.out.add (Tr.ofV (op := 12) V6.out).1
    have H19 := H18.put 2 rfl (put9_ (v0 := .int .i64 12) (v1 := .string ⟨#[]⟩) (v2 := .string ⟨#[]⟩) (v3 := .int .i64 0) (v4 := .int .i64 0) (v5 := .int .i64 0) (v6 := .int .i64 0) (v7 := .string ⟨#[]⟩) (v8 := .slice A6 1 c6) (H18.get 2 rfl)) chg9_
    exact bodyPost_ret (results_cc rfl _ _ _ _ 95 27 _ _ (0, 0) (0, 0) _ _ rfl (H19.get 3 rfl) Try.underlying95 rfl (by kernel_rfl) rfl (H19.get 2 rfl) Try.underlying27 rfl (by kernel_rfl)) rfl (H19.done (r := ⟨r.i, d, r.e, ofP 12 [r.x]⟩) (H19.out 0 rfl) I6.out.1 I6.out.2)
end Go.Proofs.Ytcfgjaggccnoaaa.PParseSmall
namespace Go.Proofs.Ytcfgjaggccnoaaa.PParseSmall
open Go.RowKit Go.Proofs.YtcfgjaggccnoaaaW.PrintWords Go.Proofs.YtcfgjaggccnoaaaW.PrintLast Go.Proofs.YtcfgjaggccnoaaaW.PrintMore
attribute [local go_sem] max2_int min2_int max_two min_two max_three min_three max_four min_four
set_option linter.unusedVariables false
set_option linter.unusedSimpArgs false
set_option maxRecDepth 100000
set_option maxHeartbeats 4000000
theorem ki_at {l : List S91} {i e k : Int} (h0 : k ≠ 0) (h1 : k ≠ -1) : kiP l i e = k ↔ (tokP l i e).f0 = k := by
  unfold kiP tokP
  split
  · exact Iff.rfl
  · exact ⟨fun h => absurd h.symm h1, fun h => absurd h.symm h0⟩
theorem mu_le {l : List S91} {i e : Int} {s : ByteArray} (h0 : 0 ≤ i) (h1 : i ≤ l.length) : 0 ≤ muI l i e s ∧ muI l i e s ≤ l.length := by
  unfold muI
  split
  · next h => have := isP_lt h; omega
  · exact ⟨h0, h1⟩
theorem r_col {l : List S91} {A : Option Addr} {c : Nat} {i e : Int} {w : World} (hC : Kd.C k91 w A l.length l) (h0 : 0 ≤ i) (h1 : i ≤ l.length) (hl : l.length ≤ 1000000) :
    Calls Try.prog 192 #[atV A l.length c i e] w (RDone w A c l ⟨coI l i e, 0, coE l i e, coX l i e⟩) := by
  unfold coI coE coX
  cases hs : isP l (nmI l i e) (nmE l i e) ⟨#[46]⟩ with
  | true => exact r_col_yes hC h0 h1 hl hs
  | false => exact r_col_no hC h0 h1 hl hs
theorem r_atom_int {w : World} {A : Option Addr} {c : Nat} {l : List S91} {i d e : Int} (hC : Kd.C k91 w A l.length l) (h0 : 0 ≤ i) (h1 : i ≤ l.length) (hl : l.length ≤ 1000000) (hk : (tokP l i e).f0 = 3) :
    Calls Try.prog 180 #[atV A l.length c i e, .int .i64 d] w (RDone w A c l ⟨i + 1, d, e, valP 1 (tokP l i e).f2 ⟨#[]⟩⟩) := by
  have h2 : i ≤ 1000000 := by omega
  have HC := Lib.hid hC
  have HK := Lib.hid ((ki_at (k := 3) (by decide) (by decide)).2 hk)
  have q := tok_le l i e (by rw [hk]; decide)
  have HI := Lib.hid q.2
  have ht : tokP l i e = rd_T91 l i := if_pos q
  rw [ht]
  obtain ⟨ad, ha, t0, t1, t2, t3⟩ := at_T91 hC i h0 q.2
  have HT := Lib.hid t2
  have hb := Lib.hid (World.block_lt_of_cell? w _ t2)
  clear t0 t1 t2 t3 ht hk
  have hi' : i < (l.length : Int) := q.2
  obtain ⟨rfl, hi⟩ := q
  subst ha
  clear hC
  have H0 := Lib.hid (RS.start w)
  go_enter Try.func180, Try.ntmps180
  go_wp2_with (first
    | ((with_reducible refine gate_dst (N := 2) rfl ?_); refine box_event ?hg (N := 2) ?hd (cs := #[.slice (some ad) l.length c, .int .i64 i, .int .i64 0]) (t := 95) ?hr ?_; (case hd => rfl); (case hg => rfl); (case hr => first | (go_simp; done) | (go_simp; rfl)); intro g2 hg_ w1 hb_ hl_; have H1 := Lib.hid (H0.out.box hb_ hl_ (Nat.le_of_eq hg_.symm)); clear hb_ hl_ hg_ H0; simp only [Act.put, sa_, sz_, ss_])
    | ((with_reducible refine gate_dst (N := 4) rfl ?_); refine box_event ?hg (N := 4) ?hd (cs := #[.slice none 0 0, .int .i64 0, .int .i64 0]) (t := 95) ?hr ?_; (case hd => rfl); (case hg => rfl); (case hr => first | (go_simp; done) | (go_simp; rfl)); intro g4 hg_ w2 hb_ hl_; have H2 := Lib.hid (H1.out.box hb_ hl_ (Nat.le_of_eq hg_.symm)); clear hb_ hl_ hg_ H1; simp only [Act.put, sa_, sz_, ss_])
    | ((with_reducible refine gate_dst (N := 5) rfl ?_); refine box_event ?hg (N := 5) ?hd (cs := #[.int .i64 0, .string (⟨#[]⟩ : ByteArray), .string (⟨#[]⟩ : ByteArray), .int .i64 0, .int .i64 0, .int .i64 0, .int .i64 0, .string (⟨#[]⟩ : ByteArray), .slice none 0 0]) (t := 27) ?hr ?_; (case hd => rfl); (case hg => rfl); (case hr => first | (go_simp; done) | (go_simp; rfl)); intro g5 hg_ w3 hb_ hl_; have H3 := Lib.hid (H2.out.box hb_ hl_ (Nat.le_of_eq hg_.symm)); clear hb_ hl_ hg_ H2; simp only [Act.put, sa_, sz_, ss_]; obtain ⟨lc42_0, lc42_1, lc42_2, lf42_0, lf42_1, lf42_2⟩ := bw3_ (H3.out.get 2 rfl))
    | ((with_reducible refine gate_callee (f := 94) rfl ?_); refine goesL_ (some 9) rfl rfl Try.func94 (by kernel_rfl) rfl #[atV (some ad) l.length c i 0] rfl (by (try simp only [List.map_toArray, List.map_cons, List.map_nil]); first | done | rfl) ?_; refine (r_kind (H3.out.C HC.out) h0 HK.out).mono ?_; rintro r' w4 ⟨rfl, b4⟩; refine ⟨_, rfl, ?_⟩; simp only [Act.put, sa_, sz_, ss_]; have H4 := Lib.hid (H3.out.below b4); clear b4 H3; obtain ⟨lc1_0, lc1_1, lc1_2, lf1_0, lf1_1, lf1_2⟩ := bw3_ (H4.out.get 2 rfl)))
  have HT2 := Lib.hid ((H4.out.bl.cell (p := ⟨(ad.add (i.toNat * 4)).block, (ad.add (i.toNat * 4)).off + 2, none⟩) hb.out).trans HT.out)
  refine startX_ (n := 13) (S := fun w' => w'.heap[g2]? = some (.cells (at3 (some ad) l.length c i 0) 95 (0, 0)) ∧ w'.cell? ⟨(ad.add (i.toNat * 4)).block, (ad.add (i.toNat * 4)).off + 2, none⟩ = some (.int .i64 (rd_T91 l i).f2)) (ds := [12]) #[false, false, false, false, false, false, false, false, false, false, false, false, false] (by kernel_rfl) rfl rfl (H4.out) (fun w' h => ⟨h.get 2 rfl, (h.bl.cell (p := ⟨(ad.add (i.toNat * 4)).block, (ad.add (i.toNat * 4)).off + 2, none⟩) hb.out).trans HT.out⟩) (fun w12 h_ hHeld => ?_)
  have H12 := Lib.hid h_; clear h_ H4
  refine take_ (i := 0) (N := some 11) (v := ?_) (a' := ?_) #[true, false, false, false, false, false, false, false, false, false, false, false, false] rfl rfl (by kernel_rfl) (fun _ _ _ h => h) (Or.inl ⟨by rfl, ?_⟩) hHeld ?_ ?_; rotate_left
  · intro w' hS; obtain ⟨hg, ht⟩ := hS; obtain ⟨s0, s1, s2, f0, f1, f2⟩ := bw3_ hg; go_simp; (with_reducible rfl)
  rotate_left
  · simp only [Act.put, sa_, sz_, ss_, i64_w, i32_w]
    rfl
  refine take_ (i := 2) (N := some 13) (v := ?_) (a' := ?_) #[true, false, true, false, false, false, false, false, false, false, false, false, false] rfl rfl (by kernel_rfl) (fun _ _ _ h => h) (Or.inl ⟨by rfl, ?_⟩) hHeld ?_ ?_; rotate_left
  · intro w' hS; go_simp; (with_reducible rfl)
  rotate_left
  · simp only [Act.put, sa_, sz_, ss_, i64_w, i32_w]
    rfl
  refine take_ (i := 3) (N := some 14) (v := ?_) (a' := ?_) #[true, false, true, true, false, false, false, false, false, false, false, false, false] rfl rfl (by kernel_rfl) (fun _ _ _ h => h) (Or.inl ⟨by rfl, ?_⟩) hHeld ?_ ?_; rotate_left
  · intro w' hS; obtain ⟨hg, ht⟩ := hS; obtain ⟨s0, s1, s2, f0, f1, f2⟩ := bw3_ hg; go_simp; (with_reducible rfl)
  rotate_left
  · simp only [Act.put, sa_, sz_, ss_, i64_w, i32_w]
    rfl
  refine take_ (i := 4) (N := some 15) (v := ?_) (a' := ?_) #[true, false, true, true, true, false, false, false, false, false, false, false, false] rfl rfl (by kernel_rfl) (fun _ _ _ h => h) (Or.inl ⟨by rfl, ?_⟩) hHeld ?_ ?_; rotate_left
  · intro w' hS; go_simp; (with_reducible rfl)
  rotate_left
  · simp only [Act.put, sa_, sz_, ss_, i64_w, i32_w]
    rfl
  refine take_ (i := 5) (N := some 16) (v := ?_) (a' := ?_) #[true, false, true, true, true, true, false, false, false, false, false, false, false] rfl rfl (by kernel_rfl) (fun _ _ _ h => h) (Or.inl ⟨by rfl, ?_⟩) hHeld ?_ ?_; rotate_left
  · intro w' hS; obtain ⟨hg, ht⟩ := hS; obtain ⟨s0, s1, s2, f0, f1, f2⟩ := bw3_ hg; go_simp; (with_reducible rfl)
  rotate_left
  · simp only [Act.put, sa_, sz_, ss_, i64_w, i32_w]
    rfl
  refine take_ (i := 6) (N := some 17) (v := ?_) (a' := ?_) #[true, false, true, true, true, true, true, false, false, false, false, false, false] rfl rfl (by kernel_rfl) (fun _ _ _ h => h) (Or.inl ⟨by rfl, ?_⟩) hHeld ?_ ?_; rotate_left
  · intro w' hS; go_simp; (with_reducible rfl)
  rotate_left
  · simp only [Act.put, sa_, sz_, ss_, i64_w, i32_w]
    rfl
  refine take_ (i := 7) (N := some 18) (v := ?_) (a' := ?_) #[true, false, true, true, true, true, true, true, false, false, false, false, false] rfl rfl (by kernel_rfl) (fun _ _ _ h => h) (Or.inl ⟨by rfl, ?_⟩) hHeld ?_ ?_; rotate_left
  · intro w' hS; go_simp; (with_reducible rfl)
  rotate_left
  · simp only [Act.put, sa_, sz_, ss_, i64_w, i32_w]
    rfl
  refine take_ (i := 8) (N := some 19) (v := ?_) (a' := ?_) #[true, false, true, true, true, true, true, true, true, false, false, false, false] rfl rfl (by kernel_rfl) (fun _ _ _ h => h) (Or.inl ⟨by rfl, ?_⟩) hHeld ?_ ?_; rotate_left
  · intro w' hS; obtain ⟨hg, ht⟩ := hS; obtain ⟨s0, s1, s2, f0, f1, f2⟩ := bw3_ hg; go_simp; (with_reducible rfl)
  rotate_left
  · simp only [Act.put, sa_, sz_, ss_, i64_w, i32_w]
    rfl
  refine take_ (i := 9) (N := some 20) (v := ?_) (a' := ?_) #[true, false, true, true, true, true, true, true, true, true, false, false, false] rfl rfl (by kernel_rfl) (fun _ _ _ h => h) (Or.inl ⟨by rfl, ?_⟩) hHeld ?_ ?_; rotate_left
  · intro w' hS; go_simp; (with_reducible rfl)
  rotate_left
  · simp only [Act.put, sa_, sz_, ss_, i64_w, i32_w]
    rfl
  refine take_ (i := 10) (N := some 21) (v := ?_) (a' := ?_) #[true, false, true, true, true, true, true, true, true, true, true, false, false] rfl rfl (by kernel_rfl) (fun _ _ _ h => h) (Or.inl ⟨by rfl, ?_⟩) hHeld ?_ ?_; rotate_left
  · intro w' hS; go_simp; (with_reducible rfl)
  rotate_left
  · simp only [Act.put, sa_, sz_, ss_, i64_w, i32_w]
    rfl
  refine one_ (i := 1) (N := some 12) #[true, true, true, true, true, true, true, true, true, true, true, false, false] rfl rfl (by kernel_rfl) (by decide) (fun K hK => ?_); refine goes_ Try.func92 (by kernel_rfl) rfl #[atV (some ad) l.length c i 0] (by rfl) rfl rfl (by (try simp only [List.map_toArray, List.map_cons, List.map_nil]); first | done | rfl) ?_; refine (r_step (some ad) l.length c i 0 w12 h0 h2).mono ?_; rintro e' w13 ⟨rfl, b13⟩; refine ⟨_, rfl, ?_⟩; have H13 := Lib.hid (H12.out.below b13); refine hK.out _ _ (⟨blk_below hHeld.1 b13, (b13.cell (p := ⟨(ad.add (i.toNat * 4)).block, (ad.add (i.toNat * 4)).off + 2, none⟩) (World.block_lt_of_cell? _ _ hHeld.2)).trans hHeld.2⟩) (fun hHeld => ?_); clear hK K; refine norm_ (a' := ?_) ?_ ?_; rotate_left
  · show Act.put _ (some 12) _ = _
    simp only [Act.put, sa_, sz_, ss_, i64_w, i32_w, atV]; rfl
  clear b13; obtain ⟨lc2_0, lc2_1, lc2_2, lf2_0, lf2_1, lf2_2⟩ := bw3_ (H13.out.get 1 rfl); have nn31 := H13.out.ne 1 2 rfl rfl (by decide); have nm31 := nn31.symm; have nn32 := H13.out.ne 1 0 rfl rfl (by decide); have nm32 := nn32.symm
  refine one_ (i := 11) (N := none) #[true, true, true, true, true, true, true, true, true, true, true, true, false] rfl rfl (by kernel_rfl) (by decide) (fun K hK => ?_); refine skip_ (w1 := ?_) (by rfl) rfl ?_ ?_; rotate_left
  · go_simp
    rfl
  refine hK.out _ _ (⟨chg3_.blk hHeld.1 (H13.out.ne 2 1 rfl rfl (by decide)), cell_chg hHeld.2 chg3_ (by have := hb.out; have := H13.out.lo _ (List.mem_of_getElem? (i := 1) rfl); show (ad.add (i.toNat * 4)).block ≠ g4; simp only at this; omega)⟩) (fun hHeld2 => ?_); clear hK K
  obtain ⟨lc3_0, lc3_1, lc3_2, lc3_3, lc3_4, lc3_5, lc3_6, lc3_7, lc3_8, lf3_0, lf3_1, lf3_2, lf3_3, lf3_4, lf3_5, lf3_6, lf3_7, lf3_8⟩ := bw9_ (H13.out.get 0 rfl)
  refine last_ (i := 12) (N := none) #[true, true, true, true, true, true, true, true, true, true, true, true, true] rfl rfl (by kernel_rfl) (by decide) (fun K hK => ?_); refine skip_ (w1 := ?_) (by rfl) rfl ?_ ?_; rotate_left
  · go_simp
    rfl
  refine hK.out _ _ ?_; clear hK K; refine done_ (by kernel_rfl) ?_
  clear hHeld hHeld2
  try go_wp2
  have H15 := ((H13.out.put 1 rfl (put3_ (v0 := .slice (some ad) l.length c) (v1 := .int .i64 (i + 1)) (v2 := .int .i64 (0)) (H13.out.get 1 rfl)) chg3_).put 0 rfl (put9_ (v0 := .int .i64 16) (v1 := .string ⟨#[]⟩) (v2 := .string ⟨#[]⟩) (v3 := .int .i64 0) (v4 := .int .i64 0) (v5 := .int .i64 1) (v6 := .int .i64 (rd_T91 l i).f2) (v7 := .string ⟨#[]⟩) (v8 := .slice none 0 0) ((H13.out.put 1 rfl (put3_ (v0 := .slice (some ad) l.length c) (v1 := .int .i64 (i + 1)) (v2 := .int .i64 (0)) (H13.out.get 1 rfl)) chg3_).get 0 rfl)) chg9_)
  exact bodyPost_ret (results_cc rfl _ _ _ _ 95 27 _ _ (0, 0) (0, 0) _ _ rfl (H15.get 1 rfl) Try.underlying95 rfl (by kernel_rfl) rfl (H15.get 0 rfl) Try.underlying27 rfl (by kernel_rfl)) rfl (H15.done (r := ⟨i + 1, d, 0, valP 1 (rd_T91 l i).f2 ⟨#[]⟩⟩) (tr_leaf rfl) (by show (0 : Int) ≤ i + 1; omega) (by show i + 1 ≤ (l.length : Int); have := HI.out; omega))
theorem r_atom_txt {w : World} {A : Option Addr} {c : Nat} {l : List S91} {i d e : Int} (hC : Kd.C k91 w A l.length l) (h0 : 0 ≤ i) (h1 : i ≤ l.length) (hl : l.length ≤ 1000000) (hk : (tokP l i e).f0 = 4) :
    Calls Try.prog 180 #[atV A l.length c i e, .int .i64 d] w (RDone w A c l ⟨i + 1, d, e, valP 2 0 (tokP l i e).f1⟩) := by
  have h2 : i ≤ 1000000 := by omega
  have HC := Lib.hid hC
  have HK := Lib.hid ((ki_at (k := 4) (by decide) (by decide)).2 hk)
  have q := tok_le l i e (by rw [hk]; decide)
  have HI := Lib.hid q.2
  have ht : tokP l i e = rd_T91 l i := if_pos q
  rw [ht]
  obtain ⟨ad, ha, t0, t1, t2, t3⟩ := at_T91 hC i h0 q.2
  have HT := Lib.hid t1
  have hb := Lib.hid (World.block_lt_of_cell? w _ t1)
  clear t0 t1 t2 t3 ht hk
  have hi' : i < (l.length : Int) := q.2
  obtain ⟨rfl, hi⟩ := q
  subst ha
  clear hC
  have H0 := Lib.hid (RS.start w)
  go_enter Try.func180, Try.ntmps180
  go_wp2_with (first
    | ((with_reducible refine gate_dst (N := 2) rfl ?_); refine box_event ?hg (N := 2) ?hd (cs := #[.slice (some ad) l.length c, .int .i64 i, .int .i64 0]) (t := 95) ?hr ?_; (case hd => rfl); (case hg => rfl); (case hr => first | (go_simp; done) | (go_simp; rfl)); intro g2 hg_ w1 hb_ hl_; have H1 := Lib.hid (H0.out.box hb_ hl_ (Nat.le_of_eq hg_.symm)); clear hb_ hl_ hg_ H0; simp only [Act.put, sa_, sz_, ss_])
    | ((with_reducible refine gate_dst (N := 4) rfl ?_); refine box_event ?hg (N := 4) ?hd (cs := #[.slice none 0 0, .int .i64 0, .int .i64 0]) (t := 95) ?hr ?_; (case hd => rfl); (case hg => rfl); (case hr => first | (go_simp; done) | (go_simp; rfl)); intro g4 hg_ w2 hb_ hl_; have H2 := Lib.hid (H1.out.box hb_ hl_ (Nat.le_of_eq hg_.symm)); clear hb_ hl_ hg_ H1; simp only [Act.put, sa_, sz_, ss_])
    | ((with_reducible refine gate_dst (N := 5) rfl ?_); refine box_event ?hg (N := 5) ?hd (cs := #[.int .i64 0, .string (⟨#[]⟩ : ByteArray), .string (⟨#[]⟩ : ByteArray), .int .i64 0, .int .i64 0, .int .i64 0, .int .i64 0, .string (⟨#[]⟩ : ByteArray), .slice none 0 0]) (t := 27) ?hr ?_; (case hd => rfl); (case hg => rfl); (case hr => first | (go_simp; done) | (go_simp; rfl)); intro g5 hg_ w3 hb_ hl_; have H3 := Lib.hid (H2.out.box hb_ hl_ (Nat.le_of_eq hg_.symm)); clear hb_ hl_ hg_ H2; simp only [Act.put, sa_, sz_, ss_]; obtain ⟨lc43_0, lc43_1, lc43_2, lf43_0, lf43_1, lf43_2⟩ := bw3_ (H3.out.get 2 rfl))
    | ((with_reducible refine gate_callee (f := 94) rfl ?_); refine goesL_ (some 9) rfl rfl Try.func94 (by kernel_rfl) rfl #[atV (some ad) l.length c i 0] rfl (by (try simp only [List.map_toArray, List.map_cons, List.map_nil]); first | done | rfl) ?_; refine (r_kind (H3.out.C HC.out) h0 HK.out).mono ?_; rintro r' w4 ⟨rfl, b4⟩; refine ⟨_, rfl, ?_⟩; simp only [Act.put, sa_, sz_, ss_]; have H4 := Lib.hid (H3.out.below b4); clear b4 H3; obtain ⟨lc4_0, lc4_1, lc4_2, lf4_0, lf4_1, lf4_2⟩ := bw3_ (H4.out.get 2 rfl))
    | ((with_reducible refine gate_callee (f := 94) rfl ?_); refine goesL_ (some 23) rfl rfl Try.func94 (by kernel_rfl) rfl #[atV (some ad) l.length c i 0] rfl (by (try simp only [List.map_toArray, List.map_cons, List.map_nil]); first | done | rfl) ?_; refine (r_kind (H4.out.C HC.out) h0 HK.out).mono ?_; rintro r' w5 ⟨rfl, b5⟩; refine ⟨_, rfl, ?_⟩; simp only [Act.put, sa_, sz_, ss_]; have H5 := Lib.hid (H4.out.below b5); clear b5 H4; obtain ⟨lc5_0, lc5_1, lc5_2, lf5_0, lf5_1, lf5_2⟩ := bw3_ (H5.out.get 2 rfl)))
  have HT2 := Lib.hid ((H5.out.bl.cell (p := ⟨(ad.add (i.toNat * 4)).block, (ad.add (i.toNat * 4)).off + 1, none⟩) hb.out).trans HT.out)
  refine startX_ (n := 13) (S := fun w' => w'.heap[g2]? = some (.cells (at3 (some ad) l.length c i 0) 95 (0, 0)) ∧ w'.cell? ⟨(ad.add (i.toNat * 4)).block, (ad.add (i.toNat * 4)).off + 1, none⟩ = some (.string (rd_T91 l i).f1)) (ds := [12]) #[false, false, false, false, false, false, false, false, false, false, false, false, false] (by kernel_rfl) rfl rfl (H5.out) (fun w' h => ⟨h.get 2 rfl, (h.bl.cell (p := ⟨(ad.add (i.toNat * 4)).block, (ad.add (i.toNat * 4)).off + 1, none⟩) hb.out).trans HT.out⟩) (fun w12 h_ hHeld => ?_)
  have H12 := Lib.hid h_; clear h_ H5
  refine take_ (i := 0) (N := some 25) (v := ?_) (a' := ?_) #[true, false, false, false, false, false, false, false, false, false, false, false, false] rfl rfl (by kernel_rfl) (fun _ _ _ h => h) (Or.inl ⟨by rfl, ?_⟩) hHeld ?_ ?_; rotate_left
  · intro w' hS; obtain ⟨hg, ht⟩ := hS; obtain ⟨s0, s1, s2, f0, f1, f2⟩ := bw3_ hg; go_simp; (with_reducible rfl)
  rotate_left
  · simp only [Act.put, sa_, sz_, ss_, i64_w, i32_w]
    rfl
  refine take_ (i := 2) (N := some 27) (v := ?_) (a' := ?_) #[true, false, true, false, false, false, false, false, false, false, false, false, false] rfl rfl (by kernel_rfl) (fun _ _ _ h => h) (Or.inl ⟨by rfl, ?_⟩) hHeld ?_ ?_; rotate_left
  · intro w' hS; go_simp; (with_reducible rfl)
  rotate_left
  · simp only [Act.put, sa_, sz_, ss_, i64_w, i32_w]
    rfl
  refine take_ (i := 3) (N := some 28) (v := ?_) (a' := ?_) #[true, false, true, true, false, false, false, false, false, false, false, false, false] rfl rfl (by kernel_rfl) (fun _ _ _ h => h) (Or.inl ⟨by rfl, ?_⟩) hHeld ?_ ?_; rotate_left
  · intro w' hS; obtain ⟨hg, ht⟩ := hS; obtain ⟨s0, s1, s2, f0, f1, f2⟩ := bw3_ hg; go_simp; (with_reducible rfl)
  rotate_left
  · simp only [Act.put, sa_, sz_, ss_, i64_w, i32_w]
    rfl
  refine take_ (i := 4) (N := some 29) (v := ?_) (a' := ?_) #[true, false, true, true, true, false, false, false, false, false, false, false, false] rfl rfl (by kernel_rfl) (fun _ _ _ h => h) (Or.inl ⟨by rfl, ?_⟩) hHeld ?_ ?_; rotate_left
  · intro w' hS; go_simp; (with_reducible rfl)
  rotate_left
  · simp only [Act.put, sa_, sz_, ss_, i64_w, i32_w]
    rfl
  refine take_ (i := 5) (N := some 30) (v := ?_) (a' := ?_) #[true, false, true, true, true, true, false, false, false, false, false, false, false] rfl rfl (by kernel_rfl) (fun _ _ _ h => h) (Or.inl ⟨by rfl, ?_⟩) hHeld ?_ ?_; rotate_left
  · intro w' hS; obtain ⟨hg, ht⟩ := hS; obtain ⟨s0, s1, s2, f0, f1, f2⟩ := bw3_ hg; go_simp; (with_reducible rfl)
  rotate_left
  · simp only [Act.put, sa_, sz_, ss_, i64_w, i32_w]
    rfl
  refine take_ (i := 6) (N := some 31) (v := ?_) (a' := ?_) #[true, false, true, true, true, true, true, false, false, false, false, false, false] rfl rfl (by kernel_rfl) (fun _ _ _ h => h) (Or.inl ⟨by rfl, ?_⟩) hHeld ?_ ?_; rotate_left
  · intro w' hS; go_simp; (with_reducible rfl)
  rotate_left
  · simp only [Act.put, sa_, sz_, ss_, i64_w, i32_w]
    rfl
  refine take_ (i := 7) (N := some 32) (v := ?_) (a' := ?_) #[true, false, true, true, true, true, true, true, false, false, false, false, false] rfl rfl (by kernel_rfl) (fun _ _ _ h => h) (Or.inl ⟨by rfl, ?_⟩) hHeld ?_ ?_; rotate_left
  · intro w' hS; go_simp; (with_reducible rfl)
  rotate_left
  · simp only [Act.put, sa_, sz_, ss_, i64_w, i32_w]
    rfl
  refine take_ (i := 8) (N := some 33) (v := ?_) (a' := ?_) #[true, false, true, true, true, true, true, true, true, false, false, false, false] rfl rfl (by kernel_rfl) (fun _ _ _ h => h) (Or.inl ⟨by rfl, ?_⟩) hHeld ?_ ?_; rotate_left
  · intro w' hS; obtain ⟨hg, ht⟩ := hS; obtain ⟨s0, s1, s2, f0, f1, f2⟩ := bw3_ hg; go_simp; (with_reducible rfl)
  rotate_left
  · simp only [Act.put, sa_, sz_, ss_, i64_w, i32_w]
    rfl
  refine take_ (i := 9) (N := some 34) (v := ?_) (a' := ?_) #[true, false, true, true, true, true, true, true, true, true, false, false, false] rfl rfl (by kernel_rfl) (fun _ _ _ h => h) (Or.inl ⟨by rfl, ?_⟩) hHeld ?_ ?_; rotate_left
  · intro w' hS; go_simp; (with_reducible rfl)
  rotate_left
  · simp only [Act.put, sa_, sz_, ss_, i64_w, i32_w]
    rfl
  refine take_ (i := 10) (N := some 35) (v := ?_) (a' := ?_) #[true, false, true, true, true, true, true, true, true, true, true, false, false] rfl rfl (by kernel_rfl) (fun _ _ _ h => h) (Or.inl ⟨by rfl, ?_⟩) hHeld ?_ ?_; rotate_left
  · intro w' hS; go_simp; (with_reducible rfl)
  rotate_left
  · simp only [Act.put, sa_, sz_, ss_, i64_w, i32_w]
    rfl
  refine one_ (i := 1) (N := some 26) #[true, true, true, true, true, true, true, true, true, true, true, false, false] rfl rfl (by kernel_rfl) (by decide) (fun K hK => ?_); refine goes_ Try.func92 (by kernel_rfl) rfl #[atV (some ad) l.length c i 0] (by rfl) rfl rfl (by (try simp only [List.map_toArray, List.map_cons, List.map_nil]); first | done | rfl) ?_; refine (r_step (some ad) l.length c i 0 w12 h0 h2).mono ?_; rintro e' w13 ⟨rfl, b13⟩; refine ⟨_, rfl, ?_⟩; have H13 := Lib.hid (H12.out.below b13); refine hK.out _ _ (⟨blk_below hHeld.1 b13, (b13.cell (p := ⟨(ad.add (i.toNat * 4)).block, (ad.add (i.toNat * 4)).off + 1, none⟩) (World.block_lt_of_cell? _ _ hHeld.2)).trans hHeld.2⟩) (fun hHeld => ?_); clear hK K; refine norm_ (a' := ?_) ?_ ?_; rotate_left
  · show Act.put _ (some 26) _ = _
    simp only [Act.put, sa_, sz_, ss_, i64_w, i32_w, atV]; rfl
  clear b13; obtain ⟨lc6_0, lc6_1, lc6_2, lf6_0, lf6_1, lf6_2⟩ := bw3_ (H13.out.get 1 rfl); have nn33 := H13.out.ne 1 2 rfl rfl (by decide); have nm33 := nn33.symm; have nn34 := H13.out.ne 1 0 rfl rfl (by decide); have nm34 := nn34.symm
  refine one_ (i := 11) (N := none) #[true, true, true, true, true, true, true, true, true, true, true, true, false] rfl rfl (by kernel_rfl) (by decide) (fun K hK => ?_); refine skip_ (w1 := ?_) (by rfl) rfl ?_ ?_; rotate_left
  · go_simp
    rfl
  refine hK.out _ _ (⟨chg3_.blk hHeld.1 (H13.out.ne 2 1 rfl rfl (by decide)), cell_chg hHeld.2 chg3_ (by have := hb.out; have := H13.out.lo _ (List.mem_of_getElem? (i := 1) rfl); show (ad.add (i.toNat * 4)).block ≠ g4; simp only at this; omega)⟩) (fun hHeld2 => ?_); clear hK K
  obtain ⟨lc7_0, lc7_1, lc7_2, lc7_3, lc7_4, lc7_5, lc7_6, lc7_7, lc7_8, lf7_0, lf7_1, lf7_2, lf7_3, lf7_4, lf7_5, lf7_6, lf7_7, lf7_8⟩ := bw9_ (H13.out.get 0 rfl)
  refine last_ (i := 12) (N := none) #[true, true, true, true, true, true, true, true, true, true, true, true, true] rfl rfl (by kernel_rfl) (by decide) (fun K hK => ?_); refine skip_ (w1 := ?_) (by rfl) rfl ?_ ?_; rotate_left
  · go_simp
    rfl
  refine hK.out _ _ ?_; clear hK K; refine done_ (by kernel_rfl) ?_
  clear hHeld hHeld2
  try go_wp2
  have H15 := ((H13.out.put 1 rfl (put3_ (v0 := .slice (some ad) l.length c) (v1 := .int .i64 (i + 1)) (v2 := .int .i64 (0)) (H13.out.get 1 rfl)) chg3_).put 0 rfl (put9_ (v0 := .int .i64 16) (v1 := .string ⟨#[]⟩) (v2 := .string ⟨#[]⟩) (v3 := .int .i64 0) (v4 := .int .i64 0) (v5 := .int .i64 2) (v6 := .int .i64 0) (v7 := .string (rd_T91 l i).f1) (v8 := .slice none 0 0) ((H13.out.put 1 rfl (put3_ (v0 := .slice (some ad) l.length c) (v1 := .int .i64 (i + 1)) (v2 := .int .i64 (0)) (H13.out.get 1 rfl)) chg3_).get 0 rfl)) chg9_)
  exact bodyPost_ret (results_cc rfl _ _ _ _ 95 27 _ _ (0, 0) (0, 0) _ _ rfl (H15.get 1 rfl) Try.underlying95 rfl (by kernel_rfl) rfl (H15.get 0 rfl) Try.underlying27 rfl (by kernel_rfl)) rfl (H15.done (r := ⟨i + 1, d, 0, valP 2 0 (rd_T91 l i).f1⟩) (tr_leaf rfl) (by show (0 : Int) ≤ i + 1; omega) (by show i + 1 ≤ (l.length : Int); have := HI.out; omega))
theorem r_atom_null {w : World} {A : Option Addr} {c : Nat} {l : List S91} {i d e : Int} (hC : Kd.C k91 w A l.length l) (h0 : 0 ≤ i) (h1 : i ≤ l.length) (hl : l.length ≤ 1000000) (hk : (tokP l i e).f0 ≠ 3 ∧ (tokP l i e).f0 ≠ 4) (hs : isP l i e wNull = true) :
    Calls Try.prog 180 #[atV A l.length c i e, .int .i64 d] w (RDone w A c l ⟨i + 1, d, e, valP 0 0 ⟨#[]⟩⟩) := by
  have h2 : i ≤ 1000000 := by omega
  have HC := Lib.hid hC
  obtain ⟨kk, hkk⟩ : ∃ kk, kiP l i e = kk := ⟨_, rfl⟩
  have k3 : (kk == 3) = false := beq_eq_false_iff_ne.2 fun q => hk.1 ((ki_at (by decide) (by decide)).1 (hkk.trans q))
  have k4 : (kk == 4) = false := beq_eq_false_iff_ne.2 fun q => hk.2 ((ki_at (by decide) (by decide)).1 (hkk.trans q))
  have HK := Lib.hid hkk; have HS := Lib.hid hs
  have HL := Lib.hid (isP_lt hs)
  clear hk hkk hs
  clear hC
  have H0 := Lib.hid (RS.start w)
  go_enter Try.func180, Try.ntmps180
  go_wp2_with (first
    | ((with_reducible refine gate_dst (N := 2) rfl ?_); refine box_event ?hg (N := 2) ?hd (cs := #[.slice A l.length c, .int .i64 i, .int .i64 e]) (t := 95) ?hr ?_; (case hd => rfl); (case hg => rfl); (case hr => first | (go_simp; done) | (go_simp; rfl)); intro g2 hg_ w1 hb_ hl_; have H1 := Lib.hid (H0.out.box hb_ hl_ (Nat.le_of_eq hg_.symm)); clear hb_ hl_ hg_ H0; simp only [Act.put, sa_, sz_, ss_])
    | ((with_reducible refine gate_dst (N := 4) rfl ?_); refine box_event ?hg (N := 4) ?hd (cs := #[.slice none 0 0, .int .i64 0, .int .i64 0]) (t := 95) ?hr ?_; (case hd => rfl); (case hg => rfl); (case hr => first | (go_simp; done) | (go_simp; rfl)); intro g4 hg_ w2 hb_ hl_; have H2 := Lib.hid (H1.out.box hb_ hl_ (Nat.le_of_eq hg_.symm)); clear hb_ hl_ hg_ H1; simp only [Act.put, sa_, sz_, ss_])
    | ((with_reducible refine gate_dst (N := 5) rfl ?_); refine box_event ?hg (N := 5) ?hd (cs := #[.int .i64 0, .string (⟨#[]⟩ : ByteArray), .string (⟨#[]⟩ : ByteArray), .int .i64 0, .int .i64 0, .int .i64 0, .int .i64 0, .string (⟨#[]⟩ : ByteArray), .slice none 0 0]) (t := 27) ?hr ?_; (case hd => rfl); (case hg => rfl); (case hr => first | (go_simp; done) | (go_simp; rfl)); intro g5 hg_ w3 hb_ hl_; have H3 := Lib.hid (H2.out.box hb_ hl_ (Nat.le_of_eq hg_.symm)); clear hb_ hl_ hg_ H2; simp only [Act.put, sa_, sz_, ss_]; obtain ⟨lc44_0, lc44_1, lc44_2, lf44_0, lf44_1, lf44_2⟩ := bw3_ (H3.out.get 2 rfl))
    | ((with_reducible refine gate_callee (f := 94) rfl ?_); refine goesL_ (some 9) rfl rfl Try.func94 (by kernel_rfl) rfl #[atV A l.length c i e] rfl (by (try simp only [List.map_toArray, List.map_cons, List.map_nil]); first | done | rfl) ?_; refine (r_kind (H3.out.C HC.out) h0 HK.out).mono ?_; rintro r' w4 ⟨rfl, b4⟩; refine ⟨_, rfl, ?_⟩; simp only [Act.put, sa_, sz_, ss_]; have H4 := Lib.hid (H3.out.below b4); clear b4 H3; obtain ⟨lc8_0, lc8_1, lc8_2, lf8_0, lf8_1, lf8_2⟩ := bw3_ (H4.out.get 2 rfl))
    | ((with_reducible refine gate_callee (f := 94) rfl ?_); refine goesL_ (some 23) rfl rfl Try.func94 (by kernel_rfl) rfl #[atV A l.length c i e] rfl (by (try simp only [List.map_toArray, List.map_cons, List.map_nil]); first | done | rfl) ?_; refine (r_kind (H4.out.C HC.out) h0 HK.out).mono ?_; rintro r' w5 ⟨rfl, b5⟩; refine ⟨_, rfl, ?_⟩; simp only [Act.put, sa_, sz_, ss_]; have H5 := Lib.hid (H4.out.below b5); clear b5 H4; obtain ⟨lc9_0, lc9_1, lc9_2, lf9_0, lf9_1, lf9_2⟩ := bw3_ (H5.out.get 2 rfl))
    | ((with_reducible refine gate_callee (f := 91) rfl ?_); refine goesL_ (some 37) rfl rfl Try.func91 (by kernel_rfl) rfl #[atV A l.length c i e, .string wNull] rfl (by (try simp only [List.map_toArray, List.map_cons, List.map_nil]); first | done | rfl) ?_; refine (r_is (H5.out.C HC.out) h0 _ HS.out).mono ?_; rintro r' w6 ⟨rfl, b6⟩; refine ⟨_, rfl, ?_⟩; simp only [Act.put, sa_, sz_, ss_]; have H6 := Lib.hid (H5.out.below b6); clear b6 H5; obtain ⟨lc10_0, lc10_1, lc10_2, lf10_0, lf10_1, lf10_2⟩ := bw3_ (H6.out.get 2 rfl))
    | (((with_reducible refine gate_callee (f := 92) rfl ?_); refine goesL_ (some 39) rfl rfl Try.func92 (by kernel_rfl) rfl #[atV A l.length c i e] rfl (by (try simp only [List.map_toArray, List.map_cons, List.map_nil]); first | done | rfl) ?_; refine (r_step A l.length c i e w6 h0 h2).mono ?_; rintro r' w7 ⟨rfl, b7⟩; refine ⟨_, rfl, ?_⟩; simp only [Act.put, sa_, sz_, ss_]; simp only [atV]; have H7 := Lib.hid (H6.out.below b7); clear b7 H6; obtain ⟨lc11_0, lc11_1, lc11_2, lc11_3, lc11_4, lc11_5, lc11_6, lc11_7, lc11_8, lf11_0, lf11_1, lf11_2, lf11_3, lf11_4, lf11_5, lf11_6, lf11_7, lf11_8⟩ := bw9_ (H7.out.get 0 rfl); obtain ⟨lc12_0, lc12_1, lc12_2, lf12_0, lf12_1, lf12_2⟩ := bw3_ (H7.out.get 1 rfl); have nn35 := H7.out.ne 0 1 rfl rfl (by decide); have nm35 := nn35.symm)))
  have H15 := ((H7.out.put 1 rfl (put3_ (v0 := .slice A l.length c) (v1 := .int .i64 (i + 1)) (v2 := .int .i64 (e)) (H7.out.get 1 rfl)) chg3_).put 0 rfl (put9_ (v0 := .int .i64 16) (v1 := .string ⟨#[]⟩) (v2 := .string ⟨#[]⟩) (v3 := .int .i64 0) (v4 := .int .i64 0) (v5 := .int .i64 0) (v6 := .int .i64 0) (v7 := .string ⟨#[]⟩) (v8 := .slice none 0 0) ((H7.out.put 1 rfl (put3_ (v0 := .slice A l.length c) (v1 := .int .i64 (i + 1)) (v2 := .int .i64 (e)) (H7.out.get 1 rfl)) chg3_).get 0 rfl)) chg9_)
  exact bodyPost_ret (results_cc rfl _ _ _ _ 95 27 _ _ (0, 0) (0, 0) _ _ rfl (H15.get 1 rfl) Try.underlying95 rfl (by kernel_rfl) rfl (H15.get 0 rfl) Try.underlying27 rfl (by kernel_rfl)) rfl (H15.done (r := ⟨i + 1, d, e, valP 0 0 ⟨#[]⟩⟩) (tr_leaf rfl) (by show (0 : Int) ≤ i + 1; omega) HL.out)
theorem r_atom_col {w : World} {A : Option Addr} {c : Nat} {l : List S91} {i d e : Int} (hC : Kd.C k91 w A l.length l) (h0 : 0 ≤ i) (h1 : i ≤ l.length) (hl : l.length ≤ 1000000) (hk : (tokP l i e).f0 ≠ 3 ∧ (tokP l i e).f0 ≠ 4) (hs : isP l i e wNull = false) (ho : isP l i e wOpen = false) :
    Calls Try.prog 180 #[atV A l.length c i e, .int .i64 d] w (RDone w A c l ⟨coI l i e, d, coE l i e, coX l i e⟩) := by
  have h2 : i ≤ 1000000 := by omega
  have HC := Lib.hid hC
  obtain ⟨kk, hkk⟩ : ∃ kk, kiP l i e = kk := ⟨_, rfl⟩
  have k3 : (kk == 3) = false := beq_eq_false_iff_ne.2 fun q => hk.1 ((ki_at (by decide) (by decide)).1 (hkk.trans q))
  have k4 : (kk == 4) = false := beq_eq_false_iff_ne.2 fun q => hk.2 ((ki_at (by decide) (by decide)).1 (hkk.trans q))
  have HK := Lib.hid hkk; have HS := Lib.hid hs
  have HO := Lib.hid ho
  clear hk hkk hs ho
  clear hC
  have H0 := Lib.hid (RS.start w)
  go_enter Try.func180, Try.ntmps180
  go_wp2_with (first
    | ((with_reducible refine gate_dst (N := 2) rfl ?_); refine box_event ?hg (N := 2) ?hd (cs := #[.slice A l.length c, .int .i64 i, .int .i64 e]) (t := 95) ?hr ?_; (case hd => rfl); (case hg => rfl); (case hr => first | (go_simp; done) | (go_simp; rfl)); intro g2 hg_ w1 hb_ hl_; have H1 := Lib.hid (H0.out.box hb_ hl_ (Nat.le_of_eq hg_.symm)); clear hb_ hl_ hg_ H0; simp only [Act.put, sa_, sz_, ss_])
    | ((with_reducible refine gate_dst (N := 4) rfl ?_); refine box_event ?hg (N := 4) ?hd (cs := #[.slice none 0 0, .int .i64 0, .int .i64 0]) (t := 95) ?hr ?_; (case hd => rfl); (case hg => rfl); (case hr => first | (go_simp; done) | (go_simp; rfl)); intro g4 hg_ w2 hb_ hl_; have H2 := Lib.hid (H1.out.box hb_ hl_ (Nat.le_of_eq hg_.symm)); clear hb_ hl_ hg_ H1; simp only [Act.put, sa_, sz_, ss_])
    | ((with_reducible refine gate_dst (N := 5) rfl ?_); refine box_event ?hg (N := 5) ?hd (cs := #[.int .i64 0, .string (⟨#[]⟩ : ByteArray), .string (⟨#[]⟩ : ByteArray), .int .i64 0, .int .i64 0, .int .i64 0, .int .i64 0, .string (⟨#[]⟩ : ByteArray), .slice none 0 0]) (t := 27) ?hr ?_; (case hd => rfl); (case hg => rfl); (case hr => first | (go_simp; done) | (go_simp; rfl)); intro g5 hg_ w3 hb_ hl_; have H3 := Lib.hid (H2.out.box hb_ hl_ (Nat.le_of_eq hg_.symm)); clear hb_ hl_ hg_ H2; simp only [Act.put, sa_, sz_, ss_]; obtain ⟨lc45_0, lc45_1, lc45_2, lf45_0, lf45_1, lf45_2⟩ := bw3_ (H3.out.get 2 rfl))
    | ((with_reducible refine gate_callee (f := 94) rfl ?_); refine goesL_ (some 9) rfl rfl Try.func94 (by kernel_rfl) rfl #[atV A l.length c i e] rfl (by (try simp only [List.map_toArray, List.map_cons, List.map_nil]); first | done | rfl) ?_; refine (r_kind (H3.out.C HC.out) h0 HK.out).mono ?_; rintro r' w4 ⟨rfl, b4⟩; refine ⟨_, rfl, ?_⟩; simp only [Act.put, sa_, sz_, ss_]; have H4 := Lib.hid (H3.out.below b4); clear b4 H3; obtain ⟨lc13_0, lc13_1, lc13_2, lf13_0, lf13_1, lf13_2⟩ := bw3_ (H4.out.get 2 rfl))
    | ((with_reducible refine gate_callee (f := 94) rfl ?_); refine goesL_ (some 23) rfl rfl Try.func94 (by kernel_rfl) rfl #[atV A l.length c i e] rfl (by (try simp only [List.map_toArray, List.map_cons, List.map_nil]); first | done | rfl) ?_; refine (r_kind (H4.out.C HC.out) h0 HK.out).mono ?_; rintro r' w5 ⟨rfl, b5⟩; refine ⟨_, rfl, ?_⟩; simp only [Act.put, sa_, sz_, ss_]; have H5 := Lib.hid (H4.out.below b5); clear b5 H4; obtain ⟨lc14_0, lc14_1, lc14_2, lf14_0, lf14_1, lf14_2⟩ := bw3_ (H5.out.get 2 rfl))
    | ((with_reducible refine gate_callee (f := 91) rfl ?_); refine goesL_ (some 37) rfl rfl Try.func91 (by kernel_rfl) rfl #[atV A l.length c i e, .string wNull] rfl (by (try simp only [List.map_toArray, List.map_cons, List.map_nil]); first | done | rfl) ?_; refine (r_is (H5.out.C HC.out) h0 _ HS.out).mono ?_; rintro r' w6 ⟨rfl, b6⟩; refine ⟨_, rfl, ?_⟩; simp only [Act.put, sa_, sz_, ss_]; have H6 := Lib.hid (H5.out.below b6); clear b6 H5; obtain ⟨lc15_0, lc15_1, lc15_2, lf15_0, lf15_1, lf15_2⟩ := bw3_ (H6.out.get 2 rfl))
    | ((with_reducible refine gate_callee (f := 91) rfl ?_); refine goesL_ (some 42) rfl rfl Try.func91 (by kernel_rfl) rfl #[atV A l.length c i e, .string wOpen] rfl (by (try simp only [List.map_toArray, List.map_cons, List.map_nil]); first | done | rfl) ?_; refine (r_is (H6.out.C HC.out) h0 _ HO.out).mono ?_; rintro r' w7 ⟨rfl, b7⟩; refine ⟨_, rfl, ?_⟩; simp only [Act.put, sa_, sz_, ss_]; have H7 := Lib.hid (H6.out.below b7); clear b7 H6; obtain ⟨lc16_0, lc16_1, lc16_2, lf16_0, lf16_1, lf16_2⟩ := bw3_ (H7.out.get 2 rfl))
    | (((with_reducible refine gate_callee (f := 192) rfl ?_); refine goesL_ (some 45) rfl rfl Try.func192 (by kernel_rfl) rfl #[atV A l.length c i e] rfl (by (try simp only [List.map_toArray, List.map_cons, List.map_nil]); first | done | rfl) ?_; refine (r_col (H7.out.C HC.out) h0 h1 hl).mono ?_; rintro r' w8 ⟨vA, vc, rfl, t8, b8, i8, j8⟩; refine ⟨_, rfl, ?_⟩; simp only [Act.put, sa_, sz_, ss_]; simp only [atV, exV]; have H8 := Lib.hid (H7.out.call b8 t8); have I8 := Lib.hid (And.intro i8 j8); clear t8 b8 i8 j8 H7; obtain ⟨lc17_0, lc17_1, lc17_2, lc17_3, lc17_4, lc17_5, lc17_6, lc17_7, lc17_8, lf17_0, lf17_1, lf17_2, lf17_3, lf17_4, lf17_5, lf17_6, lf17_7, lf17_8⟩ := bw9_ (H8.out.get 0 rfl); obtain ⟨lc18_0, lc18_1, lc18_2, lf18_0, lf18_1, lf18_2⟩ := bw3_ (H8.out.get 1 rfl); have nn36 := H8.out.ne 0 1 rfl rfl (by decide); have nm36 := nn36.symm)))
  have H15 := ((H8.out.put 1 rfl (put3_ (v0 := .slice A l.length c) (v1 := .int .i64 (coI l i e)) (v2 := .int .i64 (coE l i e)) (H8.out.get 1 rfl)) chg3_).put 0 rfl (put9_ (v0 := .int .i64 (coX l i e).f0) (v1 := .string (coX l i e).f1) (v2 := .string (coX l i e).f2) (v3 := .int .i64 (coX l i e).f3) (v4 := .int .i64 (coX l i e).f4) (v5 := .int .i64 (coX l i e).f5.f0) (v6 := .int .i64 (coX l i e).f5.f1) (v7 := .string (coX l i e).f5.f2) (v8 := .slice vA (coX l i e).f6.length vc) ((H8.out.put 1 rfl (put3_ (v0 := .slice A l.length c) (v1 := .int .i64 (coI l i e)) (v2 := .int .i64 (coE l i e)) (H8.out.get 1 rfl)) chg3_).get 0 rfl)) chg9_)
  exact bodyPost_ret (results_cc rfl _ _ _ _ 95 27 _ _ (0, 0) (0, 0) _ _ rfl (H15.get 1 rfl) Try.underlying95 rfl (by kernel_rfl) rfl (H15.get 0 rfl) Try.underlying27 rfl (by kernel_rfl)) rfl (H15.done (r := ⟨coI l i e, d, coE l i e, coX l i e⟩) (H15.out 0 rfl) I8.out.1 I8.out.2)
theorem r_atom_deep {w : World} {A : Option Addr} {c : Nat} {l : List S91} {i d e : Int} (hC : Kd.C k91 w A l.length l) (h0 : 0 ≤ i) (h1 : i ≤ l.length) (hl : l.length ≤ 1000000) (hk : (tokP l i e).f0 ≠ 3 ∧ (tokP l i e).f0 ≠ 4) (hs : isP l i e wNull = false) (ho : isP l i e wOpen = true) (hd : d = 50) :
    Calls Try.prog 180 #[atV A l.length c i e, .int .i64 d] w (RDone w A c l ⟨i, d, flE e 4, zx27⟩) := by
  have h2 : i ≤ 1000000 := by omega
  have HC := Lib.hid hC
  obtain ⟨kk, hkk⟩ : ∃ kk, kiP l i e = kk := ⟨_, rfl⟩
  have k3 : (kk == 3) = false := beq_eq_false_iff_ne.2 fun q => hk.1 ((ki_at (by decide) (by decide)).1 (hkk.trans q))
  have k4 : (kk == 4) = false := beq_eq_false_iff_ne.2 fun q => hk.2 ((ki_at (by decide) (by decide)).1 (hkk.trans q))
  have HK := Lib.hid hkk; have HS := Lib.hid hs
  have HO := Lib.hid ho
  clear hk hkk hs ho
  subst hd
  clear hC
  have H0 := Lib.hid (RS.start w)
  go_enter Try.func180, Try.ntmps180
  go_wp2_with (first
    | ((with_reducible refine gate_dst (N := 2) rfl ?_); refine box_event ?hg (N := 2) ?hd (cs := #[.slice A l.length c, .int .i64 i, .int .i64 e]) (t := 95) ?hr ?_; (case hd => rfl); (case hg => rfl); (case hr => first | (go_simp; done) | (go_simp; rfl)); intro g2 hg_ w1 hb_ hl_; have H1 := Lib.hid (H0.out.box hb_ hl_ (Nat.le_of_eq hg_.symm)); clear hb_ hl_ hg_ H0; simp only [Act.put, sa_, sz_, ss_])
    | ((with_reducible refine gate_dst (N := 4) rfl ?_); refine box_event ?hg (N := 4) ?hd (cs := #[.slice none 0 0, .int .i64 0, .int .i64 0]) (t := 95) ?hr ?_; (case hd => rfl); (case hg => rfl); (case hr => first | (go_simp; done) | (go_simp; rfl)); intro g4 hg_ w2 hb_ hl_; have H2 := Lib.hid (H1.out.box hb_ hl_ (Nat.le_of_eq hg_.symm)); clear hb_ hl_ hg_ H1; simp only [Act.put, sa_, sz_, ss_])
    | ((with_reducible refine gate_dst (N := 5) rfl ?_); refine box_event ?hg (N := 5) ?hd (cs := #[.int .i64 0, .string (⟨#[]⟩ : ByteArray), .string (⟨#[]⟩ : ByteArray), .int .i64 0, .int .i64 0, .int .i64 0, .int .i64 0, .string (⟨#[]⟩ : ByteArray), .slice none 0 0]) (t := 27) ?hr ?_; (case hd => rfl); (case hg => rfl); (case hr => first | (go_simp; done) | (go_simp; rfl)); intro g5 hg_ w3 hb_ hl_; have H3 := Lib.hid (H2.out.box hb_ hl_ (Nat.le_of_eq hg_.symm)); clear hb_ hl_ hg_ H2; simp only [Act.put, sa_, sz_, ss_]; obtain ⟨lc46_0, lc46_1, lc46_2, lf46_0, lf46_1, lf46_2⟩ := bw3_ (H3.out.get 2 rfl))
    | ((with_reducible refine gate_callee (f := 94) rfl ?_); refine goesL_ (some 9) rfl rfl Try.func94 (by kernel_rfl) rfl #[atV A l.length c i e] rfl (by (try simp only [List.map_toArray, List.map_cons, List.map_nil]); first | done | rfl) ?_; refine (r_kind (H3.out.C HC.out) h0 HK.out).mono ?_; rintro r' w4 ⟨rfl, b4⟩; refine ⟨_, rfl, ?_⟩; simp only [Act.put, sa_, sz_, ss_]; have H4 := Lib.hid (H3.out.below b4); clear b4 H3; obtain ⟨lc19_0, lc19_1, lc19_2, lf19_0, lf19_1, lf19_2⟩ := bw3_ (H4.out.get 2 rfl))
    | ((with_reducible refine gate_callee (f := 94) rfl ?_); refine goesL_ (some 23) rfl rfl Try.func94 (by kernel_rfl) rfl #[atV A l.length c i e] rfl (by (try simp only [List.map_toArray, List.map_cons, List.map_nil]); first | done | rfl) ?_; refine (r_kind (H4.out.C HC.out) h0 HK.out).mono ?_; rintro r' w5 ⟨rfl, b5⟩; refine ⟨_, rfl, ?_⟩; simp only [Act.put, sa_, sz_, ss_]; have H5 := Lib.hid (H4.out.below b5); clear b5 H4; obtain ⟨lc20_0, lc20_1, lc20_2, lf20_0, lf20_1, lf20_2⟩ := bw3_ (H5.out.get 2 rfl))
    | ((with_reducible refine gate_callee (f := 91) rfl ?_); refine goesL_ (some 37) rfl rfl Try.func91 (by kernel_rfl) rfl #[atV A l.length c i e, .string wNull] rfl (by (try simp only [List.map_toArray, List.map_cons, List.map_nil]); first | done | rfl) ?_; refine (r_is (H5.out.C HC.out) h0 _ HS.out).mono ?_; rintro r' w6 ⟨rfl, b6⟩; refine ⟨_, rfl, ?_⟩; simp only [Act.put, sa_, sz_, ss_]; have H6 := Lib.hid (H5.out.below b6); clear b6 H5; obtain ⟨lc21_0, lc21_1, lc21_2, lf21_0, lf21_1, lf21_2⟩ := bw3_ (H6.out.get 2 rfl))
    | ((with_reducible refine gate_callee (f := 91) rfl ?_); refine goesL_ (some 42) rfl rfl Try.func91 (by kernel_rfl) rfl #[atV A l.length c i e, .string wOpen] rfl (by (try simp only [List.map_toArray, List.map_cons, List.map_nil]); first | done | rfl) ?_; refine (r_is (H6.out.C HC.out) h0 _ HO.out).mono ?_; rintro r' w7 ⟨rfl, b7⟩; refine ⟨_, rfl, ?_⟩; simp only [Act.put, sa_, sz_, ss_]; have H7 := Lib.hid (H6.out.below b7); clear b7 H6; obtain ⟨lc22_0, lc22_1, lc22_2, lf22_0, lf22_1, lf22_2⟩ := bw3_ (H7.out.get 2 rfl))
    | (((with_reducible refine gate_callee (f := 95) rfl ?_); refine goesL_ (some 51) rfl rfl Try.func95 (by kernel_rfl) rfl #[atV A l.length c i e, .int .i64 4] rfl (by (try simp only [List.map_toArray, List.map_cons, List.map_nil]); first | done | rfl) ?_; refine (r_fail A l.length c i e 4 w7).mono ?_; rintro r' w8 ⟨rfl, b8⟩; refine ⟨_, rfl, ?_⟩; simp only [Act.put, sa_, sz_, ss_]; simp only [atV]; have H8 := Lib.hid (H7.out.below b8); clear b8 H7; obtain ⟨lc23_0, lc23_1, lc23_2, lc23_3, lc23_4, lc23_5, lc23_6, lc23_7, lc23_8, lf23_0, lf23_1, lf23_2, lf23_3, lf23_4, lf23_5, lf23_6, lf23_7, lf23_8⟩ := bw9_ (H8.out.get 0 rfl); obtain ⟨lc24_0, lc24_1, lc24_2, lf24_0, lf24_1, lf24_2⟩ := bw3_ (H8.out.get 1 rfl); have nn37 := H8.out.ne 0 1 rfl rfl (by decide); have nm37 := nn37.symm)))
  have H15 := ((H8.out.put 1 rfl (put3_ (v0 := .slice A l.length c) (v1 := .int .i64 (i)) (v2 := .int .i64 (flE e 4)) (H8.out.get 1 rfl)) chg3_).put 0 rfl (put9_ (v0 := .int .i64 0) (v1 := .string ⟨#[]⟩) (v2 := .string ⟨#[]⟩) (v3 := .int .i64 0) (v4 := .int .i64 0) (v5 := .int .i64 0) (v6 := .int .i64 0) (v7 := .string ⟨#[]⟩) (v8 := .slice none 0 0) ((H8.out.put 1 rfl (put3_ (v0 := .slice A l.length c) (v1 := .int .i64 (i)) (v2 := .int .i64 (flE e 4)) (H8.out.get 1 rfl)) chg3_).get 0 rfl)) chg9_)
  exact bodyPost_ret (results_cc rfl _ _ _ _ 95 27 _ _ (0, 0) (0, 0) _ _ rfl (H15.get 1 rfl) Try.underlying95 rfl (by kernel_rfl) rfl (H15.get 0 rfl) Try.underlying27 rfl (by kernel_rfl)) rfl (H15.done (r := ⟨i, 50, flE e 4, zx27⟩) (tr_leaf rfl) h0 h1)
theorem r_atom_open {k : Nat} (hp : RGOK k .or) {w : World} {A : Option Addr} {c : Nat} {l : List S91} {i d e : Int} {r : Re} (hC : Kd.C k91 w A l.length l) (h0 : 0 ≤ i) (h1 : i ≤ l.length) (hl : l.length ≤ 1000000) (hk : (tokP l i e).f0 ≠ 3 ∧ (tokP l i e).f0 ≠ 4) (hs : isP l i e wNull = false) (ho : isP l i e wOpen = true) (d0 : 0 ≤ d) (d50 : d ≤ 50) (hd : d ≠ 50) (hr : rr l k (.f .or) (i + 1) (d + 1) e = some r) :
    Calls Try.prog 180 #[atV A l.length c i e, .int .i64 d] w (RDone w A c l ⟨muI l r.i r.e wShut, d, muE l r.i r.e wShut, r.x⟩) := by
  have h2 : i ≤ 1000000 := by omega
  have HC := Lib.hid hC
  obtain ⟨kk, hkk⟩ : ∃ kk, kiP l i e = kk := ⟨_, rfl⟩
  have k3 : (kk == 3) = false := beq_eq_false_iff_ne.2 fun q => hk.1 ((ki_at (by decide) (by decide)).1 (hkk.trans q))
  have k4 : (kk == 4) = false := beq_eq_false_iff_ne.2 fun q => hk.2 ((ki_at (by decide) (by decide)).1 (hkk.trans q))
  have HK := Lib.hid hkk; have HS := Lib.hid hs
  have HO := Lib.hid ho; have HP := Lib.hid hp; have HR := Lib.hid hr; have HL := Lib.hid (isP_lt ho)
  have D0 := Lib.hid (show 0 ≤ d + 1 ∧ d + 1 ≤ 50 by omega)
  have hd2 : (d == 50) = false := beq_eq_false_iff_ne.2 hd
  clear hk hkk hs ho hp hr hd
  clear hC
  have H0 := Lib.hid (RS.start w)
  go_enter Try.func180, Try.ntmps180
  go_wp2_with (first
    | ((with_reducible refine gate_dst (N := 2) rfl ?_); refine box_event ?hg (N := 2) ?hd (cs := #[.slice A l.length c, .int .i64 i, .int .i64 e]) (t := 95) ?hr ?_; (case hd => rfl); (case hg => rfl); (case hr => first | (go_simp; done) | (go_simp; rfl)); intro g2 hg_ w1 hb_ hl_; have H1 := Lib.hid (H0.out.box hb_ hl_ (Nat.le_of_eq hg_.symm)); clear hb_ hl_ hg_ H0; simp only [Act.put, sa_, sz_, ss_])
    | ((with_reducible refine gate_dst (N := 4) rfl ?_); refine box_event ?hg (N := 4) ?hd (cs := #[.slice none 0 0, .int .i64 0, .int .i64 0]) (t := 95) ?hr ?_; (case hd => rfl); (case hg => rfl); (case hr => first | (go_simp; done) | (go_simp; rfl)); intro g4 hg_ w2 hb_ hl_; have H2 := Lib.hid (H1.out.box hb_ hl_ (Nat.le_of_eq hg_.symm)); clear hb_ hl_ hg_ H1; simp only [Act.put, sa_, sz_, ss_])
    | ((with_reducible refine gate_dst (N := 5) rfl ?_); refine box_event ?hg (N := 5) ?hd (cs := #[.int .i64 0, .string (⟨#[]⟩ : ByteArray), .string (⟨#[]⟩ : ByteArray), .int .i64 0, .int .i64 0, .int .i64 0, .int .i64 0, .string (⟨#[]⟩ : ByteArray), .slice none 0 0]) (t := 27) ?hr ?_; (case hd => rfl); (case hg => rfl); (case hr => first | (go_simp; done) | (go_simp; rfl)); intro g5 hg_ w3 hb_ hl_; have H3 := Lib.hid (H2.out.box hb_ hl_ (Nat.le_of_eq hg_.symm)); clear hb_ hl_ hg_ H2; simp only [Act.put, sa_, sz_, ss_]; obtain ⟨lc47_0, lc47_1, lc47_2, lf47_0, lf47_1, lf47_2⟩ := bw3_ (H3.out.get 2 rfl))
    | ((with_reducible refine gate_callee (f := 94) rfl ?_); refine goesL_ (some 9) rfl rfl Try.func94 (by kernel_rfl) rfl #[atV A l.length c i e] rfl (by (try simp only [List.map_toArray, List.map_cons, List.map_nil]); first | done | rfl) ?_; refine (r_kind (H3.out.C HC.out) h0 HK.out).mono ?_; rintro r' w4 ⟨rfl, b4⟩; refine ⟨_, rfl, ?_⟩; simp only [Act.put, sa_, sz_, ss_]; have H4 := Lib.hid (H3.out.below b4); clear b4 H3; obtain ⟨lc25_0, lc25_1, lc25_2, lf25_0, lf25_1, lf25_2⟩ := bw3_ (H4.out.get 2 rfl))
    | ((with_reducible refine gate_callee (f := 94) rfl ?_); refine goesL_ (some 23) rfl rfl Try.func94 (by kernel_rfl) rfl #[atV A l.length c i e] rfl (by (try simp only [List.map_toArray, List.map_cons, List.map_nil]); first | done | rfl) ?_; refine (r_kind (H4.out.C HC.out) h0 HK.out).mono ?_; rintro r' w5 ⟨rfl, b5⟩; refine ⟨_, rfl, ?_⟩; simp only [Act.put, sa_, sz_, ss_]; have H5 := Lib.hid (H4.out.below b5); clear b5 H4; obtain ⟨lc26_0, lc26_1, lc26_2, lf26_0, lf26_1, lf26_2⟩ := bw3_ (H5.out.get 2 rfl))
    | ((with_reducible refine gate_callee (f := 91) rfl ?_); refine goesL_ (some 37) rfl rfl Try.func91 (by kernel_rfl) rfl #[atV A l.length c i e, .string wNull] rfl (by (try simp only [List.map_toArray, List.map_cons, List.map_nil]); first | done | rfl) ?_; refine (r_is (H5.out.C HC.out) h0 _ HS.out).mono ?_; rintro r' w6 ⟨rfl, b6⟩; refine ⟨_, rfl, ?_⟩; simp only [Act.put, sa_, sz_, ss_]; have H6 := Lib.hid (H5.out.below b6); clear b6 H5; obtain ⟨lc27_0, lc27_1, lc27_2, lf27_0, lf27_1, lf27_2⟩ := bw3_ (H6.out.get 2 rfl))
    | ((with_reducible refine gate_callee (f := 91) rfl ?_); refine goesL_ (some 42) rfl rfl Try.func91 (by kernel_rfl) rfl #[atV A l.length c i e, .string wOpen] rfl (by (try simp only [List.map_toArray, List.map_cons, List.map_nil]); first | done | rfl) ?_; refine (r_is (H6.out.C HC.out) h0 _ HO.out).mono ?_; rintro r' w7 ⟨rfl, b7⟩; refine ⟨_, rfl, ?_⟩; simp only [Act.put, sa_, sz_, ss_]; have H7 := Lib.hid (H6.out.below b7); clear b7 H6; obtain ⟨lc28_0, lc28_1, lc28_2, lf28_0, lf28_1, lf28_2⟩ := bw3_ (H7.out.get 2 rfl))
    | ((with_reducible refine gate_callee (f := 92) rfl ?_); refine goesL_ (some 55) rfl rfl Try.func92 (by kernel_rfl) rfl #[atV A l.length c i e] rfl (by (try simp only [List.map_toArray, List.map_cons, List.map_nil]); first | done | rfl) ?_; refine (r_step A l.length c i e w7 h0 h2).mono ?_; rintro r' w8 ⟨rfl, b8⟩; refine ⟨_, rfl, ?_⟩; simp only [Act.put, sa_, sz_, ss_]; simp only [atV]; have H8 := Lib.hid (H7.out.below b8); clear b8 H7)
    | ((with_reducible refine gate_callee (f := 45) rfl ?_); refine goesL_ (some 58) rfl rfl Try.func45 (by kernel_rfl) rfl #[atV A l.length c (i + 1) e, .int .i64 (d + 1)] rfl (by (try simp only [List.map_toArray, List.map_cons, List.map_nil]); first | done | rfl) ?_; refine (HP.out _ _ _ _ _ _ _ _ (H8.out.C HC.out) (by omega) HL.out hl D0.out.1 D0.out.2 HR.out).mono ?_; rintro r' w9 ⟨vA, vc, rfl, t9, b9, i9, j9⟩; refine ⟨_, rfl, ?_⟩; simp only [Act.put, sa_, sz_, ss_]; simp only [atV, exV]; have H9 := Lib.hid (H8.out.call b9 t9); have I9 := Lib.hid (And.intro i9 j9); clear t9 b9 i9 j9 H8)
    | ((with_reducible refine gate_dst (N := 6) rfl ?_); refine box_event ?hg (N := 6) ?hd (cs := #[.slice none 0 0, .int .i64 0, .int .i64 0]) (t := 95) ?hr ?_; (case hd => rfl); (case hg => rfl); (case hr => first | (go_simp; done) | (go_simp; rfl)); intro g6 hg_ w10 hb_ hl_; have H10 := Lib.hid (H9.out.box hb_ hl_ (Nat.le_of_eq hg_.symm)); clear hb_ hl_ hg_ H9; simp only [Act.put, sa_, sz_, ss_])
    | (((with_reducible refine gate_dst (N := 7) rfl ?_); refine box_event ?hg (N := 7) ?hd (cs := #[.int .i64 0, .string (⟨#[]⟩ : ByteArray), .string (⟨#[]⟩ : ByteArray), .int .i64 0, .int .i64 0, .int .i64 0, .int .i64 0, .string (⟨#[]⟩ : ByteArray), .slice none 0 0]) (t := 27) ?hr ?_; (case hd => rfl); (case hg => rfl); (case hr => first | (go_simp; done) | (go_simp; rfl)); intro g7 hg_ w11 hb_ hl_; have H11 := Lib.hid (H10.out.box hb_ hl_ (Nat.le_of_eq hg_.symm)); clear hb_ hl_ hg_ H10; simp only [Act.put, sa_, sz_, ss_]; obtain ⟨lc48_0, lc48_1, lc48_2, lc48_3, lc48_4, lc48_5, lc48_6, lc48_7, lc48_8, lf48_0, lf48_1, lf48_2, lf48_3, lf48_4, lf48_5, lf48_6, lf48_7, lf48_8⟩ := bw9_ (H11.out.get 0 rfl); obtain ⟨lc49_0, lc49_1, lc49_2, lf49_0, lf49_1, lf49_2⟩ := bw3_ (H11.out.get 1 rfl)); have nn38 := H11.out.ne 0 1 rfl rfl (by decide); have nm38 := nn38.symm))
  refine startX_ (n := 5) (S := fun w' => w'.heap[g6]? = some (.cells (at3 A l.length c r.i r.e) 95 (0, 0)) ∧ w'.heap[g7]? = some (.cells (cl27 r.x vA vc) 27 (0, 0))) (ds := [4]) #[false, false, false, false, false] (by kernel_rfl) rfl rfl (((H11.out.put 1 rfl (put3_ (H11.out.get 1 rfl)) chg3_).put 0 rfl (put9_ ((H11.out.put 1 rfl (put3_ (H11.out.get 1 rfl)) chg3_).get 0 rfl)) chg9_)) (fun w' h => ⟨h.get 1 rfl, h.get 0 rfl⟩) (fun w12 h_ hHeld => ?_)
  have H12 := Lib.hid h_; clear h_ H11
  refine take_ (i := 0) (N := some 61) (v := ?_) (a' := ?_) #[true, false, false, false, false] rfl rfl (by kernel_rfl) (fun _ _ _ h => h) (Or.inl ⟨by rfl, ?_⟩) hHeld ?_ ?_; rotate_left
  · intro w' hS; obtain ⟨s0, s1, s2, f0, f1, f2⟩ := bw3_ hS.1; go_simp; (with_reducible rfl)
  rotate_left
  · simp only [Act.put, sa_, sz_, ss_, i64_w, i32_w]
    rfl
  refine take_ (i := 2) (N := some 63) (v := ?_) (a' := ?_) #[true, false, true, false, false] rfl rfl (by kernel_rfl) (fun _ _ _ h => h) (Or.inl ⟨by rfl, ?_⟩) hHeld ?_ ?_; rotate_left
  · intro w' hS; obtain ⟨s0, s1, s2, s3, s4, s5, s6, s7, s8, f0, f1, f2, f3, f4, f5, f6, f7, f8⟩ := bw9_ hS.2; go_simp; (with_reducible rfl)
  rotate_left
  · simp only [Act.put, sa_, sz_, ss_, i64_w, i32_w]
    rfl
  refine one_ (i := 1) (N := some 62) #[true, true, true, false, false] rfl rfl (by kernel_rfl) (by decide) (fun K hK => ?_); refine goes_ Try.func162 (by kernel_rfl) rfl #[atV A l.length c r.i r.e, .string wShut] (by rfl) rfl rfl (by (try simp only [List.map_toArray, List.map_cons, List.map_nil]); first | done | rfl) ?_; refine (r_must (H12.out.C HC.out) I9.out.1 I9.out.2 hl wShut).mono ?_; rintro e' w13 ⟨rfl, b13⟩; refine ⟨_, rfl, ?_⟩; have H13 := Lib.hid (H12.out.below b13); refine hK.out _ _ (⟨blk_below hHeld.1 b13, blk_below hHeld.2 b13⟩) (fun hHeld => ?_); clear hK K; refine norm_ (a' := ?_) ?_ ?_; rotate_left
  · show Act.put _ (some 62) _ = _
    simp only [Act.put, sa_, sz_, ss_, i64_w, i32_w, atV]; rfl
  clear b13 H12; obtain ⟨lc29_0, lc29_1, lc29_2, lf29_0, lf29_1, lf29_2⟩ := bw3_ (H13.out.get 3 rfl); have nn39 := H13.out.ne 3 2 rfl rfl (by decide); have nm39 := nn39.symm; have nn40 := H13.out.ne 3 1 rfl rfl (by decide); have nm40 := nn40.symm; have nn41 := H13.out.ne 3 0 rfl rfl (by decide); have nm41 := nn41.symm
  refine one_ (i := 3) (N := none) #[true, true, true, true, false] rfl rfl (by kernel_rfl) (by decide) (fun K hK => ?_); refine skip_ (w1 := ?_) (by rfl) rfl ?_ ?_; rotate_left
  · go_simp
    rfl
  refine hK.out _ _ (⟨chg3_.blk hHeld.1 (H13.out.ne 1 3 rfl rfl (by decide)), chg3_.blk hHeld.2 (H13.out.ne 0 3 rfl rfl (by decide))⟩) (fun hHeld2 => ?_); clear hK K
  obtain ⟨lc30_0, lc30_1, lc30_2, lc30_3, lc30_4, lc30_5, lc30_6, lc30_7, lc30_8, lf30_0, lf30_1, lf30_2, lf30_3, lf30_4, lf30_5, lf30_6, lf30_7, lf30_8⟩ := bw9_ (H13.out.get 2 rfl)
  refine last_ (i := 4) (N := none) #[true, true, true, true, true] rfl rfl (by kernel_rfl) (by decide) (fun K hK => ?_); refine skip_ (w1 := ?_) (by rfl) rfl ?_ ?_; rotate_left
  · go_simp
    rfl
  refine hK.out _ _ ?_; clear hK K; refine done_ (by kernel_rfl) ?_
  clear hHeld hHeld2
  try go_wp2
  have H15 := ((H13.out.put 3 rfl (put3_ (v0 := .slice A l.length c) (v1 := .int .i64 (muI l r.i r.e wShut)) (v2 := .int .i64 (muE l r.i r.e wShut)) (H13.out.get 3 rfl)) chg3_).put 2 rfl (put9_ (v0 := .int .i64 r.x.f0) (v1 := .string r.x.f1) (v2 := .string r.x.f2) (v3 := .int .i64 r.x.f3) (v4 := .int .i64 r.x.f4) (v5 := .int .i64 r.x.f5.f0) (v6 := .int .i64 r.x.f5.f1) (v7 := .string r.x.f5.f2) (v8 := .slice vA r.x.f6.length vc) ((H13.out.put 3 rfl (put3_ (v0 := .slice A l.length c) (v1 := .int .i64 (muI l r.i r.e wShut)) (v2 := .int .i64 (muE l r.i r.e wShut)) (H13.out.get 3 rfl)) chg3_).get 2 rfl)) chg9_)
  have hm := mu_le (e := r.e) (s := wShut) I9.out.1 I9.out.2
  exact bodyPost_ret (results_cc rfl _ _ _ _ 95 27 _ _ (0, 0) (0, 0) _ _ rfl (H15.get 3 rfl) Try.underlying95 rfl (by kernel_rfl) rfl (H15.get 2 rfl) Try.underlying27 rfl (by kernel_rfl)) rfl (H15.done (r := ⟨muI l r.i r.e wShut, d, muE l r.i r.e wShut, r.x⟩) (H15.out 0 rfl) hm.1 hm.2)
end Go.Proofs.Ytcfgjaggccnoaaa.PParseSmall
namespace Go.Proofs.Ytcfgjaggccnoaaa.PParseSmall
open Go.RowKit Go.Proofs.YtcfgjaggccnoaaaW.PrintWords Go.Proofs.YtcfgjaggccnoaaaW.PrintLast Go.Proofs.YtcfgjaggccnoaaaW.PrintMore
attribute [local go_sem] max2_int min2_int max_two min_two max_three min_three max_four min_four
set_option linter.unusedVariables false
set_option linter.unusedSimpArgs false
set_option maxRecDepth 100000
set_option maxHeartbeats 4000000
theorem sl_event {P : Program} {ops : Array Oper} {Q : Exit → Act → World → Prop} {o : Oper} {rest : List Oper} {a : Act} {W : World} (hgd : o.guard = none) {N : Tmp} (_hd : o.dst = some N) {cs : Array Value} {t n : Nat}
    (hrun : (execOp a.eval o).run P W = .ok (.value (.slice (some ⟨W.heap.size, 0, none⟩) n n)) (W.alloc (.cells cs t (0, 0))))
    (h : ∀ g, g = W.heap.size → ∀ w1, w1.heap[g]? = some (.cells cs t (0, 0)) → Below W.heap.size W w1 → wpList P ops Q rest (a.put o.dst (.slice (some ⟨g, 0, none⟩) n n)) w1) : wpList P ops Q (o :: rest) a W :=
  Kd.event_run hgd hrun (h _ rfl _ (blk_new W _) (below_alloc (Below.refl _ _) _))
theorem six_cell {w : World} {g t : Nat} (h : w.heap[g]? = some (.cells #[.string ⟨#[61]⟩, .string ⟨#[60, 62]⟩, .string ⟨#[60]⟩, .string ⟨#[60, 61]⟩, .string ⟨#[62]⟩, .string ⟨#[62, 61]⟩] t (0, 0))) (j : Int) (h0 : 0 ≤ j) (h1 : j < 6) : w.cell? ⟨g, j.toNat, none⟩ = some (.string (rdOf ByteArray.empty six j)) := by
  have hj : j = 0 ∨ j = 1 ∨ j = 2 ∨ j = 3 ∨ j = 4 ∨ j = 5 := by omega
  rcases hj with rfl | rfl | rfl | rfl | rfl | rfl
  all_goals exact (blk_cell h _).trans rfl
theorem six_op (m : Nat) (h : m < 6) : opP (rdOf ByteArray.empty six m) = m + 1 := by
  have hj : m = 0 ∨ m = 1 ∨ m = 2 ∨ m = 3 ∨ m = 4 ∨ m = 5 := by omega
  rcases hj with rfl | rfl | rfl | rfl | rfl | rfl
  all_goals decide +kernel
theorem r_test_some {k : Nat} (hp : RGOK k .sum) {w : World} {A : Option Addr} {c : Nat} {l : List S91} {i0 d e0 : Int} {r0 r1 : Re} (hC : Kd.C k91 w A l.length l) (h0 : 0 ≤ i0) (h1 : i0 ≤ l.length) (hl : l.length ≤ 1000000) (d0 : 0 ≤ d) (d50 : d ≤ 50) (hr0 : rr l k (.f .sum) i0 d e0 = some r0) {s : ByteArray} (hf : six.find? (fun s => isP l r0.i r0.e s) = some s) (hr1 : rr l k (.f .sum) (r0.i + 1) d r0.e = some r1) :
    Calls Try.prog 153 #[atV A l.length c i0 e0, .int .i64 d] w (RDone w A c l ⟨r1.i, d, r1.e, ofP (opP s) [r0.x, r1.x]⟩) := by
  obtain ⟨i, d', e, x⟩ := r0
  have HC := Lib.hid hC; have HP := Lib.hid hp; have HR0 := Lib.hid hr0
  obtain ⟨hs, m, hm, rfl, hb⟩ := find_at hf
  have HF := Lib.hid hb; have HM := Lib.hid hm; have HS1 := Lib.hid hs; have HR1 := Lib.hid hr1; have HO := Lib.hid (six_op m hm)
  clear hf hb hm hs hr1
  clear hC hp hr0
  have H0 := Lib.hid (RS.start w)
  go_enter Try.func153, Try.ntmps153
  go_wp2_with (first
    | ((with_reducible refine gate_dst (N := 2) rfl ?_); refine box_event ?hg (N := 2) ?hd (cs := #[.slice A l.length c, .int .i64 i0, .int .i64 e0]) (t := 95) ?hr ?_; (case hd => rfl); (case hg => rfl); (case hr => first | (go_simp; done) | (go_simp; rfl)); intro g2 hg_ w1 hb_ hl_; have H1 := Lib.hid (H0.out.box hb_ hl_ (Nat.le_of_eq hg_.symm)); clear hb_ hl_ hg_ H0; simp only [Act.put, sa_, sz_, ss_])
    | ((with_reducible refine gate_dst (N := 4) rfl ?_); refine box_event ?hg (N := 4) ?hd (cs := #[.slice none 0 0, .int .i64 0, .int .i64 0]) (t := 95) ?hr ?_; (case hd => rfl); (case hg => rfl); (case hr => first | (go_simp; done) | (go_simp; rfl)); intro g4 hg_ w2 hb_ hl_; have H2 := Lib.hid (H1.out.box hb_ hl_ (Nat.le_of_eq hg_.symm)); clear hb_ hl_ hg_ H1; simp only [Act.put, sa_, sz_, ss_])
    | ((with_reducible refine gate_dst (N := 5) rfl ?_); refine box_event ?hg (N := 5) ?hd (cs := #[.int .i64 0, .string (⟨#[]⟩ : ByteArray), .string (⟨#[]⟩ : ByteArray), .int .i64 0, .int .i64 0, .int .i64 0, .int .i64 0, .string (⟨#[]⟩ : ByteArray), .slice none 0 0]) (t := 27) ?hr ?_; (case hd => rfl); (case hg => rfl); (case hr => first | (go_simp; done) | (go_simp; rfl)); intro g5 hg_ w3 hb_ hl_; have H3 := Lib.hid (H2.out.box hb_ hl_ (Nat.le_of_eq hg_.symm)); clear hb_ hl_ hg_ H2; simp only [Act.put, sa_, sz_, ss_]; obtain ⟨lc54_0, lc54_1, lc54_2, lf54_0, lf54_1, lf54_2⟩ := bw3_ (H3.out.get 2 rfl))
    | ((with_reducible refine gate_callee (f := 161) rfl ?_); refine goesL_ (some 15) rfl rfl Try.func161 (by kernel_rfl) rfl #[atV A l.length c i0 e0, .int .i64 d] rfl (by (try simp only [List.map_toArray, List.map_cons, List.map_nil]); first | done | rfl) ?_; refine (HP.out _ _ _ _ _ _ _ _ (H3.out.C HC.out) h0 h1 hl d0 d50 HR0.out).mono ?_; rintro r' w4 ⟨vA, vc, rfl, t4, b4, i4, j4⟩; refine ⟨_, rfl, ?_⟩; simp only [Act.put, sa_, sz_, ss_]; simp only [atV, exV]; have H4 := Lib.hid (H3.out.call b4 t4); have I4 := Lib.hid (And.intro i4 j4); clear t4 b4 i4 j4 H3)
    | (((with_reducible refine gate_dst (N := 6) rfl ?_); refine box_event ?hg (N := 6) ?hd (cs := #[.int .i64 0, .string (⟨#[]⟩ : ByteArray), .string (⟨#[]⟩ : ByteArray), .int .i64 0, .int .i64 0, .int .i64 0, .int .i64 0, .string (⟨#[]⟩ : ByteArray), .slice none 0 0]) (t := 27) ?hr ?_; (case hd => rfl); (case hg => rfl); (case hr => first | (go_simp; done) | (go_simp; rfl)); intro g6 hg_ w5 hb_ hl_; have H5 := Lib.hid (H4.out.box hb_ hl_ (Nat.le_of_eq hg_.symm)); clear hb_ hl_ hg_ H4; simp only [Act.put, sa_, sz_, ss_]; obtain ⟨lc55_0, lc55_1, lc55_2, lc55_3, lc55_4, lc55_5, lc55_6, lc55_7, lc55_8, lf55_0, lf55_1, lf55_2, lf55_3, lf55_4, lf55_5, lf55_6, lf55_7, lf55_8⟩ := bw9_ (H5.out.get 0 rfl); obtain ⟨lc56_0, lc56_1, lc56_2, lf56_0, lf56_1, lf56_2⟩ := bw3_ (H5.out.get 3 rfl)); have nn24 := H5.out.ne 0 3 rfl rfl (by decide); have nm24 := nn24.symm)
    | ((with_reducible refine gate_dst (N := 18) rfl ?_); refine sl_event ?hg (N := 18) ?hd (cs := #[.string ⟨#[61]⟩, .string ⟨#[60, 62]⟩, .string ⟨#[60]⟩, .string ⟨#[60, 61]⟩, .string ⟨#[62]⟩, .string ⟨#[62, 61]⟩]) (t := 9) (n := 6) ?hr ?_; (case hd => rfl); (case hg => rfl); (case hr => first | (go_simp; done) | (go_simp; rfl)); intro gs hg_ w6 hb_ hl_; have H6 := Lib.hid (((H5.out.put 3 rfl (put3_ (v0 := .slice A l.length c) (v1 := .int .i64 (i)) (v2 := .int .i64 (e)) (H5.out.get 3 rfl)) chg3_).put 0 rfl (put9_ (v0 := .int .i64 x.f0) (v1 := .string x.f1) (v2 := .string x.f2) (v3 := .int .i64 x.f3) (v4 := .int .i64 x.f4) (v5 := .int .i64 x.f5.f0) (v6 := .int .i64 x.f5.f1) (v7 := .string x.f5.f2) (v8 := .slice vA x.f6.length vc) ((H5.out.put 3 rfl (put3_ (v0 := .slice A l.length c) (v1 := .int .i64 (i)) (v2 := .int .i64 (e)) (H5.out.get 3 rfl)) chg3_).get 0 rfl)) chg9_).box hb_ hl_ (Nat.le_of_eq hg_.symm)); clear hb_ hl_ hg_ H5; simp only [Act.put, sa_, sz_, ss_]))
  try simp only at HR1
  try simp only at HF
  try simp only at HS1
  try simp only at I4
  go_loopg [8] 6 (fun kq v8 w' => ∃ (j : Int), v8 = .int .i64 j ∧ Aside0 (0 ≤ j ∧ j ≤ m ∧ kq = 6 - j.toNat) ∧ Aside0 (RS w w' [(gs, #[.string ⟨#[61]⟩, .string ⟨#[60, 62]⟩, .string ⟨#[60]⟩, .string ⟨#[60, 61]⟩, .string ⟨#[62]⟩, .string ⟨#[62, 61]⟩], 9), (g6, cl27 x vA vc, 27), (g5, #[.int .i64 0, .string ⟨#[]⟩, .string ⟨#[]⟩, .int .i64 0, .int .i64 0, .int .i64 0, .int .i64 0, .string ⟨#[]⟩, .slice none 0 0], 27), (g4, #[.slice none 0 0, .int .i64 0, .int .i64 0], 95), (g2, at3 A l.length c i e, 95)] [(x, vA, vc)]))
  case atStart => exact ⟨0, rfl, ⟨⟨Int.le_refl 0, Int.natCast_nonneg _, rfl⟩⟩, ⟨H6.out⟩⟩
  case round =>
    clear H6 HR0 h0 h1
    obtain ⟨j, rfl, HJ, H7⟩ := hrel
    have c1 : j < 6 := by have := HJ.out.2.1; have := HM.out; have : six.length = 6 := rfl; omega
    have J0 := HJ.out.1; have J6 := c1
    have hj := eq_true HJ.out.1
    have c1b : decide (j < 6) = true := decide_eq_true c1
    have c1c := eq_true c1
    by_cases c2 : j < m
    · have HM1 := Lib.hid (HF.out j HJ.out.1 c2)
      have C2 := Lib.hid c2; clear c2
      go_wp2
      refine startX_ (n := 6) (S := fun w' => w'.heap[g2]? = some (.cells (at3 A l.length c i e) 95 (0, 0)) ∧ w'.cell? ⟨gs, j.toNat, none⟩ = some (.string (rdOf ByteArray.empty six j))) (ds := []) #[false, false, false, false, false, false] (by kernel_rfl) rfl rfl (H7.out) (fun w' h => ⟨h.get 4 rfl, six_cell (h.get 0 rfl) j J0 J6⟩) (fun w12 h_ hHeld => ?_)
      have H12 := Lib.hid h_; clear h_ H7
      refine take_ (i := 0) (N := some 23) (v := ?_) (a' := ?_) #[true, false, false, false, false, false] rfl rfl (by kernel_rfl) (fun _ _ _ h => h) (Or.inl ⟨by rfl, ?_⟩) hHeld ?_ ?_; rotate_left
      · intro w' hS; obtain ⟨s0, s1, s2, f0, f1, f2⟩ := bw3_ hS.1; go_simp; (with_reducible rfl)
      rotate_left
      · simp only [Act.put, sa_, sz_, ss_, i64_w, i32_w]
        rfl
      refine pure_ (i := 1) (N := some 24) (v := ?_) (a' := ?_) #[true, true, false, false, false, false] rfl rfl (by kernel_rfl) (fun _ _ _ h => h) (Or.inl ⟨by rfl, ?_⟩) ?_ ?_; rotate_left
      · intro w'
        go_simp; (with_reducible rfl)
      rotate_left
      · simp only [Act.put, sa_, sz_, ss_, i64_w, i32_w]
        rfl
      refine pure_ (i := 2) (N := some 25) (v := ?_) (a' := ?_) #[true, true, true, false, false, false] rfl rfl (by kernel_rfl) (fun _ _ _ h => h) (Or.inl ⟨by rfl, ?_⟩) ?_ ?_; rotate_left
      · intro w'
        go_simp; (with_reducible rfl)
      rotate_left
      · simp only [Act.put, sa_, sz_, ss_, i64_w, i32_w]
        rfl
      refine take_ (i := 3) (N := some 26) (v := ?_) (a' := ?_) #[true, true, true, true, false, false] rfl rfl (by kernel_rfl) (fun _ _ _ h => h) (Or.inl ⟨by rfl, ?_⟩) hHeld ?_ ?_; rotate_left
      · intro w' hS; go_simp; (with_reducible rfl)
      rotate_left
      · simp only [Act.put, sa_, sz_, ss_, i64_w, i32_w]
        rfl
      refine take_ (i := 4) (N := some 27) (v := ?_) (a' := ?_) #[true, true, true, true, true, false] rfl rfl (by kernel_rfl) (fun _ _ _ h => h) (Or.inl ⟨by rfl, ?_⟩) hHeld ?_ ?_; rotate_left
      · intro w' hS; have hq := hS.2; go_simp; (with_reducible rfl)
      rotate_left
      · simp only [Act.put, sa_, sz_, ss_, i64_w, i32_w]
        rfl
      refine one_ (i := 5) (N := some 28) #[true, true, true, true, true, true] rfl rfl (by kernel_rfl) (by decide) (fun K hK => ?_); refine goes_ Try.func91 (by kernel_rfl) rfl #[atV A l.length c i e, .string (rdOf ByteArray.empty six j)] (by rfl) rfl rfl (by (try simp only [List.map_toArray, List.map_cons, List.map_nil]); first | done | rfl) ?_; refine (r_is (H12.out.C HC.out) I4.out.1 _ HM1.out).mono ?_; rintro e' w13 ⟨rfl, b13⟩; refine ⟨_, rfl, ?_⟩; have H8 := Lib.hid (H12.out.below b13); refine hK.out _ _ (⟨blk_below hHeld.1 b13, (b13.cell (p := ⟨gs, j.toNat, none⟩) (World.block_lt_of_cell? _ _ hHeld.2)).trans hHeld.2⟩) (fun hHeld => ?_); clear hK K; refine norm_ (a' := ?_) ?_ ?_; rotate_left
      · show Act.put _ (some 28) _ = _
        simp only [Act.put, sa_, sz_, ss_, i64_w, i32_w, atV]; rfl
      refine done_ (by kernel_rfl) ?_
      try go_wp2
      have ⟨hj0, hj1, hj2⟩ := HJ.out; have hc2 := C2.out; have hm1 := HM.out
      clear HJ
      go_roundg (6 - (j + 1).toNat)
      case measure => omega
      case rel => exact ⟨j + 1, by first | rfl | rw [show wrap64 (j + 1) = j + 1 from w64 _ (by omega)], ⟨⟨by omega, by omega, rfl⟩⟩, ⟨H8.out⟩⟩
    · have ej : (m : Int) = j := by have := HJ.out.2.1; omega
      have HS := HS1.out; have HO1 := HO.out
      rw [ej] at HS HO1
      rw [show rdOf ByteArray.empty six (m : Int) = rdOf ByteArray.empty six j from by rw [ej]]
      have HL := Lib.hid (isP_lt HS)
      have hi2 : i ≤ 1000000 := by have := I4.out.2; omega
      have hjw : IntKind.i64.wrap (j + 1) = j + 1 := IntWalk.i64_in _ (by omega)
      have HJW := Lib.hid hjw
      clear c2 HS1 HF HO hjw
      have HS2 := Lib.hid HS; have HO2 := Lib.hid HO1; clear HS HO1
      clear ej HJ HM
      go_wp2
      refine startX_ (n := 6) (S := fun w' => w'.heap[g2]? = some (.cells (at3 A l.length c i e) 95 (0, 0)) ∧ w'.cell? ⟨gs, j.toNat, none⟩ = some (.string (rdOf ByteArray.empty six j))) (ds := []) #[false, false, false, false, false, false] (by kernel_rfl) rfl rfl (H7.out) (fun w' h => ⟨h.get 4 rfl, six_cell (h.get 0 rfl) j J0 J6⟩) (fun w12 h_ hHeld => ?_)
      have H12 := Lib.hid h_; clear h_ H7
      refine take_ (i := 0) (N := some 23) (v := ?_) (a' := ?_) #[true, false, false, false, false, false] rfl rfl (by kernel_rfl) (fun _ _ _ h => h) (Or.inl ⟨by rfl, ?_⟩) hHeld ?_ ?_; rotate_left
      · intro w' hS; obtain ⟨s0, s1, s2, f0, f1, f2⟩ := bw3_ hS.1; go_simp; (with_reducible rfl)
      rotate_left
      · simp only [Act.put, sa_, sz_, ss_, i64_w, i32_w]
        rfl
      refine pure_ (i := 1) (N := some 24) (v := ?_) (a' := ?_) #[true, true, false, false, false, false] rfl rfl (by kernel_rfl) (fun _ _ _ h => h) (Or.inl ⟨by rfl, ?_⟩) ?_ ?_; rotate_left
      · intro w'
        go_simp; (with_reducible rfl)
      rotate_left
      · simp only [Act.put, sa_, sz_, ss_, i64_w, i32_w]
        rfl
      refine pure_ (i := 2) (N := some 25) (v := ?_) (a' := ?_) #[true, true, true, false, false, false] rfl rfl (by kernel_rfl) (fun _ _ _ h => h) (Or.inl ⟨by rfl, ?_⟩) ?_ ?_; rotate_left
      · intro w'
        go_simp; (with_reducible rfl)
      rotate_left
      · simp only [Act.put, sa_, sz_, ss_, i64_w, i32_w]
        rfl
      refine take_ (i := 3) (N := some 26) (v := ?_) (a' := ?_) #[true, true, true, true, false, false] rfl rfl (by kernel_rfl) (fun _ _ _ h => h) (Or.inl ⟨by rfl, ?_⟩) hHeld ?_ ?_; rotate_left
      · intro w' hS; go_simp; (with_reducible rfl)
      rotate_left
      · simp only [Act.put, sa_, sz_, ss_, i64_w, i32_w]
        rfl
      refine take_ (i := 4) (N := some 27) (v := ?_) (a' := ?_) #[true, true, true, true, true, false] rfl rfl (by kernel_rfl) (fun _ _ _ h => h) (Or.inl ⟨by rfl, ?_⟩) hHeld ?_ ?_; rotate_left
      · intro w' hS; have hq := hS.2; go_simp; (with_reducible rfl)
      rotate_left
      · simp only [Act.put, sa_, sz_, ss_, i64_w, i32_w]
        rfl
      refine one_ (i := 5) (N := some 28) #[true, true, true, true, true, true] rfl rfl (by kernel_rfl) (by decide) (fun K hK => ?_); refine goes_ Try.func91 (by kernel_rfl) rfl #[atV A l.length c i e, .string (rdOf ByteArray.empty six j)] (by rfl) rfl rfl (by (try simp only [List.map_toArray, List.map_cons, List.map_nil]); first | done | rfl) ?_; refine (r_is (H12.out.C HC.out) I4.out.1 _ HS2.out).mono ?_; rintro e' w13 ⟨rfl, b13⟩; refine ⟨_, rfl, ?_⟩; have H8 := Lib.hid (H12.out.below b13); refine hK.out _ _ (⟨blk_below hHeld.1 b13, (b13.cell (p := ⟨gs, j.toNat, none⟩) (World.block_lt_of_cell? _ _ hHeld.2)).trans hHeld.2⟩) (fun hHeld => ?_); clear hK K; refine norm_ (a' := ?_) ?_ ?_; rotate_left
      · show Act.put _ (some 28) _ = _
        simp only [Act.put, sa_, sz_, ss_, i64_w, i32_w, atV]; rfl
      refine done_ (by kernel_rfl) ?_
      obtain ⟨lc1_0, lc1_1, lc1_2, lf1_0, lf1_1, lf1_2⟩ := bw3_ (H8.out.get 4 rfl)
      go_wp2_with (first
        | ((with_reducible refine gate_callee (f := 92) rfl ?_); refine goesL_ (some 31) rfl rfl Try.func92 (by kernel_rfl) rfl #[atV A l.length c i e] rfl (by (try simp only [List.map_toArray, List.map_cons, List.map_nil]); first | done | rfl) ?_; refine (r_step A l.length c i e w13 I4.out.1 hi2).mono ?_; rintro r' w14 ⟨rfl, b8⟩; refine ⟨_, rfl, ?_⟩; simp only [Act.put, sa_, sz_, ss_]; simp only [atV]; have H14 := Lib.hid (H8.out.below b8); clear b8 H8)
        | ((with_reducible refine gate_callee (f := 161) rfl ?_); refine goesL_ (some 33) rfl rfl Try.func161 (by kernel_rfl) rfl #[atV A l.length c (i + 1) e, .int .i64 d] rfl (by (try simp only [List.map_toArray, List.map_cons, List.map_nil]); first | done | rfl) ?_; refine (HP.out _ _ _ _ _ _ _ _ (H14.out.C HC.out) (by have := I4.out.1; omega) HL.out hl d0 d50 HR1.out).mono ?_; rintro r' w15 ⟨yA, yc, rfl, t9, b9, i9, j9⟩; refine ⟨_, rfl, ?_⟩; simp only [Act.put, sa_, sz_, ss_]; simp only [atV, exV]; have H15 := Lib.hid (H14.out.call b9 t9); have I9 := Lib.hid (And.intro i9 j9); clear t9 b9 i9 j9 H14)
        | ((with_reducible refine gate_dst (N := 9) rfl ?_); refine box_event ?hg (N := 9) ?hd (cs := #[.slice none 0 0, .int .i64 0, .int .i64 0]) (t := 95) ?hr ?_; (case hd => rfl); (case hg => rfl); (case hr => first | (go_simp; done) | (go_simp; rfl)); intro g9 hg_ w16 hb_ hl_; have H16 := Lib.hid (H15.out.box hb_ hl_ (Nat.le_of_eq hg_.symm)); clear hb_ hl_ hg_ H15; simp only [Act.put, sa_, sz_, ss_])
        | (((with_reducible refine gate_dst (N := 10) rfl ?_); refine box_event ?hg (N := 10) ?hd (cs := #[.int .i64 0, .string (⟨#[]⟩ : ByteArray), .string (⟨#[]⟩ : ByteArray), .int .i64 0, .int .i64 0, .int .i64 0, .int .i64 0, .string (⟨#[]⟩ : ByteArray), .slice none 0 0]) (t := 27) ?hr ?_; (case hd => rfl); (case hg => rfl); (case hr => first | (go_simp; done) | (go_simp; rfl)); intro g10 hg_ w17 hb_ hl_; have H17 := Lib.hid (H16.out.box hb_ hl_ (Nat.le_of_eq hg_.symm)); clear hb_ hl_ hg_ H16; simp only [Act.put, sa_, sz_, ss_]; obtain ⟨lc57_0, lc57_1, lc57_2, lc57_3, lc57_4, lc57_5, lc57_6, lc57_7, lc57_8, lf57_0, lf57_1, lf57_2, lf57_3, lf57_4, lf57_5, lf57_6, lf57_7, lf57_8⟩ := bw9_ (H17.out.get 0 rfl); obtain ⟨lc58_0, lc58_1, lc58_2, lf58_0, lf58_1, lf58_2⟩ := bw3_ (H17.out.get 1 rfl)); have nn25 := H17.out.ne 0 1 rfl rfl (by decide); have nm25 := nn25.symm))
      refine startX_ (n := 8) (S := fun w' => w'.heap[g9]? = some (.cells (at3 A l.length c r1.i r1.e) 95 (0, 0)) ∧ w'.heap[g6]? = some (.cells (cl27 x vA vc) 27 (0, 0)) ∧ w'.heap[g10]? = some (.cells (cl27 r1.x yA yc) 27 (0, 0))) (ds := [7]) #[false, false, false, false, false, false, false, false] (by kernel_rfl) rfl rfl (((H17.out.put 1 rfl (put3_ (H17.out.get 1 rfl)) chg3_).put 0 rfl (put9_ ((H17.out.put 1 rfl (put3_ (H17.out.get 1 rfl)) chg3_).get 0 rfl)) chg9_)) (fun w' h => ⟨h.get 1 rfl, h.get 3 rfl, h.get 0 rfl⟩) (fun w22 h_ hHeld => ?_)
      have H22 := Lib.hid h_; clear h_ H17
      refine take_ (i := 0) (N := some 36) (v := ?_) (a' := ?_) #[true, false, false, false, false, false, false, false] rfl rfl (by kernel_rfl) (fun _ _ _ h => h) (Or.inl ⟨by rfl, ?_⟩) hHeld ?_ ?_; rotate_left
      · intro w' hS; obtain ⟨s0, s1, s2, f0, f1, f2⟩ := bw3_ hS.1; go_simp; (with_reducible rfl)
      rotate_left
      · simp only [Act.put, sa_, sz_, ss_, i64_w, i32_w]
        rfl
      refine pure_ (i := 1) (N := some 37) (v := ?_) (a' := ?_) #[true, true, false, false, false, false, false, false] rfl rfl (by kernel_rfl) (fun _ _ _ h => h) (Or.inl ⟨by rfl, ?_⟩) ?_ ?_; rotate_left
      · intro w'
        go_simp; (with_reducible rfl)
      rotate_left
      · simp only [Act.put, sa_, sz_, ss_, i64_w, i32_w]
        rfl
      refine take_ (i := 2) (N := some 38) (v := ?_) (a' := ?_) #[true, true, true, false, false, false, false, false] rfl rfl (by kernel_rfl) (fun _ _ _ h => h) (Or.inl ⟨by rfl, ?_⟩) hHeld ?_ ?_; rotate_left
      · intro w' hS; go_simp; (with_reducible rfl)
      rotate_left
      · simp only [Act.put, sa_, sz_, ss_, i64_w, i32_w]
        rfl
      refine take_ (i := 3) (N := some 39) (v := ?_) (a' := ?_) #[true, true, true, true, false, false, false, false] rfl rfl (by kernel_rfl) (fun _ _ _ h => h) (Or.inl ⟨by rfl, ?_⟩) hHeld ?_ ?_; rotate_left
      · intro w' hS; obtain ⟨s0, s1, s2, s3, s4, s5, s6, s7, s8, f0, f1, f2, f3, f4, f5, f6, f7, f8⟩ := bw9_ hS.2.1; go_simp; (with_reducible rfl)
      rotate_left
      · simp only [Act.put, sa_, sz_, ss_, i64_w, i32_w]
        rfl
      refine take_ (i := 4) (N := some 40) (v := ?_) (a' := ?_) #[true, true, true, true, true, false, false, false] rfl rfl (by kernel_rfl) (fun _ _ _ h => h) (Or.inl ⟨by rfl, ?_⟩) hHeld ?_ ?_; rotate_left
      · intro w' hS; obtain ⟨s0, s1, s2, s3, s4, s5, s6, s7, s8, f0, f1, f2, f3, f4, f5, f6, f7, f8⟩ := bw9_ hS.2.2; go_simp; (with_reducible rfl)
      rotate_left
      · simp only [Act.put, sa_, sz_, ss_, i64_w, i32_w]
        rfl
      refine one_ (i := 5) (N := some 41) #[true, true, true, true, true, true, false, false] rfl rfl (by kernel_rfl) (by decide) (fun K hK => ?_); refine goes_ Try.func93 (by kernel_rfl) rfl #[.int .i64 (wrap64 (j + 1)), exV x vA vc, exV r1.x yA yc] (by rfl) rfl rfl (by (try simp only [List.map_toArray, List.map_cons, List.map_nil]); first | done | rfl) ?_; refine (r_two (wrap64 (j + 1)) x r1.x (H22.out.tre 1 rfl) (H22.out.tre 0 rfl)).mono ?_; rintro e' w23 ⟨zA, zc, rfl, t13, b13⟩; refine ⟨_, rfl, ?_⟩; have H23 := Lib.hid (H22.out.callO b13 t13); refine hK.out _ _ (⟨blk_below hHeld.1 b13, blk_below hHeld.2.1 b13, blk_below hHeld.2.2 b13⟩) (fun hHeld => ?_); clear hK K; refine norm_ (a' := ?_) ?_ ?_; rotate_left
      · show Act.put _ (some 41) _ = _
        simp only [Act.put, sa_, sz_, ss_, i64_w, i32_w, exV, ofP]; rfl
      clear b13 t13 H22; obtain ⟨lc2_0, lc2_1, lc2_2, lf2_0, lf2_1, lf2_2⟩ := bw3_ (H23.out.get 5 rfl); have nn26 := H23.out.ne 5 4 rfl rfl (by decide); have nm26 := nn26.symm; have nn27 := H23.out.ne 5 1 rfl rfl (by decide); have nm27 := nn27.symm; have nn28 := H23.out.ne 5 3 rfl rfl (by decide); have nm28 := nn28.symm; have nn29 := H23.out.ne 5 0 rfl rfl (by decide); have nm29 := nn29.symm
      refine one_ (i := 6) (N := none) #[true, true, true, true, true, true, true, false] rfl rfl (by kernel_rfl) (by decide) (fun K hK => ?_); refine skip_ (w1 := ?_) (by rfl) rfl ?_ ?_; rotate_left
      · go_simp
        rfl
      refine hK.out _ _ (⟨chg3_.blk hHeld.1 (H23.out.ne 1 5 rfl rfl (by decide)), chg3_.blk hHeld.2.1 (H23.out.ne 3 5 rfl rfl (by decide)), chg3_.blk hHeld.2.2 (H23.out.ne 0 5 rfl rfl (by decide))⟩) (fun hHeld2 => ?_); clear hK K
      obtain ⟨lc3_0, lc3_1, lc3_2, lc3_3, lc3_4, lc3_5, lc3_6, lc3_7, lc3_8, lf3_0, lf3_1, lf3_2, lf3_3, lf3_4, lf3_5, lf3_6, lf3_7, lf3_8⟩ := bw9_ (H23.out.get 4 rfl)
      refine last_ (i := 7) (N := none) #[true, true, true, true, true, true, true, true] rfl rfl (by kernel_rfl) (by decide) (fun K hK => ?_); refine skip_ (w1 := ?_) (by rfl) rfl ?_ ?_; rotate_left
      · go_simp
        rfl
      refine hK.out _ _ ?_; clear hK K; refine done_ (by kernel_rfl) ?_
      clear hHeld hHeld2
      try go_wp2
      have H25 := ((H23.out.put 5 rfl (put3_ (v0 := .slice A l.length c) (v1 := .int .i64 (r1.i)) (v2 := .int .i64 (r1.e)) (H23.out.get 5 rfl)) chg3_).put 4 rfl (put9_ (v0 := .int .i64 (wrap64 (j + 1))) (v1 := .string ⟨#[]⟩) (v2 := .string ⟨#[]⟩) (v3 := .int .i64 0) (v4 := .int .i64 0) (v5 := .int .i64 0) (v6 := .int .i64 0) (v7 := .string ⟨#[]⟩) (v8 := .slice zA 2 zc) ((H23.out.put 5 rfl (put3_ (v0 := .slice A l.length c) (v1 := .int .i64 (r1.i)) (v2 := .int .i64 (r1.e)) (H23.out.get 5 rfl)) chg3_).get 4 rfl)) chg9_)
      have HE : opP (rdOf ByteArray.empty six j) = wrap64 (j + 1) := HO2.out.trans (w64 _ (by omega)).symm
      rw [HE]
      exact bodyPost_ret (results_cc rfl _ _ _ _ 95 27 _ _ (0, 0) (0, 0) _ _ rfl (H25.get 5 rfl) Try.underlying95 rfl (by kernel_rfl) rfl (H25.get 4 rfl) Try.underlying27 rfl (by kernel_rfl)) rfl (H25.done (r := ⟨r1.i, d, r1.e, ofP (wrap64 (j + 1)) [x, r1.x]⟩) (H25.out 0 rfl) I9.out.1 I9.out.2)
theorem r_test_none {k : Nat} (hp : RGOK k .sum) {w : World} {A : Option Addr} {c : Nat} {l : List S91} {i0 d e0 : Int} {r0 : Re} (hC : Kd.C k91 w A l.length l) (h0 : 0 ≤ i0) (h1 : i0 ≤ l.length) (hl : l.length ≤ 1000000) (d0 : 0 ≤ d) (d50 : d ≤ 50) (hr0 : rr l k (.f .sum) i0 d e0 = some r0) (hf : six.find? (fun s => isP l r0.i r0.e s) = none) :
    Calls Try.prog 153 #[atV A l.length c i0 e0, .int .i64 d] w (RDone w A c l (tst l r0)) := by
  obtain ⟨i, d', e, x⟩ := r0
  have HC := Lib.hid hC; have HP := Lib.hid hp; have HR0 := Lib.hid hr0
  have HF := Lib.hid hf
  clear hf
  clear hC hp hr0
  have H0 := Lib.hid (RS.start w)
  go_enter Try.func153, Try.ntmps153
  go_wp2_with (first
    | ((with_reducible refine gate_dst (N := 2) rfl ?_); refine box_event ?hg (N := 2) ?hd (cs := #[.slice A l.length c, .int .i64 i0, .int .i64 e0]) (t := 95) ?hr ?_; (case hd => rfl); (case hg => rfl); (case hr => first | (go_simp; done) | (go_simp; rfl)); intro g2 hg_ w1 hb_ hl_; have H1 := Lib.hid (H0.out.box hb_ hl_ (Nat.le_of_eq hg_.symm)); clear hb_ hl_ hg_ H0; simp only [Act.put, sa_, sz_, ss_])
    | ((with_reducible refine gate_dst (N := 4) rfl ?_); refine box_event ?hg (N := 4) ?hd (cs := #[.slice none 0 0, .int .i64 0, .int .i64 0]) (t := 95) ?hr ?_; (case hd => rfl); (case hg => rfl); (case hr => first | (go_simp; done) | (go_simp; rfl)); intro g4 hg_ w2 hb_ hl_; have H2 := Lib.hid (H1.out.box hb_ hl_ (Nat.le_of_eq hg_.symm)); clear hb_ hl_ hg_ H1; simp only [Act.put, sa_, sz_, ss_])
    | ((with_reducible refine gate_dst (N := 5) rfl ?_); refine box_event ?hg (N := 5) ?hd (cs := #[.int .i64 0, .string (⟨#[]⟩ : ByteArray), .string (⟨#[]⟩ : ByteArray), .int .i64 0, .int .i64 0, .int .i64 0, .int .i64 0, .string (⟨#[]⟩ : ByteArray), .slice none 0 0]) (t := 27) ?hr ?_; (case hd => rfl); (case hg => rfl); (case hr => first | (go_simp; done) | (go_simp; rfl)); intro g5 hg_ w3 hb_ hl_; have H3 := Lib.hid (H2.out.box hb_ hl_ (Nat.le_of_eq hg_.symm)); clear hb_ hl_ hg_ H2; simp only [Act.put, sa_, sz_, ss_]; obtain ⟨lc59_0, lc59_1, lc59_2, lf59_0, lf59_1, lf59_2⟩ := bw3_ (H3.out.get 2 rfl))
    | ((with_reducible refine gate_callee (f := 161) rfl ?_); refine goesL_ (some 15) rfl rfl Try.func161 (by kernel_rfl) rfl #[atV A l.length c i0 e0, .int .i64 d] rfl (by (try simp only [List.map_toArray, List.map_cons, List.map_nil]); first | done | rfl) ?_; refine (HP.out _ _ _ _ _ _ _ _ (H3.out.C HC.out) h0 h1 hl d0 d50 HR0.out).mono ?_; rintro r' w4 ⟨vA, vc, rfl, t4, b4, i4, j4⟩; refine ⟨_, rfl, ?_⟩; simp only [Act.put, sa_, sz_, ss_]; simp only [atV, exV]; have H4 := Lib.hid (H3.out.call b4 t4); have I4 := Lib.hid (And.intro i4 j4); clear t4 b4 i4 j4 H3)
    | (((with_reducible refine gate_dst (N := 6) rfl ?_); refine box_event ?hg (N := 6) ?hd (cs := #[.int .i64 0, .string (⟨#[]⟩ : ByteArray), .string (⟨#[]⟩ : ByteArray), .int .i64 0, .int .i64 0, .int .i64 0, .int .i64 0, .string (⟨#[]⟩ : ByteArray), .slice none 0 0]) (t := 27) ?hr ?_; (case hd => rfl); (case hg => rfl); (case hr => first | (go_simp; done) | (go_simp; rfl)); intro g6 hg_ w5 hb_ hl_; have H5 := Lib.hid (H4.out.box hb_ hl_ (Nat.le_of_eq hg_.symm)); clear hb_ hl_ hg_ H4; simp only [Act.put, sa_, sz_, ss_]; obtain ⟨lc60_0, lc60_1, lc60_2, lc60_3, lc60_4, lc60_5, lc60_6, lc60_7, lc60_8, lf60_0, lf60_1, lf60_2, lf60_3, lf60_4, lf60_5, lf60_6, lf60_7, lf60_8⟩ := bw9_ (H5.out.get 0 rfl); obtain ⟨lc61_0, lc61_1, lc61_2, lf61_0, lf61_1, lf61_2⟩ := bw3_ (H5.out.get 3 rfl)); have nn30 := H5.out.ne 0 3 rfl rfl (by decide); have nm30 := nn30.symm)
    | ((with_reducible refine gate_dst (N := 18) rfl ?_); refine sl_event ?hg (N := 18) ?hd (cs := #[.string ⟨#[61]⟩, .string ⟨#[60, 62]⟩, .string ⟨#[60]⟩, .string ⟨#[60, 61]⟩, .string ⟨#[62]⟩, .string ⟨#[62, 61]⟩]) (t := 9) (n := 6) ?hr ?_; (case hd => rfl); (case hg => rfl); (case hr => first | (go_simp; done) | (go_simp; rfl)); intro gs hg_ w6 hb_ hl_; have H6 := Lib.hid (((H5.out.put 3 rfl (put3_ (v0 := .slice A l.length c) (v1 := .int .i64 (i)) (v2 := .int .i64 (e)) (H5.out.get 3 rfl)) chg3_).put 0 rfl (put9_ (v0 := .int .i64 x.f0) (v1 := .string x.f1) (v2 := .string x.f2) (v3 := .int .i64 x.f3) (v4 := .int .i64 x.f4) (v5 := .int .i64 x.f5.f0) (v6 := .int .i64 x.f5.f1) (v7 := .string x.f5.f2) (v8 := .slice vA x.f6.length vc) ((H5.out.put 3 rfl (put3_ (v0 := .slice A l.length c) (v1 := .int .i64 (i)) (v2 := .int .i64 (e)) (H5.out.get 3 rfl)) chg3_).get 0 rfl)) chg9_).box hb_ hl_ (Nat.le_of_eq hg_.symm)); clear hb_ hl_ hg_ H5; simp only [Act.put, sa_, sz_, ss_]))
  try simp only at HF
  try simp only at I4
  go_loopg [8] 6 (fun kq v8 w' => ∃ (j : Int), v8 = .int .i64 j ∧ Aside0 (0 ≤ j ∧ j ≤ 6 ∧ kq = 6 - j.toNat) ∧ Aside0 (RS w w' [(gs, #[.string ⟨#[61]⟩, .string ⟨#[60, 62]⟩, .string ⟨#[60]⟩, .string ⟨#[60, 61]⟩, .string ⟨#[62]⟩, .string ⟨#[62, 61]⟩], 9), (g6, cl27 x vA vc, 27), (g5, #[.int .i64 0, .string ⟨#[]⟩, .string ⟨#[]⟩, .int .i64 0, .int .i64 0, .int .i64 0, .int .i64 0, .string ⟨#[]⟩, .slice none 0 0], 27), (g4, #[.slice none 0 0, .int .i64 0, .int .i64 0], 95), (g2, at3 A l.length c i e, 95)] [(x, vA, vc)]))
  case atStart => exact ⟨0, rfl, ⟨⟨Int.le_refl 0, by decide, rfl⟩⟩, ⟨H6.out⟩⟩
  case round =>
    clear H6 HR0 HP h0 h1
    obtain ⟨j, rfl, HJ, H7⟩ := hrel
    have J0 := HJ.out.1
    have hj := eq_true HJ.out.1
    by_cases c1 : j < 6
    · have J6 := c1
      have c1b : decide (j < 6) = true := decide_eq_true c1
      have c1c := eq_true c1
      have HM1 : Hid (isP l i e (rdOf ByteArray.empty six j) = false) := Lib.hid (by
        have := List.find?_eq_none.1 HF.out (rdOf ByteArray.empty six j) (rdOf_mem six j HJ.out.1 c1)
        simpa using this)
      go_wp2
      refine startX_ (n := 6) (S := fun w' => w'.heap[g2]? = some (.cells (at3 A l.length c i e) 95 (0, 0)) ∧ w'.cell? ⟨gs, j.toNat, none⟩ = some (.string (rdOf ByteArray.empty six j))) (ds := []) #[false, false, false, false, false, false] (by kernel_rfl) rfl rfl (H7.out) (fun w' h => ⟨h.get 4 rfl, six_cell (h.get 0 rfl) j J0 J6⟩) (fun w12 h_ hHeld => ?_)
      have H12 := Lib.hid h_; clear h_ H7
      refine take_ (i := 0) (N := some 23) (v := ?_) (a' := ?_) #[true, false, false, false, false, false] rfl rfl (by kernel_rfl) (fun _ _ _ h => h) (Or.inl ⟨by rfl, ?_⟩) hHeld ?_ ?_; rotate_left
      · intro w' hS; obtain ⟨s0, s1, s2, f0, f1, f2⟩ := bw3_ hS.1; go_simp; (with_reducible rfl)
      rotate_left
      · simp only [Act.put, sa_, sz_, ss_, i64_w, i32_w]
        rfl
      refine pure_ (i := 1) (N := some 24) (v := ?_) (a' := ?_) #[true, true, false, false, false, false] rfl rfl (by kernel_rfl) (fun _ _ _ h => h) (Or.inl ⟨by rfl, ?_⟩) ?_ ?_; rotate_left
      · intro w'
        go_simp; (with_reducible rfl)
      rotate_left
      · simp only [Act.put, sa_, sz_, ss_, i64_w, i32_w]
        rfl
      refine pure_ (i := 2) (N := some 25) (v := ?_) (a' := ?_) #[true, true, true, false, false, false] rfl rfl (by kernel_rfl) (fun _ _ _ h => h) (Or.inl ⟨by rfl, ?_⟩) ?_ ?_; rotate_left
      · intro w'
        go_simp; (with_reducible rfl)
      rotate_left
      · simp only [Act.put, sa_, sz_, ss_, i64_w, i32_w]
        rfl
      refine take_ (i := 3) (N := some 26) (v := ?_) (a' := ?_) #[true, true, true, true, false, false] rfl rfl (by kernel_rfl) (fun _ _ _ h => h) (Or.inl ⟨by rfl, ?_⟩) hHeld ?_ ?_; rotate_left
      · intro w' hS; go_simp; (with_reducible rfl)
      rotate_left
      · simp only [Act.put, sa_, sz_, ss_, i64_w, i32_w]
        rfl
      refine take_ (i := 4) (N := some 27) (v := ?_) (a' := ?_) #[true, true, true, true, true, false] rfl rfl (by kernel_rfl) (fun _ _ _ h => h) (Or.inl ⟨by rfl, ?_⟩) hHeld ?_ ?_; rotate_left
      · intro w' hS; have hq := hS.2; go_simp; (with_reducible rfl)
      rotate_left
      · simp only [Act.put, sa_, sz_, ss_, i64_w, i32_w]
        rfl
      refine one_ (i := 5) (N := some 28) #[true, true, true, true, true, true] rfl rfl (by kernel_rfl) (by decide) (fun K hK => ?_); refine goes_ Try.func91 (by kernel_rfl) rfl #[atV A l.length c i e, .string (rdOf ByteArray.empty six j)] (by rfl) rfl rfl (by (try simp only [List.map_toArray, List.map_cons, List.map_nil]); first | done | rfl) ?_; refine (r_is (H12.out.C HC.out) I4.out.1 _ HM1.out).mono ?_; rintro e' w13 ⟨rfl, b13⟩; refine ⟨_, rfl, ?_⟩; have H8 := Lib.hid (H12.out.below b13); refine hK.out _ _ (⟨blk_below hHeld.1 b13, (b13.cell (p := ⟨gs, j.toNat, none⟩) (World.block_lt_of_cell? _ _ hHeld.2)).trans hHeld.2⟩) (fun hHeld => ?_); clear hK K; refine norm_ (a' := ?_) ?_ ?_; rotate_left
      · show Act.put _ (some 28) _ = _
        simp only [Act.put, sa_, sz_, ss_, i64_w, i32_w, atV]; rfl
      refine done_ (by kernel_rfl) ?_
      try go_wp2
      have ⟨hj0, hj1, hj2⟩ := HJ.out
      clear HJ
      go_roundg (6 - (j + 1).toNat)
      case measure => omega
      case rel => exact ⟨j + 1, by first | rfl | rw [show wrap64 (j + 1) = j + 1 from w64 _ (by omega)], ⟨⟨by omega, by omega, rfl⟩⟩, ⟨H8.out⟩⟩
    · have c1b : decide (j < 6) = false := decide_eq_false c1
      clear HF HJ J0 hj c1
      obtain ⟨lc4_0, lc4_1, lc4_2, lf4_0, lf4_1, lf4_2⟩ := bw3_ (H7.out.get 4 rfl)
      have hi2 : i ≤ 1000000 := by have := I4.out.2; omega
      have hi3 : isP l i e wIs = true → i + 1 ≤ l.length := isP_lt
      have hi4 : isP l (i + 1) e wNot = true → i + 1 + 1 ≤ l.length := isP_lt
      cases hs : isP l i e wIs with
      | false =>
        have HTT : Hid (∀ ret w', RDone w A c l ⟨i, d', e, x⟩ ret w' → RDone w A c l (tst l ⟨i, d', e, x⟩) ret w') := Lib.hid (by unfold tst; rw [hs, if_neg (by decide)]; exact fun _ _ h => h)
        have HS := Lib.hid hs; have HI := Lib.hid I4.out; clear hs hi3 hi4
        go_wp2_with (first
          | ((with_reducible refine gate_callee (f := 91) rfl ?_); refine goesL_ (some 43) rfl rfl Try.func91 (by kernel_rfl) rfl #[atV A l.length c i e, .string wIs] rfl (by (try simp only [List.map_toArray, List.map_cons, List.map_nil]); first | done | rfl) ?_; refine (r_is (H7.out.C HC.out) I4.out.1 _ HS.out).mono ?_; rintro r' w8 ⟨rfl, b7⟩; refine ⟨_, rfl, ?_⟩; simp only [Act.put, sa_, sz_, ss_]; have H8 := Lib.hid (H7.out.below b7); clear b7 H7))
        refine startX_ (n := 4) (S := fun w' => w'.heap[g2]? = some (.cells (at3 A l.length c i e) 95 (0, 0)) ∧ w'.heap[g6]? = some (.cells (cl27 x vA vc) 27 (0, 0))) (ds := []) #[false, false, false, false] (by kernel_rfl) rfl rfl (H8.out) (fun w' h => ⟨h.get 4 rfl, h.get 1 rfl⟩) (fun w20 h_ hHeld => ?_)
        have H20 := Lib.hid h_; clear h_ H8
        refine take_ (i := 0) (N := some 45) (v := ?_) (a' := ?_) #[true, false, false, false] rfl rfl (by kernel_rfl) (fun _ _ _ h => h) (Or.inl ⟨by rfl, ?_⟩) hHeld ?_ ?_; rotate_left
        · intro w' hS; obtain ⟨s0, s1, s2, f0, f1, f2⟩ := bw3_ hS.1; go_simp; (with_reducible rfl)
        rotate_left
        · simp only [Act.put, sa_, sz_, ss_, i64_w, i32_w]
          rfl
        refine take_ (i := 1) (N := some 46) (v := ?_) (a' := ?_) #[true, true, false, false] rfl rfl (by kernel_rfl) (fun _ _ _ h => h) (Or.inl ⟨by rfl, ?_⟩) hHeld ?_ ?_; rotate_left
        · intro w' hS; obtain ⟨s0, s1, s2, s3, s4, s5, s6, s7, s8, f0, f1, f2, f3, f4, f5, f6, f7, f8⟩ := bw9_ hS.2; go_simp; (with_reducible rfl)
        rotate_left
        · simp only [Act.put, sa_, sz_, ss_, i64_w, i32_w]
          rfl
        have nn31 := H20.out.ne 3 4 rfl rfl (by decide); have nm31 := nn31.symm; have nn32 := H20.out.ne 3 1 rfl rfl (by decide); have nm32 := nn32.symm; have nn33 := H20.out.ne 2 4 rfl rfl (by decide); have nm33 := nn33.symm; have nn34 := H20.out.ne 2 1 rfl rfl (by decide); have nm34 := nn34.symm; have nn35 := H20.out.ne 3 2 rfl rfl (by decide); have nm35 := nn35.symm; obtain ⟨s0, s1, s2, f0, f1, f2⟩ := bw3_ (H20.out.get 3 rfl)
        refine one_ (i := 2) (N := none) #[true, true, true, false] rfl rfl (by kernel_rfl) (by decide) (fun K hK => ?_); refine skip_ (w1 := ?_) (by rfl) rfl ?_ ?_; rotate_left
        · go_simp
          rfl
        refine hK.out _ _ (⟨chg3_.blk hHeld.1 (H20.out.ne 4 3 rfl rfl (by decide)), chg3_.blk hHeld.2 (H20.out.ne 1 3 rfl rfl (by decide))⟩) (fun hHeld2 => ?_); clear hK K
        clear s0 s1 s2 f0 f1 f2; obtain ⟨s0, s1, s2, s3, s4, s5, s6, s7, s8, f0, f1, f2, f3, f4, f5, f6, f7, f8⟩ := bw9_ (H20.out.get 2 rfl)
        refine one_ (i := 3) (N := none) #[true, true, true, true] rfl rfl (by kernel_rfl) (by decide) (fun K hK => ?_); refine skip_ (w1 := ?_) (by rfl) rfl ?_ ?_; rotate_left
        · go_simp
          rfl
        refine hK.out _ _ (⟨chg9_.blk hHeld2.1 (H20.out.ne 4 2 rfl rfl (by decide)), chg9_.blk hHeld2.2 (H20.out.ne 1 2 rfl rfl (by decide))⟩) (fun hHeld3 => ?_); clear hK K
        refine done_ (by kernel_rfl) ?_
        clear s0 s1 s2 s3 s4 s5 s6 s7 s8 f0 f1 f2 f3 f4 f5 f6 f7 f8 hHeld hHeld2 hHeld3
        try go_wp2
        have H21 := H20.out.put 3 rfl (put3_ (v0 := .slice A l.length c) (v1 := .int .i64 i) (v2 := .int .i64 e) (H20.out.get 3 rfl)) chg3_
        have H22 := H21.put 2 rfl (put9_ (v0 := .int .i64 x.f0) (v1 := .string x.f1) (v2 := .string x.f2) (v3 := .int .i64 x.f3) (v4 := .int .i64 x.f4) (v5 := .int .i64 x.f5.f0) (v6 := .int .i64 x.f5.f1) (v7 := .string x.f5.f2) (v8 := .slice vA x.f6.length vc) (H21.get 2 rfl)) chg9_
        exact bodyPost_ret (results_cc rfl _ _ _ _ 95 27 _ _ (0, 0) (0, 0) _ _ rfl (H22.get 3 rfl) Try.underlying95 rfl (by kernel_rfl) rfl (H22.get 2 rfl) Try.underlying27 rfl (by kernel_rfl)) rfl (HTT.out _ _ (H22.done (r := ⟨i, d', e, x⟩) (H22.out 0 rfl) HI.out.1 HI.out.2))
      | true =>
        have HS := Lib.hid hs; have HL := Lib.hid (hi3 hs)
        have HI0 : Hid (0 ≤ i + 1) := Lib.hid (by have := I4.out.1; omega)
        clear hi3
        cases hn : isP l (i + 1) e wNot with
        | false =>
          have HTT : Hid (∀ ret w', RDone w A c l ⟨muI l (i + 1) e wNull, d', muE l (i + 1) e wNull, ofP 13 [x]⟩ ret w' → RDone w A c l (tst l ⟨i, d', e, x⟩) ret w') := Lib.hid (by unfold tst; rw [hs, if_pos rfl, hn, if_neg (by decide)]; exact fun _ _ h => h)
          have HN := Lib.hid hn; clear hn hi4 hs
          go_wp2_with (first
            | ((with_reducible refine gate_callee (f := 91) rfl ?_); refine goesL_ (some 43) rfl rfl Try.func91 (by kernel_rfl) rfl #[atV A l.length c i e, .string wIs] rfl (by (try simp only [List.map_toArray, List.map_cons, List.map_nil]); first | done | rfl) ?_; refine (r_is (H7.out.C HC.out) I4.out.1 _ HS.out).mono ?_; rintro r' w8 ⟨rfl, b7⟩; refine ⟨_, rfl, ?_⟩; simp only [Act.put, sa_, sz_, ss_]; have H8 := Lib.hid (H7.out.below b7); clear b7 H7; obtain ⟨lc5_0, lc5_1, lc5_2, lf5_0, lf5_1, lf5_2⟩ := bw3_ (H8.out.get 4 rfl))
            | ((with_reducible refine gate_callee (f := 92) rfl ?_); refine goesL_ (some 48) rfl rfl Try.func92 (by kernel_rfl) rfl #[atV A l.length c i e] rfl (by (try simp only [List.map_toArray, List.map_cons, List.map_nil]); first | done | rfl) ?_; refine (r_step A l.length c i e w8 I4.out.1 hi2).mono ?_; rintro r' w9 ⟨rfl, b8⟩; refine ⟨_, rfl, ?_⟩; simp only [Act.put, sa_, sz_, ss_]; simp only [atV]; have H9 := Lib.hid (H8.out.below b8); clear b8 H8; obtain ⟨lc6_0, lc6_1, lc6_2, lf6_0, lf6_1, lf6_2⟩ := bw3_ (H9.out.get 4 rfl))
            | ((with_reducible refine gate_callee (f := 91) rfl ?_); refine goesL_ (some 50) rfl rfl Try.func91 (by kernel_rfl) rfl #[atV A l.length c (i + 1) e, .string wNot] rfl (by (try simp only [List.map_toArray, List.map_cons, List.map_nil]); first | done | rfl) ?_; refine (r_is ((H9.out.put 4 rfl (put3_ (H9.out.get 4 rfl)) chg3_).C HC.out) HI0.out _ HN.out).mono ?_; rintro r' w10 ⟨rfl, b9⟩; refine ⟨_, rfl, ?_⟩; simp only [Act.put, sa_, sz_, ss_]; have H10 := Lib.hid ((H9.out.put 4 rfl (put3_ (H9.out.get 4 rfl)) chg3_).below b9); clear b9 H9; obtain ⟨lc7_0, lc7_1, lc7_2, lf7_0, lf7_1, lf7_2⟩ := bw3_ (H10.out.get 4 rfl)))
          refine startX_ (n := 8) (S := fun w' => w'.heap[g2]? = some (.cells (at3 A l.length c (i + 1) e) 95 (0, 0)) ∧ w'.heap[g6]? = some (.cells (cl27 x vA vc) 27 (0, 0))) (ds := [7]) #[false, false, false, false, false, false, false, false] (by kernel_rfl) rfl rfl (H10.out) (fun w' h => ⟨h.get 4 rfl, h.get 1 rfl⟩) (fun w22 h_ hHeld => ?_)
          have H22 := Lib.hid h_; clear h_ H10
          refine take_ (i := 0) (N := some 53) (v := ?_) (a' := ?_) #[true, false, false, false, false, false, false, false] rfl rfl (by kernel_rfl) (fun _ _ _ h => h) (Or.inl ⟨by rfl, ?_⟩) hHeld ?_ ?_; rotate_left
          · intro w' hS; obtain ⟨s0, s1, s2, f0, f1, f2⟩ := bw3_ hS.1; go_simp; (with_reducible rfl)
          rotate_left
          · simp only [Act.put, sa_, sz_, ss_, i64_w, i32_w]
            rfl
          refine pure_ (i := 2) (N := some 55) (v := ?_) (a' := ?_) #[true, false, true, false, false, false, false, false] rfl rfl (by kernel_rfl) (fun _ _ _ h => h) (Or.inl ⟨by rfl, ?_⟩) ?_ ?_; rotate_left
          · intro w'
            go_simp; (with_reducible rfl)
          rotate_left
          · simp only [Act.put, sa_, sz_, ss_, i64_w, i32_w]
            rfl
          refine take_ (i := 3) (N := some 56) (v := ?_) (a' := ?_) #[true, false, true, true, false, false, false, false] rfl rfl (by kernel_rfl) (fun _ _ _ h => h) (Or.inl ⟨by rfl, ?_⟩) hHeld ?_ ?_; rotate_left
          · intro w' hS; obtain ⟨s0, s1, s2, s3, s4, s5, s6, s7, s8, f0, f1, f2, f3, f4, f5, f6, f7, f8⟩ := bw9_ hS.2; go_simp; (with_reducible rfl)
          rotate_left
          · simp only [Act.put, sa_, sz_, ss_, i64_w, i32_w]
            rfl
          refine two_ (i := 1) (j := 4) (Ni := some 54) (Nj := some 57) #[true, true, true, true, false, false, false, false] #[true, false, true, true, true, false, false, false] rfl rfl rfl rfl (by kernel_rfl) (by decide) (by decide) (fun K hK => ?_) (fun K hK => ?_)
          · refine goes_ Try.func162 (by kernel_rfl) rfl #[atV A l.length c (i + 1) e, .string wNull] (by rfl) rfl rfl (by (try simp only [List.map_toArray, List.map_cons, List.map_nil]); first | done | rfl) ?_; refine (r_must (H22.out.C HC.out) HI0.out HL.out hl wNull).mono ?_; rintro e' w23 ⟨rfl, b13⟩; refine ⟨_, rfl, ?_⟩; have H23 := Lib.hid (H22.out.below b13); refine hK.out _ _ (⟨blk_below hHeld.1 b13, blk_below hHeld.2 b13⟩) (fun hHeld => ?_); clear hK K; refine norm_ (a' := ?_) ?_ ?_; rotate_left
            · show Act.put _ (some 54) _ = _
              simp only [Act.put, sa_, sz_, ss_, i64_w, i32_w, atV]; rfl
            refine two_ (i := 4) (j := 6) (Ni := some 57) (Nj := none) #[true, true, true, true, true, false, false, false] #[true, true, true, true, false, false, true, false] rfl rfl rfl rfl (by kernel_rfl) (by decide) (by decide) (fun K hK => ?_) (fun K hK => ?_)
            · refine lit1s (by rfl) rfl (H23.out.tre 0 rfl) ?hf ?hr ?_; (case hf => exact H23.out.fresh); (case hr => first | (go_simp; done) | (go_simp; rfl)); intro A6 c6 w16 v9 b9; have V6 := Lib.hid v9; have H24 := Lib.hid (H23.out.below b9); refine hK.out _ _ (⟨blk_below hHeld.1 b9, blk_below hHeld.2 b9⟩) (fun hHeld => ?_); clear v9 b9 hK K; refine norm_ (a' := ?_) ?_ ?_; rotate_left
              · show Act.put _ (some 57) _ = _
                simp only [Act.put, sa_, sz_, ss_, i64_w, i32_w]; rfl
              refine pure_ (i := 5) (N := some 58) (v := ?_) (a' := ?_) #[true, true, true, true, true, true, false, false] rfl rfl (by kernel_rfl) (fun _ _ _ h => h) (Or.inl ⟨by rfl, ?_⟩) ?_ ?_; rotate_left
              · intro w'
                go_simp; (with_reducible rfl)
              rotate_left
              · simp only [Act.put, sa_, sz_, ss_, i64_w, i32_w]
                rfl
              obtain ⟨lc8_0, lc8_1, lc8_2, lf8_0, lf8_1, lf8_2⟩ := bw3_ (H24.out.get 3 rfl); have nn36 := H24.out.ne 3 4 rfl rfl (by decide); have nm36 := nn36.symm; have nn37 := H24.out.ne 3 1 rfl rfl (by decide); have nm37 := nn37.symm; have nn38 := H24.out.ne 3 2 rfl rfl (by decide); have nm38 := nn38.symm
              refine one_ (i := 6) (N := none) #[true, true, true, true, true, true, true, false] rfl rfl (by kernel_rfl) (by decide) (fun K hK => ?_); refine skip_ (w1 := ?_) (by rfl) rfl ?_ ?_; rotate_left
              · go_simp
                rfl
              refine hK.out _ _ (⟨chg3_.blk hHeld.1 (H24.out.ne 4 3 rfl rfl (by decide)), chg3_.blk hHeld.2 (H24.out.ne 1 3 rfl rfl (by decide))⟩) (fun hHeld2 => ?_); clear hK K
              obtain ⟨lc9_0, lc9_1, lc9_2, lc9_3, lc9_4, lc9_5, lc9_6, lc9_7, lc9_8, lf9_0, lf9_1, lf9_2, lf9_3, lf9_4, lf9_5, lf9_6, lf9_7, lf9_8⟩ := bw9_ (H24.out.get 2 rfl)
              refine last_ (i := 7) (N := none) #[true, true, true, true, true, true, true, true] rfl rfl (by kernel_rfl) (by decide) (fun K hK => ?_); refine skip_ (w1 := ?_) (by rfl) rfl ?_ ?_; rotate_left
              · go_simp
                rfl
              refine hK.out _ _ ?_; clear hK K; refine done_ (by kernel_rfl) ?_
              try go_wp2
              have Hx := H24.out.add (Tr.ofV (op := 13) V6.out).1
              have Hy := ((Hx.put 3 rfl (put3_ (v0 := .slice A l.length c) (v1 := .int .i64 (muI l (i + 1) e wNull)) (v2 := .int .i64 (muE l (i + 1) e wNull)) (Hx.get 3 rfl)) chg3_).put 2 rfl (put9_ (v0 := .int .i64 13) (v1 := .string ⟨#[]⟩) (v2 := .string ⟨#[]⟩) (v3 := .int .i64 0) (v4 := .int .i64 0) (v5 := .int .i64 0) (v6 := .int .i64 0) (v7 := .string ⟨#[]⟩) (v8 := .slice A6 1 c6) ((Hx.put 3 rfl (put3_ (v0 := .slice A l.length c) (v1 := .int .i64 (muI l (i + 1) e wNull)) (v2 := .int .i64 (muE l (i + 1) e wNull)) (Hx.get 3 rfl)) chg3_).get 2 rfl)) chg9_)
              have hm := mu_le (l := l) (i := i + 1) (e := e) (s := wNull) HI0.out HL.out
              exact bodyPost_ret (results_cc rfl _ _ _ _ 95 27 _ _ (0, 0) (0, 0) _ _ rfl (Hy.get 3 rfl) Try.underlying95 rfl (by kernel_rfl) rfl (Hy.get 2 rfl) Try.underlying27 rfl (by kernel_rfl)) rfl (HTT.out _ _ (Hy.done (r := ⟨muI l (i + 1) e wNull, d', muE l (i + 1) e wNull, ofP 13 [x]⟩) (Hy.out 0 rfl) hm.1 hm.2))

            · obtain ⟨lc10_0, lc10_1, lc10_2, lf10_0, lf10_1, lf10_2⟩ := bw3_ (H23.out.get 3 rfl); have nn39 := H23.out.ne 3 4 rfl rfl (by decide); have nm39 := nn39.symm; have nn40 := H23.out.ne 3 1 rfl rfl (by decide); have nm40 := nn40.symm; have nn41 := H23.out.ne 3 2 rfl rfl (by decide); have nm41 := nn41.symm
              refine skip_ (w1 := ?_) (by rfl) rfl ?_ ?_; rotate_left
              · go_simp
                rfl
              refine hK.out _ _ (⟨chg3_.blk hHeld.1 (H23.out.ne 4 3 rfl rfl (by decide)), chg3_.blk hHeld.2 (H23.out.ne 1 3 rfl rfl (by decide))⟩) (fun hHeld => ?_); clear hK K
              have H26 := Lib.hid (H23.out.put 3 rfl (put3_ (v0 := .slice A l.length c) (v1 := .int .i64 (muI l (i + 1) e wNull)) (v2 := .int .i64 (muE l (i + 1) e wNull)) (H23.out.get 3 rfl)) chg3_)
              refine one_ (i := 4) (N := some 57) #[true, true, true, true, true, false, true, false] rfl rfl (by kernel_rfl) (by decide) (fun K hK => ?_)
              refine lit1s (by rfl) rfl (H26.out.tre 0 rfl) ?hf ?hr ?_; (case hf => exact H26.out.fresh); (case hr => first | (go_simp; done) | (go_simp; rfl)); intro A6 c6 w16 v9 b9; have V6 := Lib.hid v9; have H27 := Lib.hid (H26.out.below b9); refine hK.out _ _ (⟨blk_below hHeld.1 b9, blk_below hHeld.2 b9⟩) (fun hHeld => ?_); clear v9 b9 hK K; refine norm_ (a' := ?_) ?_ ?_; rotate_left
              · show Act.put _ (some 57) _ = _
                simp only [Act.put, sa_, sz_, ss_, i64_w, i32_w]; rfl
              refine pure_ (i := 5) (N := some 58) (v := ?_) (a' := ?_) #[true, true, true, true, true, true, true, false] rfl rfl (by kernel_rfl) (fun _ _ _ h => h) (Or.inl ⟨by rfl, ?_⟩) ?_ ?_; rotate_left
              · intro w'
                go_simp; (with_reducible rfl)
              rotate_left
              · simp only [Act.put, sa_, sz_, ss_, i64_w, i32_w]
                rfl
              obtain ⟨lc11_0, lc11_1, lc11_2, lc11_3, lc11_4, lc11_5, lc11_6, lc11_7, lc11_8, lf11_0, lf11_1, lf11_2, lf11_3, lf11_4, lf11_5, lf11_6, lf11_7, lf11_8⟩ := bw9_ (H27.out.get 2 rfl)
              refine last_ (i := 7) (N := none) #[true, true, true, true, true, true, true, true] rfl rfl (by kernel_rfl) (by decide) (fun K hK => ?_); refine skip_ (w1 := ?_) (by rfl) rfl ?_ ?_; rotate_left
              · go_simp
                rfl
              refine hK.out _ _ ?_; clear hK K; refine done_ (by kernel_rfl) ?_
              try go_wp2
              have Hx := H27.out.add (Tr.ofV (op := 13) V6.out).1
              have Hy := Hx.put 2 rfl (put9_ (v0 := .int .i64 13) (v1 := .string ⟨#[]⟩) (v2 := .string ⟨#[]⟩) (v3 := .int .i64 0) (v4 := .int .i64 0) (v5 := .int .i64 0) (v6 := .int .i64 0) (v7 := .string ⟨#[]⟩) (v8 := .slice A6 1 c6) (Hx.get 2 rfl)) chg9_
              have hm := mu_le (l := l) (i := i + 1) (e := e) (s := wNull) HI0.out HL.out
              exact bodyPost_ret (results_cc rfl _ _ _ _ 95 27 _ _ (0, 0) (0, 0) _ _ rfl (Hy.get 3 rfl) Try.underlying95 rfl (by kernel_rfl) rfl (Hy.get 2 rfl) Try.underlying27 rfl (by kernel_rfl)) rfl (HTT.out _ _ (Hy.done (r := ⟨muI l (i + 1) e wNull, d', muE l (i + 1) e wNull, ofP 13 [x]⟩) (Hy.out 0 rfl) hm.1 hm.2))

          · refine lit1s (by rfl) rfl (H22.out.tre 0 rfl) ?hf ?hr ?_; (case hf => exact H22.out.fresh); (case hr => first | (go_simp; done) | (go_simp; rfl)); intro A6 c6 w16 v9 b9; have V6 := Lib.hid v9; have H23 := Lib.hid (H22.out.below b9); refine hK.out _ _ (⟨blk_below hHeld.1 b9, blk_below hHeld.2 b9⟩) (fun hHeld => ?_); clear v9 b9 hK K; refine norm_ (a' := ?_) ?_ ?_; rotate_left
            · show Act.put _ (some 57) _ = _
              simp only [Act.put, sa_, sz_, ss_, i64_w, i32_w]; rfl
            have H25 := Lib.hid (H23.out.add (Tr.ofV (op := 13) V6.out).1)
            refine pure_ (i := 5) (N := some 58) (v := ?_) (a' := ?_) #[true, false, true, true, true, true, false, false] rfl rfl (by kernel_rfl) (fun _ _ _ h => h) (Or.inl ⟨by rfl, ?_⟩) ?_ ?_; rotate_left
            · intro w'
              go_simp; (with_reducible rfl)
            rotate_left
            · simp only [Act.put, sa_, sz_, ss_, i64_w, i32_w]
              rfl
            refine one_ (i := 1) (N := some 54) #[true, true, true, true, true, true, false, false] rfl rfl (by kernel_rfl) (by decide) (fun K hK => ?_); refine goes_ Try.func162 (by kernel_rfl) rfl #[atV A l.length c (i + 1) e, .string wNull] (by rfl) rfl rfl (by (try simp only [List.map_toArray, List.map_cons, List.map_nil]); first | done | rfl) ?_; refine (r_must (H25.out.C HC.out) HI0.out HL.out hl wNull).mono ?_; rintro e' w23 ⟨rfl, b13⟩; refine ⟨_, rfl, ?_⟩; have H24 := Lib.hid (H25.out.below b13); refine hK.out _ _ (⟨blk_below hHeld.1 b13, blk_below hHeld.2 b13⟩) (fun hHeld => ?_); clear hK K; refine norm_ (a' := ?_) ?_ ?_; rotate_left
            · show Act.put _ (some 54) _ = _
              simp only [Act.put, sa_, sz_, ss_, i64_w, i32_w, atV]; rfl
            obtain ⟨lc12_0, lc12_1, lc12_2, lf12_0, lf12_1, lf12_2⟩ := bw3_ (H24.out.get 3 rfl); have nn42 := H24.out.ne 3 4 rfl rfl (by decide); have nm42 := nn42.symm; have nn43 := H24.out.ne 3 1 rfl rfl (by decide); have nm43 := nn43.symm; have nn44 := H24.out.ne 3 2 rfl rfl (by decide); have nm44 := nn44.symm
            refine one_ (i := 6) (N := none) #[true, true, true, true, true, true, true, false] rfl rfl (by kernel_rfl) (by decide) (fun K hK => ?_); refine skip_ (w1 := ?_) (by rfl) rfl ?_ ?_; rotate_left
            · go_simp
              rfl
            refine hK.out _ _ (⟨chg3_.blk hHeld.1 (H24.out.ne 4 3 rfl rfl (by decide)), chg3_.blk hHeld.2 (H24.out.ne 1 3 rfl rfl (by decide))⟩) (fun hHeld2 => ?_); clear hK K
            obtain ⟨lc13_0, lc13_1, lc13_2, lc13_3, lc13_4, lc13_5, lc13_6, lc13_7, lc13_8, lf13_0, lf13_1, lf13_2, lf13_3, lf13_4, lf13_5, lf13_6, lf13_7, lf13_8⟩ := bw9_ (H24.out.get 2 rfl)
            refine last_ (i := 7) (N := none) #[true, true, true, true, true, true, true, true] rfl rfl (by kernel_rfl) (by decide) (fun K hK => ?_); refine skip_ (w1 := ?_) (by rfl) rfl ?_ ?_; rotate_left
            · go_simp
              rfl
            refine hK.out _ _ ?_; clear hK K; refine done_ (by kernel_rfl) ?_
            try go_wp2
            have Hx := H24.out
            have Hy := ((Hx.put 3 rfl (put3_ (v0 := .slice A l.length c) (v1 := .int .i64 (muI l (i + 1) e wNull)) (v2 := .int .i64 (muE l (i + 1) e wNull)) (Hx.get 3 rfl)) chg3_).put 2 rfl (put9_ (v0 := .int .i64 13) (v1 := .string ⟨#[]⟩) (v2 := .string ⟨#[]⟩) (v3 := .int .i64 0) (v4 := .int .i64 0) (v5 := .int .i64 0) (v6 := .int .i64 0) (v7 := .string ⟨#[]⟩) (v8 := .slice A6 1 c6) ((Hx.put 3 rfl (put3_ (v0 := .slice A l.length c) (v1 := .int .i64 (muI l (i + 1) e wNull)) (v2 := .int .i64 (muE l (i + 1) e wNull)) (Hx.get 3 rfl)) chg3_).get 2 rfl)) chg9_)
            have hm := mu_le (l := l) (i := i + 1) (e := e) (s := wNull) HI0.out HL.out
            exact bodyPost_ret (results_cc rfl _ _ _ _ 95 27 _ _ (0, 0) (0, 0) _ _ rfl (Hy.get 3 rfl) Try.underlying95 rfl (by kernel_rfl) rfl (Hy.get 2 rfl) Try.underlying27 rfl (by kernel_rfl)) rfl (HTT.out _ _ (Hy.done (r := ⟨muI l (i + 1) e wNull, d', muE l (i + 1) e wNull, ofP 13 [x]⟩) (Hy.out 0 rfl) hm.1 hm.2))

        | true =>
          have HTT : Hid (∀ ret w', RDone w A c l ⟨muI l (i + 1 + 1) e wNull, d', muE l (i + 1 + 1) e wNull, ofP 14 [x]⟩ ret w' → RDone w A c l (tst l ⟨i, d', e, x⟩) ret w') := Lib.hid (by unfold tst; rw [hs, if_pos rfl, hn, if_pos rfl]; exact fun _ _ h => h)
          have HN := Lib.hid hn; have HL2 := Lib.hid (hi4 hn); have HI1 : Hid (0 ≤ i + 1 + 1) := Lib.hid (by have := I4.out.1; omega)
          have hi5 : i + 1 ≤ 1000000 := by have := HL.out; omega
          have HI5 := HI0.out
          clear hn hi4 hs
          go_wp2_with (first
            | ((with_reducible refine gate_callee (f := 91) rfl ?_); refine goesL_ (some 43) rfl rfl Try.func91 (by kernel_rfl) rfl #[atV A l.length c i e, .string wIs] rfl (by (try simp only [List.map_toArray, List.map_cons, List.map_nil]); first | done | rfl) ?_; refine (r_is (H7.out.C HC.out) I4.out.1 _ HS.out).mono ?_; rintro r' w8 ⟨rfl, b7⟩; refine ⟨_, rfl, ?_⟩; simp only [Act.put, sa_, sz_, ss_]; have H8 := Lib.hid (H7.out.below b7); clear b7 H7; obtain ⟨lc14_0, lc14_1, lc14_2, lf14_0, lf14_1, lf14_2⟩ := bw3_ (H8.out.get 4 rfl))
            | ((with_reducible refine gate_callee (f := 92) rfl ?_); refine goesL_ (some 48) rfl rfl Try.func92 (by kernel_rfl) rfl #[atV A l.length c i e] rfl (by (try simp only [List.map_toArray, List.map_cons, List.map_nil]); first | done | rfl) ?_; refine (r_step A l.length c i e w8 I4.out.1 hi2).mono ?_; rintro r' w9 ⟨rfl, b8⟩; refine ⟨_, rfl, ?_⟩; simp only [Act.put, sa_, sz_, ss_]; simp only [atV]; have H9 := Lib.hid (H8.out.below b8); clear b8 H8; obtain ⟨lc15_0, lc15_1, lc15_2, lf15_0, lf15_1, lf15_2⟩ := bw3_ (H9.out.get 4 rfl))
            | ((with_reducible refine gate_callee (f := 91) rfl ?_); refine goesL_ (some 50) rfl rfl Try.func91 (by kernel_rfl) rfl #[atV A l.length c (i + 1) e, .string wNot] rfl (by (try simp only [List.map_toArray, List.map_cons, List.map_nil]); first | done | rfl) ?_; refine (r_is ((H9.out.put 4 rfl (put3_ (H9.out.get 4 rfl)) chg3_).C HC.out) HI0.out _ HN.out).mono ?_; rintro r' w10 ⟨rfl, b9⟩; refine ⟨_, rfl, ?_⟩; simp only [Act.put, sa_, sz_, ss_]; have H10 := Lib.hid ((H9.out.put 4 rfl (put3_ (H9.out.get 4 rfl)) chg3_).below b9); clear b9 H9; obtain ⟨lc16_0, lc16_1, lc16_2, lf16_0, lf16_1, lf16_2⟩ := bw3_ (H10.out.get 4 rfl))
            | ((with_reducible refine gate_callee (f := 92) rfl ?_); refine goesL_ (some 52) rfl rfl Try.func92 (by kernel_rfl) rfl #[atV A l.length c (i + 1) e] rfl (by (try simp only [List.map_toArray, List.map_cons, List.map_nil]); first | done | rfl) ?_; refine (r_step A l.length c (i + 1) e w10 HI5 hi5).mono ?_; rintro r' w11 ⟨rfl, b11⟩; refine ⟨_, rfl, ?_⟩; simp only [Act.put, sa_, sz_, ss_]; simp only [atV]; have H11 := Lib.hid (H10.out.below b11); clear b11 H10; obtain ⟨lc17_0, lc17_1, lc17_2, lf17_0, lf17_1, lf17_2⟩ := bw3_ (H11.out.get 4 rfl)))
          refine startX_ (n := 8) (S := fun w' => w'.heap[g2]? = some (.cells (at3 A l.length c (i + 1 + 1) e) 95 (0, 0)) ∧ w'.heap[g6]? = some (.cells (cl27 x vA vc) 27 (0, 0))) (ds := [7]) #[false, false, false, false, false, false, false, false] (by kernel_rfl) rfl rfl (H11.out.put 4 rfl (put3_ (H11.out.get 4 rfl)) chg3_) (fun w' h => ⟨h.get 4 rfl, h.get 1 rfl⟩) (fun w22 h_ hHeld => ?_)
          have H22 := Lib.hid h_; clear h_ H11
          refine take_ (i := 0) (N := some 53) (v := ?_) (a' := ?_) #[true, false, false, false, false, false, false, false] rfl rfl (by kernel_rfl) (fun _ _ _ h => h) (Or.inl ⟨by rfl, ?_⟩) hHeld ?_ ?_; rotate_left
          · intro w' hS; obtain ⟨s0, s1, s2, f0, f1, f2⟩ := bw3_ hS.1; go_simp; (with_reducible rfl)
          rotate_left
          · simp only [Act.put, sa_, sz_, ss_, i64_w, i32_w]
            rfl
          refine pure_ (i := 2) (N := some 55) (v := ?_) (a' := ?_) #[true, false, true, false, false, false, false, false] rfl rfl (by kernel_rfl) (fun _ _ _ h => h) (Or.inl ⟨by rfl, ?_⟩) ?_ ?_; rotate_left
          · intro w'
            go_simp; (with_reducible rfl)
          rotate_left
          · simp only [Act.put, sa_, sz_, ss_, i64_w, i32_w]
            rfl
          refine take_ (i := 3) (N := some 56) (v := ?_) (a' := ?_) #[true, false, true, true, false, false, false, false] rfl rfl (by kernel_rfl) (fun _ _ _ h => h) (Or.inl ⟨by rfl, ?_⟩) hHeld ?_ ?_; rotate_left
          · intro w' hS; obtain ⟨s0, s1, s2, s3, s4, s5, s6, s7, s8, f0, f1, f2, f3, f4, f5, f6, f7, f8⟩ := bw9_ hS.2; go_simp; (with_reducible rfl)
          rotate_left
          · simp only [Act.put, sa_, sz_, ss_, i64_w, i32_w]
            rfl
          refine two_ (i := 1) (j := 4) (Ni := some 54) (Nj := some 57) #[true, true, true, true, false, false, false, false] #[true, false, true, true, true, false, false, false] rfl rfl rfl rfl (by kernel_rfl) (by decide) (by decide) (fun K hK => ?_) (fun K hK => ?_)
          · refine goes_ Try.func162 (by kernel_rfl) rfl #[atV A l.length c (i + 1 + 1) e, .string wNull] (by rfl) rfl rfl (by (try simp only [List.map_toArray, List.map_cons, List.map_nil]); first | done | rfl) ?_; refine (r_must (H22.out.C HC.out) HI1.out HL2.out hl wNull).mono ?_; rintro e' w23 ⟨rfl, b13⟩; refine ⟨_, rfl, ?_⟩; have H23 := Lib.hid (H22.out.below b13); refine hK.out _ _ (⟨blk_below hHeld.1 b13, blk_below hHeld.2 b13⟩) (fun hHeld => ?_); clear hK K; refine norm_ (a' := ?_) ?_ ?_; rotate_left
            · show Act.put _ (some 54) _ = _
              simp only [Act.put, sa_, sz_, ss_, i64_w, i32_w, atV]; rfl
            refine two_ (i := 4) (j := 6) (Ni := some 57) (Nj := none) #[true, true, true, true, true, false, false, false] #[true, true, true, true, false, false, true, false] rfl rfl rfl rfl (by kernel_rfl) (by decide) (by decide) (fun K hK => ?_) (fun K hK => ?_)
            · refine lit1s (by rfl) rfl (H23.out.tre 0 rfl) ?hf ?hr ?_; (case hf => exact H23.out.fresh); (case hr => first | (go_simp; done) | (go_simp; rfl)); intro A6 c6 w16 v9 b9; have V6 := Lib.hid v9; have H24 := Lib.hid (H23.out.below b9); refine hK.out _ _ (⟨blk_below hHeld.1 b9, blk_below hHeld.2 b9⟩) (fun hHeld => ?_); clear v9 b9 hK K; refine norm_ (a' := ?_) ?_ ?_; rotate_left
              · show Act.put _ (some 57) _ = _
                simp only [Act.put, sa_, sz_, ss_, i64_w, i32_w]; rfl
              refine pure_ (i := 5) (N := some 58) (v := ?_) (a' := ?_) #[true, true, true, true, true, true, false, false] rfl rfl (by kernel_rfl) (fun _ _ _ h => h) (Or.inl ⟨by rfl, ?_⟩) ?_ ?_; rotate_left
              · intro w'
                go_simp; (with_reducible rfl)
              rotate_left
              · simp only [Act.put, sa_, sz_, ss_, i64_w, i32_w]
                rfl
              obtain ⟨lc18_0, lc18_1, lc18_2, lf18_0, lf18_1, lf18_2⟩ := bw3_ (H24.out.get 3 rfl); have nn45 := H24.out.ne 3 4 rfl rfl (by decide); have nm45 := nn45.symm; have nn46 := H24.out.ne 3 1 rfl rfl (by decide); have nm46 := nn46.symm; have nn47 := H24.out.ne 3 2 rfl rfl (by decide); have nm47 := nn47.symm
              refine one_ (i := 6) (N := none) #[true, true, true, true, true, true, true, false] rfl rfl (by kernel_rfl) (by decide) (fun K hK => ?_); refine skip_ (w1 := ?_) (by rfl) rfl ?_ ?_; rotate_left
              · go_simp
                rfl
              refine hK.out _ _ (⟨chg3_.blk hHeld.1 (H24.out.ne 4 3 rfl rfl (by decide)), chg3_.blk hHeld.2 (H24.out.ne 1 3 rfl rfl (by decide))⟩) (fun hHeld2 => ?_); clear hK K
              obtain ⟨lc19_0, lc19_1, lc19_2, lc19_3, lc19_4, lc19_5, lc19_6, lc19_7, lc19_8, lf19_0, lf19_1, lf19_2, lf19_3, lf19_4, lf19_5, lf19_6, lf19_7, lf19_8⟩ := bw9_ (H24.out.get 2 rfl)
              refine last_ (i := 7) (N := none) #[true, true, true, true, true, true, true, true] rfl rfl (by kernel_rfl) (by decide) (fun K hK => ?_); refine skip_ (w1 := ?_) (by rfl) rfl ?_ ?_; rotate_left
              · go_simp
                rfl
              refine hK.out _ _ ?_; clear hK K; refine done_ (by kernel_rfl) ?_
              try go_wp2
              have Hx := H24.out.add (Tr.ofV (op := 14) V6.out).1
              have Hy := ((Hx.put 3 rfl (put3_ (v0 := .slice A l.length c) (v1 := .int .i64 (muI l (i + 1 + 1) e wNull)) (v2 := .int .i64 (muE l (i + 1 + 1) e wNull)) (Hx.get 3 rfl)) chg3_).put 2 rfl (put9_ (v0 := .int .i64 14) (v1 := .string ⟨#[]⟩) (v2 := .string ⟨#[]⟩) (v3 := .int .i64 0) (v4 := .int .i64 0) (v5 := .int .i64 0) (v6 := .int .i64 0) (v7 := .string ⟨#[]⟩) (v8 := .slice A6 1 c6) ((Hx.put 3 rfl (put3_ (v0 := .slice A l.length c) (v1 := .int .i64 (muI l (i + 1 + 1) e wNull)) (v2 := .int .i64 (muE l (i + 1 + 1) e wNull)) (Hx.get 3 rfl)) chg3_).get 2 rfl)) chg9_)
              have hm := mu_le (l := l) (i := i + 1 + 1) (e := e) (s := wNull) HI1.out HL2.out
              exact bodyPost_ret (results_cc rfl _ _ _ _ 95 27 _ _ (0, 0) (0, 0) _ _ rfl (Hy.get 3 rfl) Try.underlying95 rfl (by kernel_rfl) rfl (Hy.get 2 rfl) Try.underlying27 rfl (by kernel_rfl)) rfl (HTT.out _ _ (Hy.done (r := ⟨muI l (i + 1 + 1) e wNull, d', muE l (i + 1 + 1) e wNull, ofP 14 [x]⟩) (Hy.out 0 rfl) hm.1 hm.2))

            · obtain ⟨lc20_0, lc20_1, lc20_2, lf20_0, lf20_1, lf20_2⟩ := bw3_ (H23.out.get 3 rfl); have nn48 := H23.out.ne 3 4 rfl rfl (by decide); have nm48 := nn48.symm; have nn49 := H23.out.ne 3 1 rfl rfl (by decide); have nm49 := nn49.symm; have nn50 := H23.out.ne 3 2 rfl rfl (by decide); have nm50 := nn50.symm
              refine skip_ (w1 := ?_) (by rfl) rfl ?_ ?_; rotate_left
              · go_simp
                rfl
              refine hK.out _ _ (⟨chg3_.blk hHeld.1 (H23.out.ne 4 3 rfl rfl (by decide)), chg3_.blk hHeld.2 (H23.out.ne 1 3 rfl rfl (by decide))⟩) (fun hHeld => ?_); clear hK K
              have H26 := Lib.hid (H23.out.put 3 rfl (put3_ (v0 := .slice A l.length c) (v1 := .int .i64 (muI l (i + 1 + 1) e wNull)) (v2 := .int .i64 (muE l (i + 1 + 1) e wNull)) (H23.out.get 3 rfl)) chg3_)
              refine one_ (i := 4) (N := some 57) #[true, true, true, true, true, false, true, false] rfl rfl (by kernel_rfl) (by decide) (fun K hK => ?_)
              refine lit1s (by rfl) rfl (H26.out.tre 0 rfl) ?hf ?hr ?_; (case hf => exact H26.out.fresh); (case hr => first | (go_simp; done) | (go_simp; rfl)); intro A6 c6 w16 v9 b9; have V6 := Lib.hid v9; have H27 := Lib.hid (H26.out.below b9); refine hK.out _ _ (⟨blk_below hHeld.1 b9, blk_below hHeld.2 b9⟩) (fun hHeld => ?_); clear v9 b9 hK K; refine norm_ (a' := ?_) ?_ ?_; rotate_left
              · show Act.put _ (some 57) _ = _
                simp only [Act.put, sa_, sz_, ss_, i64_w, i32_w]; rfl
              refine pure_ (i := 5) (N := some 58) (v := ?_) (a' := ?_) #[true, true, true, true, true, true, true, false] rfl rfl (by kernel_rfl) (fun _ _ _ h => h) (Or.inl ⟨by rfl, ?_⟩) ?_ ?_; rotate_left
              · intro w'
                go_simp; (with_reducible rfl)
              rotate_left
              · simp only [Act.put, sa_, sz_, ss_, i64_w, i32_w]
                rfl
              obtain ⟨lc21_0, lc21_1, lc21_2, lc21_3, lc21_4, lc21_5, lc21_6, lc21_7, lc21_8, lf21_0, lf21_1, lf21_2, lf21_3, lf21_4, lf21_5, lf21_6, lf21_7, lf21_8⟩ := bw9_ (H27.out.get 2 rfl)
              refine last_ (i := 7) (N := none) #[true, true, true, true, true, true, true, true] rfl rfl (by kernel_rfl) (by decide) (fun K hK => ?_); refine skip_ (w1 := ?_) (by rfl) rfl ?_ ?_; rotate_left
              · go_simp
                rfl
              refine hK.out _ _ ?_; clear hK K; refine done_ (by kernel_rfl) ?_
              try go_wp2
              have Hx := H27.out.add (Tr.ofV (op := 14) V6.out).1
              have Hy := Hx.put 2 rfl (put9_ (v0 := .int .i64 14) (v1 := .string ⟨#[]⟩) (v2 := .string ⟨#[]⟩) (v3 := .int .i64 0) (v4 := .int .i64 0) (v5 := .int .i64 0) (v6 := .int .i64 0) (v7 := .string ⟨#[]⟩) (v8 := .slice A6 1 c6) (Hx.get 2 rfl)) chg9_
              have hm := mu_le (l := l) (i := i + 1 + 1) (e := e) (s := wNull) HI1.out HL2.out
              exact bodyPost_ret (results_cc rfl _ _ _ _ 95 27 _ _ (0, 0) (0, 0) _ _ rfl (Hy.get 3 rfl) Try.underlying95 rfl (by kernel_rfl) rfl (Hy.get 2 rfl) Try.underlying27 rfl (by kernel_rfl)) rfl (HTT.out _ _ (Hy.done (r := ⟨muI l (i + 1 + 1) e wNull, d', muE l (i + 1 + 1) e wNull, ofP 14 [x]⟩) (Hy.out 0 rfl) hm.1 hm.2))

          · refine lit1s (by rfl) rfl (H22.out.tre 0 rfl) ?hf ?hr ?_; (case hf => exact H22.out.fresh); (case hr => first | (go_simp; done) | (go_simp; rfl)); intro A6 c6 w16 v9 b9; have V6 := Lib.hid v9; have H23 := Lib.hid (H22.out.below b9); refine hK.out _ _ (⟨blk_below hHeld.1 b9, blk_below hHeld.2 b9⟩) (fun hHeld => ?_); clear v9 b9 hK K; refine norm_ (a' := ?_) ?_ ?_; rotate_left
            · show Act.put _ (some 57) _ = _
              simp only [Act.put, sa_, sz_, ss_, i64_w, i32_w]; rfl
            have H25 := Lib.hid (H23.out.add (Tr.ofV (op := 14) V6.out).1)
            refine pure_ (i := 5) (N := some 58) (v := ?_) (a' := ?_) #[true, false, true, true, true, true, false, false] rfl rfl (by kernel_rfl) (fun _ _ _ h => h) (Or.inl ⟨by rfl, ?_⟩) ?_ ?_; rotate_left
            · intro w'
              go_simp; (with_reducible rfl)
            rotate_left
            · simp only [Act.put, sa_, sz_, ss_, i64_w, i32_w]
              rfl
            refine one_ (i := 1) (N := some 54) #[true, true, true, true, true, true, false, false] rfl rfl (by kernel_rfl) (by decide) (fun K hK => ?_); refine goes_ Try.func162 (by kernel_rfl) rfl #[atV A l.length c (i + 1 + 1) e, .string wNull] (by rfl) rfl rfl (by (try simp only [List.map_toArray, List.map_cons, List.map_nil]); first | done | rfl) ?_; refine (r_must (H25.out.C HC.out) HI1.out HL2.out hl wNull).mono ?_; rintro e' w23 ⟨rfl, b13⟩; refine ⟨_, rfl, ?_⟩; have H24 := Lib.hid (H25.out.below b13); refine hK.out _ _ (⟨blk_below hHeld.1 b13, blk_below hHeld.2 b13⟩) (fun hHeld => ?_); clear hK K; refine norm_ (a' := ?_) ?_ ?_; rotate_left
            · show Act.put _ (some 54) _ = _
              simp only [Act.put, sa_, sz_, ss_, i64_w, i32_w, atV]; rfl
            obtain ⟨lc22_0, lc22_1, lc22_2, lf22_0, lf22_1, lf22_2⟩ := bw3_ (H24.out.get 3 rfl); have nn51 := H24.out.ne 3 4 rfl rfl (by decide); have nm51 := nn51.symm; have nn52 := H24.out.ne 3 1 rfl rfl (by decide); have nm52 := nn52.symm; have nn53 := H24.out.ne 3 2 rfl rfl (by decide); have nm53 := nn53.symm
            refine one_ (i := 6) (N := none) #[true, true, true, true, true, true, true, false] rfl rfl (by kernel_rfl) (by decide) (fun K hK => ?_); refine skip_ (w1 := ?_) (by rfl) rfl ?_ ?_; rotate_left
            · go_simp
              rfl
            refine hK.out _ _ (⟨chg3_.blk hHeld.1 (H24.out.ne 4 3 rfl rfl (by decide)), chg3_.blk hHeld.2 (H24.out.ne 1 3 rfl rfl (by decide))⟩) (fun hHeld2 => ?_); clear hK K
            obtain ⟨lc23_0, lc23_1, lc23_2, lc23_3, lc23_4, lc23_5, lc23_6, lc23_7, lc23_8, lf23_0, lf23_1, lf23_2, lf23_3, lf23_4, lf23_5, lf23_6, lf23_7, lf23_8⟩ := bw9_ (H24.out.get 2 rfl)
            refine last_ (i := 7) (N := none) #[true, true, true, true, true, true, true, true] rfl rfl (by kernel_rfl) (by decide) (fun K hK => ?_); refine skip_ (w1 := ?_) (by rfl) rfl ?_ ?_; rotate_left
            · go_simp
              rfl
            refine hK.out _ _ ?_; clear hK K; refine done_ (by kernel_rfl) ?_
            try go_wp2
            have Hx := H24.out
            have Hy := ((Hx.put 3 rfl (put3_ (v0 := .slice A l.length c) (v1 := .int .i64 (muI l (i + 1 + 1) e wNull)) (v2 := .int .i64 (muE l (i + 1 + 1) e wNull)) (Hx.get 3 rfl)) chg3_).put 2 rfl (put9_ (v0 := .int .i64 14) (v1 := .string ⟨#[]⟩) (v2 := .string ⟨#[]⟩) (v3 := .int .i64 0) (v4 := .int .i64 0) (v5 := .int .i64 0) (v6 := .int .i64 0) (v7 := .string ⟨#[]⟩) (v8 := .slice A6 1 c6) ((Hx.put 3 rfl (put3_ (v0 := .slice A l.length c) (v1 := .int .i64 (muI l (i + 1 + 1) e wNull)) (v2 := .int .i64 (muE l (i + 1 + 1) e wNull)) (Hx.get 3 rfl)) chg3_).get 2 rfl)) chg9_)
            have hm := mu_le (l := l) (i := i + 1 + 1) (e := e) (s := wNull) HI1.out HL2.out
            exact bodyPost_ret (results_cc rfl _ _ _ _ 95 27 _ _ (0, 0) (0, 0) _ _ rfl (Hy.get 3 rfl) Try.underlying95 rfl (by kernel_rfl) rfl (Hy.get 2 rfl) Try.underlying27 rfl (by kernel_rfl)) rfl (HTT.out _ _ (Hy.done (r := ⟨muI l (i + 1 + 1) e wNull, d', muE l (i + 1 + 1) e wNull, ofP 14 [x]⟩) (Hy.out 0 rfl) hm.1 hm.2))
theorem r_test (k : Nat) (hp : RGOK k .sum) : RGOK (k + 1) .test := by
  intro w A c l i d e r hC h0 h1 hl d0 d50 hr
  simp only [rr] at hr
  obtain ⟨r0, hr0, hr⟩ := Option.bind_eq_some_iff.1 hr
  cases hf : six.find? (fun s => isP l r0.i r0.e s) with
  | none =>
    rw [hf] at hr
    obtain rfl := Option.some.inj hr
    exact r_test_none hp hC h0 h1 hl d0 d50 hr0 hf
  | some s =>
    rw [hf] at hr
    obtain ⟨r1, hr1, hr⟩ := Option.bind_eq_some_iff.1 hr
    obtain rfl := Option.some.inj hr
    exact r_test_some hp hC h0 h1 hl d0 d50 hr0 hf hr1
end Go.Proofs.Ytcfgjaggccnoaaa.PParseSmall
namespace Go.Proofs.Ytcfgjaggccnoaaa.PParseSmall
open Go.RowKit Go.Proofs.YtcfgjaggccnoaaaW.PrintWords Go.Proofs.YtcfgjaggccnoaaaW.PrintLast Go.Proofs.YtcfgjaggccnoaaaW.PrintMore
attribute [local go_sem] max2_int min2_int max_two min_two max_three min_three max_four min_four
set_option linter.unusedVariables false
set_option linter.unusedSimpArgs false
set_option maxRecDepth 100000
set_option maxHeartbeats 4000000
theorem r_not (k : Nat) (hN : RGOK k .not) (hT : RGOK k .test) : RGOK (k + 1) .not := by
  intro w A c l i d e r hC h0 h1 hl d0 d50 hr
  simp only [rr] at hr
  change Calls Try.prog 125 _ _ _
  cases g1 : isP l i e wNot with
  | false =>
    rw [g1, if_neg (by decide)] at hr
    exact r_not_no hT hC h0 h1 hl d0 d50 g1 hr
  | true =>
    rw [g1, if_pos rfl] at hr
    by_cases hd : d = 50
    · rw [if_pos hd] at hr
      obtain rfl := Option.some.inj hr
      exact r_not_deep (k := k) (r := ⟨0, 0, 0, zx27⟩) hC h0 h1 hl d0 d50 g1 hd
    · rw [if_neg hd] at hr
      obtain ⟨r1, hr1, hr⟩ := Option.bind_eq_some_iff.1 hr
      obtain rfl := Option.some.inj hr
      exact r_not_yes hN hC h0 h1 hl d0 d50 g1 hd hr1
theorem r_atom (k : Nat) (hp : RGOK k .or) : RGOK (k + 1) .atom := by
  intro w A c l i d e r hC h0 h1 hl d0 d50 hr
  simp only [rr] at hr
  change Calls Try.prog 180 _ _ _
  by_cases c1 : (tokP l i e).f0 = 3
  · rw [if_pos c1] at hr
    obtain rfl := Option.some.inj hr
    exact r_atom_int hC h0 h1 hl c1
  rw [if_neg c1] at hr
  by_cases c2 : (tokP l i e).f0 = 4
  · rw [if_pos c2] at hr
    obtain rfl := Option.some.inj hr
    exact r_atom_txt hC h0 h1 hl c2
  rw [if_neg c2] at hr
  cases c3 : isP l i e wNull with
  | true =>
    rw [c3, if_pos rfl] at hr
    obtain rfl := Option.some.inj hr
    exact r_atom_null hC h0 h1 hl ⟨c1, c2⟩ c3
  | false =>
    rw [c3, if_neg (by decide)] at hr
    cases c4 : isP l i e wOpen with
    | false =>
      rw [c4, if_neg (by decide)] at hr
      obtain rfl := Option.some.inj hr
      exact r_atom_col hC h0 h1 hl ⟨c1, c2⟩ c3 c4
    | true =>
      rw [c4, if_pos rfl] at hr
      by_cases hd : d = 50
      · rw [if_pos hd] at hr
        obtain rfl := Option.some.inj hr
        exact r_atom_deep hC h0 h1 hl ⟨c1, c2⟩ c3 c4 hd
      · rw [if_neg hd] at hr
        obtain ⟨r1, hr1, hr⟩ := Option.bind_eq_some_iff.1 hr
        obtain rfl := Option.some.inj hr
        exact r_atom_open hp hC h0 h1 hl ⟨c1, c2⟩ c3 c4 d0 d50 hd hr1
theorem rgok (k : Nat) : ∀ j, j ≤ k → ∀ p, RGOK j p := by
  induction k with
  | zero =>
    intro j hj p w A c l i d e r _ _ _ _ _ _ hr
    obtain rfl : j = 0 := by omega
    simp only [rr] at hr
    exact absurd hr (by simp)
  | succ k ih =>
    intro j hj p
    rcases Nat.lt_or_ge j (k + 1) with h | h
    · exact ih j (by omega) p
    · obtain rfl : j = k + 1 := by omega
      cases p with
      | or => exact r_or k fun j hj => ih j hj _
      | and => exact r_and k fun j hj => ih j hj _
      | not => exact r_not k (ih k (Nat.le_refl k) _) (ih k (Nat.le_refl k) _)
      | test => exact r_test k (ih k (Nat.le_refl k) _)
      | sum => exact r_sum k fun j hj => ih j hj _
      | prod => exact r_prod k fun j hj => ih j hj _
      | atom => exact r_atom k (ih k (Nat.le_refl k) _)
def StaD (w : World) (l : List S91) (e : Int) (r : Ending) (w' : World) : Prop := ∃ A c, r = .returned (atV A l.length c 0 e) ∧ Kd.C k91 w' A l.length l ∧ Below w.heap.size w w'
theorem r_start (k : Nat) (s : ByteArray) (l : List S91) (e : Int) (w : World) (h : r07_All.f k s = some (l, e)) :
    Calls Try.prog 46 #[.string s] w (StaD w l e) := by
  have HA := Lib.hid h; clear h
  have H0 := Lib.hid (RS.start w)
  go_enter Try.func46, Try.ntmps46
  go_wp2_with (first
    | ((with_reducible refine gate_dst (N := 2) rfl ?_); refine box_event ?hg (N := 2) ?hd (cs := #[.slice none 0 0, .int .i64 0, .int .i64 0]) (t := 95) ?hr ?_; (case hd => rfl); (case hg => rfl); (case hr => first | (go_simp; done) | (go_simp; rfl)); intro g2 hg_ w1 hb_ hl_; have H1 := Lib.hid (H0.out.box hb_ hl_ (Nat.le_of_eq hg_.symm)); clear hb_ hl_ hg_ H0; simp only [Act.put, sa_, sz_, ss_]; obtain ⟨lc23_0, lc23_1, lc23_2, lf23_0, lf23_1, lf23_2⟩ := bw3_ (H1.out.get 0 rfl))
    | ((with_reducible refine gate_callee (f := 17) rfl ?_); refine goesL_ (some 7) rfl rfl Try.func17 (by kernel_rfl) rfl #[.string s] rfl (by (try simp only [List.map_toArray, List.map_cons, List.map_nil]); first | done | rfl) ?_; refine (r07_All.calls k s l e w1 HA.out).mono ?_; rintro r' w2 ⟨v, rfl, hr, hb⟩; refine ⟨_, rfl, ?_⟩; simp only [Act.put, sa_, sz_, ss_]; have HR := Lib.hid (Kd.R_bound hr); obtain ⟨A, c, rfl, hc, hC⟩ := Kd.R_reads hr; have H2 := Lib.hid (H1.out.below hb); have HG := Lib.hid (H1.out.lt (List.mem_of_getElem? (i := 0) rfl)); clear hr hb hC H1; obtain ⟨lc1_0, lc1_1, lc1_2, lf1_0, lf1_1, lf1_2⟩ := bw3_ (H2.out.get 0 rfl)))
  have H3 := H2.out.put 0 rfl (put3_ (v0 := .slice A l.length c) (v1 := .int .i64 0) (v2 := .int .i64 e) (H2.out.get 0 rfl)) chg3_
  refine bodyPost_ret (results_cell_row rfl _ _ _ 95 _ (0, 0) _ rfl (H3.get 0 rfl) Try.underlying95 rfl (by kernel_rfl)) rfl ⟨A, c, rfl, ?_, H3.bl⟩
  exact (Kd.R_reads' (Kd.R_keep HR.out chg3_.2 (fun k hk => by have := hk.2.1; have h2 : g2 < w1.heap.size := HG.out; omega))).2.2
theorem r_finish {l : List S91} {A : Option Addr} {c : Nat} {i e : Int} {w : World} (hC : Kd.C k91 w A l.length l) (h0 : 0 ≤ i) :
    Calls Try.prog 47 #[atV A l.length c i e] w fun r w' => r = .returned (atV A l.length c i (fiE l i e)) ∧ Below w.heap.size w w' := by
  have HC := Lib.hid hC; clear hC
  have H0 := Lib.hid (RS.start w)
  obtain ⟨kk, hkk⟩ : ∃ kk, kiP l i e = kk := ⟨_, rfl⟩
  have hf : fiE l i e = if kk = 0 then e else flE e 1 := by
    unfold fiE
    unfold kiP at hkk
    by_cases he : e = 0
    · by_cases hi : i < l.length
      · rw [if_pos ⟨he, hi⟩] at hkk
        have ht : tokP l i 0 = rd_T91 l i := if_pos ⟨rfl, hi⟩
        rw [ht, ← hkk]
        by_cases hk : (rd_T91 l i).f0 = 0
        · rw [if_pos ⟨he, hi, hk⟩, if_pos hk, he]
        · rw [if_neg (fun q => hk q.2.2), if_neg hk]
      · rw [if_neg (fun q => hi q.2)] at hkk
        rw [if_neg (fun q => hi q.2.1), if_neg (by omega)]
    · rw [if_neg (fun q => he q.1)] at hkk
      rw [if_neg (fun q => he q.1), if_neg (by omega)]
  rw [hf]
  have HK := Lib.hid hkk
  clear hkk hf
  by_cases hk : kk = 0
  · subst hk
    rw [if_pos rfl]
    go_enter Try.func47, Try.ntmps47
    go_wp2_with (first
      | ((with_reducible refine gate_dst (N := 1) rfl ?_); refine box_event ?hg (N := 1) ?hd (cs := #[.slice A l.length c, .int .i64 i, .int .i64 e]) (t := 95) ?hr ?_; (case hd => rfl); (case hg => rfl); (case hr => first | (go_simp; done) | (go_simp; rfl)); intro g1 hg_ w1 hb_ hl_; have H1 := Lib.hid (H0.out.box hb_ hl_ (Nat.le_of_eq hg_.symm)); clear hb_ hl_ hg_ H0; simp only [Act.put, sa_, sz_, ss_])
      | ((with_reducible refine gate_dst (N := 2) rfl ?_); refine box_event ?hg (N := 2) ?hd (cs := #[.slice none 0 0, .int .i64 0, .int .i64 0]) (t := 95) ?hr ?_; (case hd => rfl); (case hg => rfl); (case hr => first | (go_simp; done) | (go_simp; rfl)); intro g2 hg_ w2 hb_ hl_; have H2 := Lib.hid (H1.out.box hb_ hl_ (Nat.le_of_eq hg_.symm)); clear hb_ hl_ hg_ H1; simp only [Act.put, sa_, sz_, ss_]; obtain ⟨lc24_0, lc24_1, lc24_2, lf24_0, lf24_1, lf24_2⟩ := bw3_ (H2.out.get 1 rfl))
      | ((with_reducible refine gate_callee (f := 94) rfl ?_); refine goesL_ (some 4) rfl rfl Try.func94 (by kernel_rfl) rfl #[atV A l.length c i e] rfl (by (try simp only [List.map_toArray, List.map_cons, List.map_nil]); first | done | rfl) ?_; refine (r_kind (H2.out.C HC.out) h0 HK.out).mono ?_; rintro r' w3 ⟨rfl, b3⟩; refine ⟨_, rfl, ?_⟩; simp only [Act.put, sa_, sz_, ss_]; have H3 := Lib.hid (H2.out.below b3); clear b3 H2; obtain ⟨lc2_0, lc2_1, lc2_2, lf2_0, lf2_1, lf2_2⟩ := bw3_ (H3.out.get 1 rfl); obtain ⟨lc3_0, lc3_1, lc3_2, lf3_0, lf3_1, lf3_2⟩ := bw3_ (H3.out.get 0 rfl); have nn13 := H3.out.ne 0 1 rfl rfl (by decide); have nm13 := nn13.symm))
    have H4 := H3.out.put 0 rfl (put3_ (v0 := .slice A l.length c) (v1 := .int .i64 i) (v2 := .int .i64 e) (H3.out.get 0 rfl)) chg3_
    exact bodyPost_ret (results_cell_row rfl _ _ _ 95 _ (0, 0) _ rfl (H4.get 0 rfl) Try.underlying95 rfl (by kernel_rfl)) rfl ⟨rfl, H4.bl⟩
  · rw [if_neg hk]
    have hk2 : (kk != 0) = true := bne_iff_ne.2 hk
    clear hk
    go_enter Try.func47, Try.ntmps47
    go_wp2_with (first
      | ((with_reducible refine gate_dst (N := 1) rfl ?_); refine box_event ?hg (N := 1) ?hd (cs := #[.slice A l.length c, .int .i64 i, .int .i64 e]) (t := 95) ?hr ?_; (case hd => rfl); (case hg => rfl); (case hr => first | (go_simp; done) | (go_simp; rfl)); intro g1 hg_ w1 hb_ hl_; have H1 := Lib.hid (H0.out.box hb_ hl_ (Nat.le_of_eq hg_.symm)); clear hb_ hl_ hg_ H0; simp only [Act.put, sa_, sz_, ss_])
      | ((with_reducible refine gate_dst (N := 2) rfl ?_); refine box_event ?hg (N := 2) ?hd (cs := #[.slice none 0 0, .int .i64 0, .int .i64 0]) (t := 95) ?hr ?_; (case hd => rfl); (case hg => rfl); (case hr => first | (go_simp; done) | (go_simp; rfl)); intro g2 hg_ w2 hb_ hl_; have H2 := Lib.hid (H1.out.box hb_ hl_ (Nat.le_of_eq hg_.symm)); clear hb_ hl_ hg_ H1; simp only [Act.put, sa_, sz_, ss_]; obtain ⟨lc25_0, lc25_1, lc25_2, lf25_0, lf25_1, lf25_2⟩ := bw3_ (H2.out.get 1 rfl))
      | ((with_reducible refine gate_callee (f := 94) rfl ?_); refine goesL_ (some 4) rfl rfl Try.func94 (by kernel_rfl) rfl #[atV A l.length c i e] rfl (by (try simp only [List.map_toArray, List.map_cons, List.map_nil]); first | done | rfl) ?_; refine (r_kind (H2.out.C HC.out) h0 HK.out).mono ?_; rintro r' w3 ⟨rfl, b3⟩; refine ⟨_, rfl, ?_⟩; simp only [Act.put, sa_, sz_, ss_]; have H3 := Lib.hid (H2.out.below b3); clear b3 H2; obtain ⟨lc4_0, lc4_1, lc4_2, lf4_0, lf4_1, lf4_2⟩ := bw3_ (H3.out.get 1 rfl))
      | ((with_reducible refine gate_callee (f := 95) rfl ?_); refine goesL_ (some 7) rfl rfl Try.func95 (by kernel_rfl) rfl #[atV A l.length c i e, .int .i64 1] rfl (by (try simp only [List.map_toArray, List.map_cons, List.map_nil]); first | done | rfl) ?_; refine (r_fail A l.length c i e 1 w3).mono ?_; rintro r' w4 ⟨rfl, b4⟩; refine ⟨_, rfl, ?_⟩; simp only [Act.put, sa_, sz_, ss_]; simp only [atV]; have H4 := Lib.hid (H3.out.below b4); clear b4 H3; obtain ⟨lc5_0, lc5_1, lc5_2, lf5_0, lf5_1, lf5_2⟩ := bw3_ (H4.out.get 0 rfl)))
    have H5 := H4.out.put 0 rfl (put3_ (v0 := .slice A l.length c) (v1 := .int .i64 i) (v2 := .int .i64 (flE e 1)) (H4.out.get 0 rfl)) chg3_
    exact bodyPost_ret (results_cell_row rfl _ _ _ 95 _ (0, 0) _ rfl (H5.get 0 rfl) Try.underlying95 rfl (by kernel_rfl)) rfl ⟨rfl, H5.bl⟩
theorem r_expr_ok (k : Nat) (s : ByteArray) (l : List S91) (e0 : Int) (r : Re) (w : World) (hl : l.length ≤ 1000000) (h : r07_All.f k s = some (l, e0)) (k2 : Nat) (hr : rr l k2 (.f .or) 0 0 e0 = some r) (he : fiE l r.i r.e = 0) :
    Calls Try.prog 19 #[.string s] w (Ends w r.x 0) := by
  have HA := Lib.hid h; clear h
  have HR := Lib.hid hr; clear hr
  have HE := Lib.hid he; clear he
  have H0 := Lib.hid (RS.start w)
  go_enter Try.func19, Try.ntmps19
  go_wp2_with (first
    | ((with_reducible refine gate_dst (N := 2) rfl ?_); refine box_event ?hg (N := 2) ?hd (cs := #[.int .i64 0, .string (⟨#[]⟩ : ByteArray), .string (⟨#[]⟩ : ByteArray), .int .i64 0, .int .i64 0, .int .i64 0, .int .i64 0, .string (⟨#[]⟩ : ByteArray), .slice none 0 0]) (t := 27) ?hr ?_; (case hd => rfl); (case hg => rfl); (case hr => first | (go_simp; done) | (go_simp; rfl)); intro g2 hg_ w1 hb_ hl_; have H1 := Lib.hid (H0.out.box hb_ hl_ (Nat.le_of_eq hg_.symm)); clear hb_ hl_ hg_ H0; simp only [Act.put, sa_, sz_, ss_])
    | ((with_reducible refine gate_callee (f := 46) rfl ?_); refine goesL_ (some 8) rfl rfl Try.func46 (by kernel_rfl) rfl #[.string s] rfl (by (try simp only [List.map_toArray, List.map_cons, List.map_nil]); first | done | rfl) ?_; refine (r_start k s l e0 w1 HA.out).mono ?_; rintro r' w2 ⟨A, c, rfl, hC, b2⟩; refine ⟨_, rfl, ?_⟩; simp only [Act.put, sa_, sz_, ss_]; simp only [atV]; have H2 := Lib.hid (H1.out.below b2); have HC := Lib.hid hC; clear b2 hC H1)
    | ((with_reducible refine gate_callee (f := 45) rfl ?_); refine goesL_ (some 9) rfl rfl Try.func45 (by kernel_rfl) rfl #[atV A l.length c 0 e0, .int .i64 0] rfl (by (try simp only [List.map_toArray, List.map_cons, List.map_nil]); first | done | rfl) ?_; refine (rgok k2 k2 (Nat.le_refl k2) .or _ _ _ _ _ _ _ _ HC.out (Int.le_refl 0) (Int.natCast_nonneg _) hl (Int.le_refl 0) (by decide) HR.out).mono ?_; rintro r' w3 ⟨vA, vc, rfl, t3, b3, i3, j3⟩; refine ⟨_, rfl, ?_⟩; simp only [Act.put, sa_, sz_, ss_]; simp only [atV, exV]; have H3 := Lib.hid (H2.out.call b3 t3); have I3 := Lib.hid (And.intro i3 j3); have HC3 := Lib.hid (Kd.C_old HC.out b3); clear t3 b3 i3 j3 H2)
    | ((with_reducible refine gate_dst (N := 4) rfl ?_); refine box_event ?hg (N := 4) ?hd (cs := #[.slice none 0 0, .int .i64 0, .int .i64 0]) (t := 95) ?hr ?_; (case hd => rfl); (case hg => rfl); (case hr => first | (go_simp; done) | (go_simp; rfl)); intro g4 hg_ w4 hb_ hl_; have X4 := Lib.hid hl_; have G4 := Lib.hid (Nat.le_of_eq hg_.symm); have H4 := Lib.hid (H3.out.box hb_ hl_ (Nat.le_of_eq hg_.symm)); clear hb_ hl_ hg_ H3; simp only [Act.put, sa_, sz_, ss_])
    | (((with_reducible refine gate_dst (N := 5) rfl ?_); refine box_event ?hg (N := 5) ?hd (cs := #[.int .i64 0, .string (⟨#[]⟩ : ByteArray), .string (⟨#[]⟩ : ByteArray), .int .i64 0, .int .i64 0, .int .i64 0, .int .i64 0, .string (⟨#[]⟩ : ByteArray), .slice none 0 0]) (t := 27) ?hr ?_; (case hd => rfl); (case hg => rfl); (case hr => first | (go_simp; done) | (go_simp; rfl)); intro g5 hg_ w5 hb_ hl_; have X5 := Lib.hid (X4.out.trans (hl_.mono X4.out.size)); have G5 := Lib.hid (Nat.le_trans X4.out.size (Nat.le_of_eq hg_.symm)); have H5 := Lib.hid (H4.out.box hb_ hl_ (Nat.le_of_eq hg_.symm)); clear hb_ hl_ hg_ H4; simp only [Act.put, sa_, sz_, ss_]; obtain ⟨lc26_0, lc26_1, lc26_2, lc26_3, lc26_4, lc26_5, lc26_6, lc26_7, lc26_8, lf26_0, lf26_1, lf26_2, lf26_3, lf26_4, lf26_5, lf26_6, lf26_7, lf26_8⟩ := bw9_ (H5.out.get 0 rfl); obtain ⟨lc27_0, lc27_1, lc27_2, lf27_0, lf27_1, lf27_2⟩ := bw3_ (H5.out.get 1 rfl)); have nn14 := H5.out.ne 0 1 rfl rfl (by decide); have nm14 := nn14.symm)
    | ((with_reducible refine gate_callee (f := 47) rfl ?_); refine goesL_ (some 13) rfl rfl Try.func47 (by kernel_rfl) rfl #[atV A l.length c r.i r.e] rfl (by (try simp only [List.map_toArray, List.map_cons, List.map_nil]); first | done | rfl) ?_; refine (r_finish (Kd.C_old HC3.out ((X5.out.trans (chg3_.1.mono G4.out)).trans (chg9_.1.mono G5.out))) I3.out.1).mono ?_; rintro r' w6 ⟨rfl, b6⟩; refine ⟨_, rfl, ?_⟩; simp only [Act.put, sa_, sz_, ss_]; rw [HE.out] at *; simp only [atV]; have H6 := Lib.hid (((H5.out.put 1 rfl (put3_ (H5.out.get 1 rfl)) chg3_).put 0 rfl (put9_ ((H5.out.put 1 rfl (put3_ (H5.out.get 1 rfl)) chg3_).get 0 rfl)) chg9_).below b6); clear b6 H5; obtain ⟨lc6_0, lc6_1, lc6_2, lf6_0, lf6_1, lf6_2⟩ := bw3_ (H6.out.get 1 rfl); obtain ⟨lc7_0, lc7_1, lc7_2, lc7_3, lc7_4, lc7_5, lc7_6, lc7_7, lc7_8, lf7_0, lf7_1, lf7_2, lf7_3, lf7_4, lf7_5, lf7_6, lf7_7, lf7_8⟩ := bw9_ (H6.out.get 0 rfl); obtain ⟨lc8_0, lc8_1, lc8_2, lc8_3, lc8_4, lc8_5, lc8_6, lc8_7, lc8_8, lf8_0, lf8_1, lf8_2, lf8_3, lf8_4, lf8_5, lf8_6, lf8_7, lf8_8⟩ := bw9_ (H6.out.get 2 rfl); have nn15 := H6.out.ne 0 1 rfl rfl (by decide); have nm15 := nn15.symm; have nn16 := H6.out.ne 0 2 rfl rfl (by decide); have nm16 := nn16.symm; have nn17 := H6.out.ne 1 2 rfl rfl (by decide); have nm17 := nn17.symm))
  have H7 := H6.out.put 1 rfl (put3_ (v0 := .slice A l.length c) (v1 := .int .i64 r.i) (v2 := .int .i64 0) (H6.out.get 1 rfl)) chg3_
  have H8 := H7.put 2 rfl (put9_ (v0 := .int .i64 r.x.f0) (v1 := .string r.x.f1) (v2 := .string r.x.f2) (v3 := .int .i64 r.x.f3) (v4 := .int .i64 r.x.f4) (v5 := .int .i64 r.x.f5.f0) (v6 := .int .i64 r.x.f5.f1) (v7 := .string r.x.f5.f2) (v8 := .slice vA r.x.f6.length vc) (H7.get 2 rfl)) chg9_
  exact bodyPost_ret (results_ct rfl _ _ _ 27 _ (0, 0) _ rfl (H8.get 2 rfl) Try.underlying27 rfl (by kernel_rfl)) rfl ⟨vA, vc, rfl, H8.out 0 rfl, H8.bl⟩
theorem r_expr_err (k : Nat) (s : ByteArray) (l : List S91) (e0 e1 : Int) (r : Re) (w : World) (hl : l.length ≤ 1000000) (h : r07_All.f k s = some (l, e0)) (k2 : Nat) (hr : rr l k2 (.f .or) 0 0 e0 = some r) (he : fiE l r.i r.e = e1) (h1 : e1 ≠ 0) :
    Calls Try.prog 19 #[.string s] w (Ends w zx27 e1) := by
  have HA := Lib.hid h; clear h
  have HR := Lib.hid hr; clear hr
  have HE := Lib.hid he; clear he
  have h1b : (e1 != 0) = true := bne_iff_ne.2 h1
  clear h1
  have H0 := Lib.hid (RS.start w)
  go_enter Try.func19, Try.ntmps19
  go_wp2_with (first
    | ((with_reducible refine gate_dst (N := 2) rfl ?_); refine box_event ?hg (N := 2) ?hd (cs := #[.int .i64 0, .string (⟨#[]⟩ : ByteArray), .string (⟨#[]⟩ : ByteArray), .int .i64 0, .int .i64 0, .int .i64 0, .int .i64 0, .string (⟨#[]⟩ : ByteArray), .slice none 0 0]) (t := 27) ?hr ?_; (case hd => rfl); (case hg => rfl); (case hr => first | (go_simp; done) | (go_simp; rfl)); intro g2 hg_ w1 hb_ hl_; have H1 := Lib.hid (H0.out.box hb_ hl_ (Nat.le_of_eq hg_.symm)); clear hb_ hl_ hg_ H0; simp only [Act.put, sa_, sz_, ss_])
    | ((with_reducible refine gate_callee (f := 46) rfl ?_); refine goesL_ (some 8) rfl rfl Try.func46 (by kernel_rfl) rfl #[.string s] rfl (by (try simp only [List.map_toArray, List.map_cons, List.map_nil]); first | done | rfl) ?_; refine (r_start k s l e0 w1 HA.out).mono ?_; rintro r' w2 ⟨A, c, rfl, hC, b2⟩; refine ⟨_, rfl, ?_⟩; simp only [Act.put, sa_, sz_, ss_]; simp only [atV]; have H2 := Lib.hid (H1.out.below b2); have HC := Lib.hid hC; clear b2 hC H1)
    | ((with_reducible refine gate_callee (f := 45) rfl ?_); refine goesL_ (some 9) rfl rfl Try.func45 (by kernel_rfl) rfl #[atV A l.length c 0 e0, .int .i64 0] rfl (by (try simp only [List.map_toArray, List.map_cons, List.map_nil]); first | done | rfl) ?_; refine (rgok k2 k2 (Nat.le_refl k2) .or _ _ _ _ _ _ _ _ HC.out (Int.le_refl 0) (Int.natCast_nonneg _) hl (Int.le_refl 0) (by decide) HR.out).mono ?_; rintro r' w3 ⟨vA, vc, rfl, t3, b3, i3, j3⟩; refine ⟨_, rfl, ?_⟩; simp only [Act.put, sa_, sz_, ss_]; simp only [atV, exV]; have H3 := Lib.hid (H2.out.call b3 t3); have I3 := Lib.hid (And.intro i3 j3); have HC3 := Lib.hid (Kd.C_old HC.out b3); clear t3 b3 i3 j3 H2)
    | ((with_reducible refine gate_dst (N := 4) rfl ?_); refine box_event ?hg (N := 4) ?hd (cs := #[.slice none 0 0, .int .i64 0, .int .i64 0]) (t := 95) ?hr ?_; (case hd => rfl); (case hg => rfl); (case hr => first | (go_simp; done) | (go_simp; rfl)); intro g4 hg_ w4 hb_ hl_; have X4 := Lib.hid hl_; have G4 := Lib.hid (Nat.le_of_eq hg_.symm); have H4 := Lib.hid (H3.out.box hb_ hl_ (Nat.le_of_eq hg_.symm)); clear hb_ hl_ hg_ H3; simp only [Act.put, sa_, sz_, ss_])
    | (((with_reducible refine gate_dst (N := 5) rfl ?_); refine box_event ?hg (N := 5) ?hd (cs := #[.int .i64 0, .string (⟨#[]⟩ : ByteArray), .string (⟨#[]⟩ : ByteArray), .int .i64 0, .int .i64 0, .int .i64 0, .int .i64 0, .string (⟨#[]⟩ : ByteArray), .slice none 0 0]) (t := 27) ?hr ?_; (case hd => rfl); (case hg => rfl); (case hr => first | (go_simp; done) | (go_simp; rfl)); intro g5 hg_ w5 hb_ hl_; have X5 := Lib.hid (X4.out.trans (hl_.mono X4.out.size)); have G5 := Lib.hid (Nat.le_trans X4.out.size (Nat.le_of_eq hg_.symm)); have H5 := Lib.hid (H4.out.box hb_ hl_ (Nat.le_of_eq hg_.symm)); clear hb_ hl_ hg_ H4; simp only [Act.put, sa_, sz_, ss_]; obtain ⟨lc28_0, lc28_1, lc28_2, lc28_3, lc28_4, lc28_5, lc28_6, lc28_7, lc28_8, lf28_0, lf28_1, lf28_2, lf28_3, lf28_4, lf28_5, lf28_6, lf28_7, lf28_8⟩ := bw9_ (H5.out.get 0 rfl); obtain ⟨lc29_0, lc29_1, lc29_2, lf29_0, lf29_1, lf29_2⟩ := bw3_ (H5.out.get 1 rfl)); have nn18 := H5.out.ne 0 1 rfl rfl (by decide); have nm18 := nn18.symm)
    | ((with_reducible refine gate_callee (f := 47) rfl ?_); refine goesL_ (some 13) rfl rfl Try.func47 (by kernel_rfl) rfl #[atV A l.length c r.i r.e] rfl (by (try simp only [List.map_toArray, List.map_cons, List.map_nil]); first | done | rfl) ?_; refine (r_finish (Kd.C_old HC3.out ((X5.out.trans (chg3_.1.mono G4.out)).trans (chg9_.1.mono G5.out))) I3.out.1).mono ?_; rintro r' w6 ⟨rfl, b6⟩; refine ⟨_, rfl, ?_⟩; simp only [Act.put, sa_, sz_, ss_]; rw [HE.out] at *; simp only [atV]; have H6 := Lib.hid (((H5.out.put 1 rfl (put3_ (H5.out.get 1 rfl)) chg3_).put 0 rfl (put9_ ((H5.out.put 1 rfl (put3_ (H5.out.get 1 rfl)) chg3_).get 0 rfl)) chg9_).below b6); clear b6 H5; obtain ⟨lc9_0, lc9_1, lc9_2, lf9_0, lf9_1, lf9_2⟩ := bw3_ (H6.out.get 1 rfl); obtain ⟨lc10_0, lc10_1, lc10_2, lc10_3, lc10_4, lc10_5, lc10_6, lc10_7, lc10_8, lf10_0, lf10_1, lf10_2, lf10_3, lf10_4, lf10_5, lf10_6, lf10_7, lf10_8⟩ := bw9_ (H6.out.get 0 rfl); obtain ⟨lc11_0, lc11_1, lc11_2, lc11_3, lc11_4, lc11_5, lc11_6, lc11_7, lc11_8, lf11_0, lf11_1, lf11_2, lf11_3, lf11_4, lf11_5, lf11_6, lf11_7, lf11_8⟩ := bw9_ (H6.out.get 2 rfl); have nn19 := H6.out.ne 0 1 rfl rfl (by decide); have nm19 := nn19.symm; have nn20 := H6.out.ne 0 2 rfl rfl (by decide); have nm20 := nn20.symm; have nn21 := H6.out.ne 1 2 rfl rfl (by decide); have nm21 := nn21.symm))
  refine startX_ (n := 5) (S := fun w' => w'.heap[g4]? = some (.cells (at3 A l.length c r.i e1) 95 (0, 0))) (ds := []) #[false, false, false, false, false] (by kernel_rfl) rfl rfl ((H6.out.put 1 rfl (put3_ (H6.out.get 1 rfl)) chg3_)) (fun w' h => h.get 1 rfl) (fun w22 h_ hHeld => ?_)
  have H22 := Lib.hid h_; clear h_ H6
  refine pure_ (i := 0) (N := some 17) (v := ?_) (a' := ?_) #[true, false, false, false, false] rfl rfl (by kernel_rfl) (fun _ _ _ h => h) (Or.inl ⟨by rfl, ?_⟩) ?_ ?_; rotate_left
  · intro w'
    go_simp; (with_reducible rfl)
  rotate_left
  · simp only [Act.put, sa_, sz_, ss_, i64_w, i32_w]
    rfl
  refine pure_ (i := 1) (N := some 18) (v := ?_) (a' := ?_) #[true, true, false, false, false] rfl rfl (by kernel_rfl) (fun _ _ _ h => h) (Or.inl ⟨by rfl, ?_⟩) ?_ ?_; rotate_left
  · intro w'
    go_simp; (with_reducible rfl)
  rotate_left
  · simp only [Act.put, sa_, sz_, ss_, i64_w, i32_w]
    rfl
  refine take_ (i := 2) (N := some 19) (v := ?_) (a' := ?_) #[true, true, true, false, false] rfl rfl (by kernel_rfl) (fun _ _ _ h => h) (Or.inl ⟨by rfl, ?_⟩) hHeld ?_ ?_; rotate_left
  · intro w' hS; obtain ⟨s0, s1, s2, f0, f1, f2⟩ := bw3_ hS; go_simp; (with_reducible rfl)
  rotate_left
  · simp only [Act.put, sa_, sz_, ss_, i64_w, i32_w]
    rfl
  obtain ⟨lc12_0, lc12_1, lc12_2, lc12_3, lc12_4, lc12_5, lc12_6, lc12_7, lc12_8, lf12_0, lf12_1, lf12_2, lf12_3, lf12_4, lf12_5, lf12_6, lf12_7, lf12_8⟩ := bw9_ (H22.out.get 2 rfl); have nn22 := H22.out.ne 2 1 rfl rfl (by decide); have nm22 := nn22.symm
  refine one_ (i := 3) (N := none) #[true, true, true, true, false] rfl rfl (by kernel_rfl) (by decide) (fun K hK => ?_); refine skip_ (w1 := ?_) (by rfl) rfl ?_ ?_; rotate_left
  · go_simp
    rfl
  refine hK.out _ _ (chg9_.blk hHeld (H22.out.ne 1 2 rfl rfl (by decide))) (fun hHeld2 => ?_); clear hK K
  refine pure_ (i := 4) (N := some 3) (v := ?_) (a' := ?_) #[true, true, true, true, true] rfl rfl (by kernel_rfl) (fun _ _ _ h => h) (Or.inl ⟨by rfl, ?_⟩) ?_ ?_; rotate_left
  · intro w'
    go_simp; (with_reducible rfl)
  rotate_left
  · simp only [Act.put, sa_, sz_, ss_, i64_w, i32_w]
    rfl
  refine done_ (by kernel_rfl) ?_
  clear hHeld hHeld2
  try go_wp2
  have H8 := H22.out.put 2 rfl (put9_ (v0 := .int .i64 0) (v1 := .string ⟨#[]⟩) (v2 := .string ⟨#[]⟩) (v3 := .int .i64 0) (v4 := .int .i64 0) (v5 := .int .i64 0) (v6 := .int .i64 0) (v7 := .string ⟨#[]⟩) (v8 := .slice none 0 0) (H22.out.get 2 rfl)) chg9_
  exact bodyPost_ret (results_ct rfl _ _ _ 27 _ (0, 0) _ rfl (H8.get 2 rfl) Try.underlying27 rfl (by kernel_rfl)) rfl ⟨none, 0, rfl, tr_leaf rfl, H8.bl⟩
end Go.Proofs.Ytcfgjaggccnoaaa.PParseSmall
namespace Go.Proofs.Ytcfgjaggccnoaaa.PParseSmall
open Go.RowKit Go.Proofs.YtcfgjaggccnoaaaW.PrintWords Go.Proofs.YtcfgjaggccnoaaaW.PrintLast Go.Proofs.YtcfgjaggccnoaaaW.PrintMore
attribute [local go_sem] max2_int min2_int max_two min_two max_three min_three max_four min_four
set_option linter.unusedVariables false
set_option linter.unusedSimpArgs false
set_option maxRecDepth 100000
set_option maxHeartbeats 4000000
theorem nodes_pos (x : S27) : 1 ≤ nodes x := by cases x; simp [nodes]
theorem nodes_f6 (x : S27) : nodes x = nodesL x.f6 + 1 := by cases x; simp [nodes]
theorem len_nodes (t : List S27) : t.length ≤ nodesL t := by
  induction t with
  | nil => simp
  | cons y t iht => have := nodes_pos y; simp only [nodesL, List.length_cons]; omega
end Go.Proofs.Ytcfgjaggccnoaaa.PParseSmall
namespace Go.Proofs.Ytcfgjaggccnoaaa.PParseSmall
open Go.RowKit Go.Proofs.YtcfgjaggccnoaaaW.PrintWords Go.Proofs.YtcfgjaggccnoaaaW.PrintLast Go.Proofs.YtcfgjaggccnoaaaW.PrintMore
attribute [local go_sem] max2_int min2_int max_two min_two max_three min_three max_four min_four
set_option linter.unusedVariables false
set_option linter.unusedSimpArgs false
set_option maxRecDepth 100000
set_option maxHeartbeats 4000000
def El (w : World) (ad : Addr) (y : S27) (A8 : Option Addr) (c8 : Nat) : Prop := w.cell? ad = some (.int .i64 y.f0) ∧ w.cell? ⟨ad.block, ad.off + 1, none⟩ = some (.string y.f1) ∧ w.cell? ⟨ad.block, ad.off + 2, none⟩ = some (.string y.f2) ∧ w.cell? ⟨ad.block, ad.off + 3, none⟩ = some (.int .i64 y.f3) ∧ w.cell? ⟨ad.block, ad.off + 4, none⟩ = some (.int .i64 y.f4) ∧ w.cell? ⟨ad.block, ad.off + 5, none⟩ = some (.int .i64 y.f5.f0) ∧ w.cell? ⟨ad.block, ad.off + 6, none⟩ = some (.int .i64 y.f5.f1) ∧ w.cell? ⟨ad.block, ad.off + 7, none⟩ = some (.string y.f5.f2) ∧ w.cell? ⟨ad.block, ad.off + 8, none⟩ = some (.slice A8 y.f6.length c8)
theorem El.below {w w1 : World} {ad : Addr} {y : S27} {A8 : Option Addr} {c8 : Nat} (h : El w ad y A8 c8) (b : Below w.heap.size w w1) : El w1 ad y A8 c8 := by
  obtain ⟨h0, h1, h2, h3, h4, h5, h6, h7, h8⟩ := h
  have hl : ad.block < w.heap.size := World.block_lt_of_cell? w _ h0
  exact ⟨(b.cell (p := ad) hl).trans h0, (b.cell (p := ⟨ad.block, ad.off + 1, none⟩) hl).trans h1, (b.cell (p := ⟨ad.block, ad.off + 2, none⟩) hl).trans h2, (b.cell (p := ⟨ad.block, ad.off + 3, none⟩) hl).trans h3, (b.cell (p := ⟨ad.block, ad.off + 4, none⟩) hl).trans h4, (b.cell (p := ⟨ad.block, ad.off + 5, none⟩) hl).trans h5, (b.cell (p := ⟨ad.block, ad.off + 6, none⟩) hl).trans h6, (b.cell (p := ⟨ad.block, ad.off + 7, none⟩) hl).trans h7, (b.cell (p := ⟨ad.block, ad.off + 8, none⟩) hl).trans h8⟩
theorem el_at {w : World} {A : Option Addr} {n : Nat} {xs : List S27} (h : Kd.C k27 w A n xs) (i : Int) (h0 : 0 ≤ i) (h1 : i < n) : ∃ ad A8 c8, A = some ad ∧ El w (ad.add (i.toNat * 9)) (rd_T27 xs i) A8 c8 ∧ (rd_T27 xs i).f6.length ≤ c8 ∧ Kd.C k27 w A8 (rd_T27 xs i).f6.length (rd_T27 xs i).f6 := by
  obtain ⟨ad, A8, c8, e, t0, t1, t2, t3, t4, t5, t6, t7, t8, l8, g8⟩ := at_T27 h i h0 h1
  exact ⟨ad, A8, c8, e, ⟨t0, t1, t2, t3, t4, t5, t6, t7, t8⟩, l8, g8⟩
def SameOK (x : S27) : Prop := ∀ (A B : Option Addr) (c b : Nat) (w : World), x.f6.length ≤ c → x.f6.length ≤ b → Kd.C k27 w A x.f6.length x.f6 → Kd.C k27 w B x.f6.length x.f6 → Calls Try.prog 21 #[exV x A c, exV x B b] w fun r w' => r = .returned (.bool true) ∧ Below w.heap.size w w'
end Go.Proofs.Ytcfgjaggccnoaaa.PParseSmall
