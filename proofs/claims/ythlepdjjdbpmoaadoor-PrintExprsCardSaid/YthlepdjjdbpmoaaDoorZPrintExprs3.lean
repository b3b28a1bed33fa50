-- Written by wip/pack.py, a program of mine: the texts that this law stands on, as far as it uses them; Lean checks it.
import Derived.Test.YthlepdjjdbpmoaaDoorProg
import Derived.Shelf.LaysM
import Derived.Shelf.Strconv.Itoa3
import Derived.Below
import Derived.Deep.Draws
import Derived.Deep.AppendLies
import Derived.Maps.AppendAt
import Derived.OwnWalk
import Derived.Laws.BytesArg
import Derived.Laws.MakeOwn
import Derived.Laws.OwnMore
import Derived.Deep.OwnRows
import Derived.Tactics
import Derived.Lib.ConvBytes
import Derived.Laws.Slices
import Derived.WalkKit
import Derived.KernelRfl
import Derived.RowKit3
import Derived.Deep.LoopGhost
import Derived.Deep.QuietTactic
import Derived.BigQuiet
import Derived.WideLaws
import Derived.Deep.DeepCutAuto
import Derived.Deep.CutBlock
import Derived.Deep.RegionHeld3
import Derived.Laws.Rows
import Derived.Lib.AppendStr
import Derived.ArgAppend
import Derived.Laws.IdiomCopy
import Derived.RowKit
import Derived.OrdersHeld
import Derived.Laws.BitsLemmas
import Derived.Laws.StructEq
import Derived.Laws.CopyOwn
import Derived.Laws.DeepStrings4
import Derived.Laws.RangeAny
import Derived.Laws.RangeString
import Derived.Laws.Tables
import Derived.Lib.BitFns
import Derived.Lib.Hide
import Derived.Lib.ItoaMem
import Derived.Lib.LaidTab
import Derived.Lib.Slices
import Derived.Lib.Small
import Derived.Lib.SmallJoins
import Derived.Lib.Strings
import Derived.Lib.Walk
import Derived.LoopTactic
import Derived.Lib.SliceRun
import Derived.StillTailTactics
import Derived.Outline
import Derived.Defers
import Derived.Lib.ItoaLen
import Derived.ChangeSlices
import Derived.ChangeOld
import Derived.SizedLaws
import Derived.ProofKit
import Derived.OpenShut
import Derived.Carry
import Derived.Test.YthlepdjjdbpmoaaDoorZPrintExprs2
namespace Go.Proofs.YthlepdjjdbpmoaaDoor.PPrintExprs
open Go.RowKit Go.Proofs.YthlepdjjdbpmoaaDoorW.PrintWords Go.Proofs.YthlepdjjdbpmoaaDoorW.PrintLast Go.Proofs.YthlepdjjdbpmoaaDoorW.PrintMore
attribute [local go_sem] max2_int min2_int max_two min_two max_three min_three max_four min_four
set_option linter.unusedVariables false
set_option linter.unusedSimpArgs false
set_option maxRecDepth 100000
set_option maxHeartbeats 4000000
theorem expr_err (k : Nat) (s : ByteArray) (l : List S142) (e0 e1 : Int) (r : Re) (w : World) (hl : l.length ≤ 1000000) (h : token_All.f k s = some (l, e0)) (k2 : Nat) (hr : pr l k2 (.f .or) 0 0 e0 = some r) (he : enE l r.i r.e = e1) (h1 : e1 ≠ 0) :
    Calls Tryd.prog 21 #[.string s] w (Ends w zx27 e1) := by
  have HA := Lib.hid h; clear h
  have HR := Lib.hid hr; clear hr
  have HE := Lib.hid he; clear he
  have H1 := Lib.hid h1; clear h1
  go_enter Tryd.func21, Tryd.ntmps21
  go_wp2_with (first
    | (((with_reducible refine gate_dst (N := 2) rfl ?_); refine box_event ?hg (N := 2) ?hd (cs := #[.int .i64 0, .string (⟨#[]⟩ : ByteArray), .string (⟨#[]⟩ : ByteArray), .int .i64 0, .int .i64 0, .int .i64 0, .int .i64 0, .string (⟨#[]⟩ : ByteArray), .slice none 0 0]) (t := 26) ?hr ?_; (case hd => rfl); (case hg => rfl); (case hr => first | (go_simp; done) | (go_simp; rfl)); intro gb2 hg_ w1 hb_ hl_; have BKgb2 := am_ hb_; have HLgb2 := am_ hl_; have HGgb2 := am_ (Nat.le_of_eq hg_.symm); obtain ⟨zgb2_0, zgb2_1, zgb2_2, zgb2_3, zgb2_4, zgb2_5, zgb2_6, zgb2_7, zgb2_8, ygb2_0, ygb2_1, ygb2_2, ygb2_3, ygb2_4, ygb2_5, ygb2_6, ygb2_7, ygb2_8⟩ := bw9_ hb_; clear hb_ hl_ hg_; simp only [Act.put, sa_, sz_, ss_]); clear zgb2_0 zgb2_1 zgb2_2 zgb2_3 zgb2_4 zgb2_5 zgb2_6 zgb2_7 zgb2_8 ygb2_0 ygb2_1 ygb2_2 ygb2_3 ygb2_4 ygb2_5 ygb2_6 ygb2_7 ygb2_8)
    | ((with_reducible refine gate_callee (f := 59) rfl ?_); refine goesL_ (some 7) rfl rfl Tryd.func59 (by kernel_rfl) rfl #[.string s] rfl (by (try simp only [List.map_toArray, List.map_cons, List.map_nil]); first | done | rfl) ?_; refine (begin_any k s l e0 w1 hl HA.out).mono ?_; rintro r' w2 ⟨g, A, c, rfl, h2, b2, hg⟩; refine ⟨_, rfl, ?_⟩; simp only [Act.put, sa_, sz_, ss_]; have H2 := Lib.hid h2; have L2 := Lib.hid b2; have G2 := Lib.hid hg; clear h2 b2 hg)
    | ((with_reducible refine gate_callee (f := 60) rfl ?_); refine goesL_ (some 9) rfl rfl Tryd.func60 (by kernel_rfl) rfl #[.pointer (some ⟨g, 0, none⟩)] rfl (by (try simp only [List.map_toArray, List.map_cons, List.map_nil]); first | done | rfl) ?_; refine (GOK.all k2 .or _ _ _ _ _ _ _ _ _ H2.out HR.out).mono ?_; rintro r' w3 ⟨vA, vc, rfl, h3, c3, t3⟩; refine ⟨_, rfl, ?_⟩; simp only [Act.put, sa_, sz_, ss_]; simp only [exV]; have H3 := Lib.hid h3; have C3 := Lib.hid c3; have T3 := Lib.hid t3; clear h3 c3 t3)
    | (((with_reducible refine gate_dst (N := 5) rfl ?_); refine box_event ?hg (N := 5) ?hd (cs := #[.int .i64 0, .string (⟨#[]⟩ : ByteArray), .string (⟨#[]⟩ : ByteArray), .int .i64 0, .int .i64 0, .int .i64 0, .int .i64 0, .string (⟨#[]⟩ : ByteArray), .slice none 0 0]) (t := 26) ?hr ?_; (case hd => rfl); (case hg => rfl); (case hr => first | (go_simp; done) | (go_simp; rfl)); intro gb5 hg_ w4 hb_ hl_; have BKgb5 := am_ hb_; have HLgb5 := am_ hl_; have HGgb5 := am_ (Nat.le_of_eq hg_.symm); obtain ⟨zgb5_0, zgb5_1, zgb5_2, zgb5_3, zgb5_4, zgb5_5, zgb5_6, zgb5_7, zgb5_8, ygb5_0, ygb5_1, ygb5_2, ygb5_3, ygb5_4, ygb5_5, ygb5_6, ygb5_7, ygb5_8⟩ := bw9_ hb_; clear hb_ hl_ hg_; simp only [Act.put, sa_, sz_, ss_]))
    | ((with_reducible refine gate_callee (f := 61) rfl ?_); refine goesL_ (some 11) rfl rfl Tryd.func61 (by kernel_rfl) rfl #[.pointer (some ⟨g, 0, none⟩)] rfl (by (try simp only [List.map_toArray, List.map_cons, List.map_nil]); first | done | rfl) ?_; refine (end_st ((H3.out.below HLgb5.out).box chg9_ (Nat.lt_of_lt_of_le H3.out.lt HGgb5.out))).mono ?_; rintro r' w6 ⟨rfl, h6, c6⟩; refine ⟨_, rfl, ?_⟩; simp only [Act.put, sa_, sz_, ss_]; rw [HE.out] at h6; have H6 := Lib.hid h6; have E6 := Lib.hid (ES.mk' BKgb2.out HLgb2.out HGgb2.out L2.out G2.out H2.out.lt C3.out T3.out HLgb5.out HGgb5.out BKgb5.out c6); clear h6 c6 zgb5_0 zgb5_1 zgb5_2 zgb5_3 zgb5_4 zgb5_5 zgb5_6 zgb5_7 zgb5_8 ygb5_0 ygb5_1 ygb5_2 ygb5_3 ygb5_4 ygb5_5 ygb5_6 ygb5_7 ygb5_8)
    | ((with_reducible refine gate_callee (f := 62) rfl ?_); refine goesL_ (some 13) rfl rfl Tryd.func62 (by kernel_rfl) rfl #[.pointer (some ⟨g, 0, none⟩)] rfl (by (try simp only [List.map_toArray, List.map_cons, List.map_nil]); first | done | rfl) ?_; refine (ok_no H6.out.ps H1.out).mono ?_; rintro r' w7 ⟨rfl, rfl⟩; refine ⟨_, rfl, ?_⟩; simp only [Act.put, sa_, sz_, ss_]; obtain ⟨p0, p1, p2, p3, p4, p5, p6, p7, p8, q0, q1, q2, q3, q4, q5, q6, q7, q8⟩ := bw9_ E6.out.b2))
  have E7 := Lib.hid (E6.out.drew); have P7 : Ps w7.drew g A l.length c r.i r.d e1 := H6.out.ps
  clear E6 p0 p1 p2 p3 p4 p5 p6 p7 p8 q0 q1 q2 q3 q4 q5 q6 q7 q8
  have NG : gb2 ≠ g := by have := blk_lt BKgb2.out; have := G2.out; omega
  refine start_ (n := 7) (S := fun w' => w'.heap[g]? = some (.cells #[.slice A l.length c, .int .i64 r.i, .int .i64 r.d, .int .i64 e1] 84 (0, 0))) (ds := []) #[false, false, false, false, false, false, false] (by kernel_rfl) rfl rfl P7 (fun hHeld => ?_)
  generalize w7.drew = w8 at E7 P7 hHeld ⊢
  refine take_ (i := 0) (N := some 15) (v := ?_) (a' := ?_) #[true, false, false, false, false, false, false] rfl rfl (by kernel_rfl) (fun _ _ _ h => h) (Or.inl ⟨by rfl, ?_⟩) hHeld ?_ ?_; rotate_left
  · intro w' hS
    go_simp; (with_reducible rfl)
  rotate_left
  · simp only [Act.put, sa_, sz_, ss_, i64_w, i32_w]
    rfl
  refine take_ (i := 1) (N := some 16) (v := ?_) (a' := ?_) #[true, true, false, false, false, false, false] rfl rfl (by kernel_rfl) (fun _ _ _ h => h) (Or.inl ⟨by rfl, ?_⟩) hHeld ?_ ?_; rotate_left
  · intro w' hS
    go_simp; (with_reducible rfl)
  rotate_left
  · simp only [Act.put, sa_, sz_, ss_, i64_w, i32_w]
    rfl
  refine take_ (i := 2) (N := some 17) (v := ?_) (a' := ?_) #[true, true, true, false, false, false, false] rfl rfl (by kernel_rfl) (fun _ _ _ h => h) (Or.inl ⟨by rfl, ?_⟩) hHeld ?_ ?_; rotate_left
  · intro w' hS
    go_simp; (with_reducible rfl)
  rotate_left
  · simp only [Act.put, sa_, sz_, ss_, i64_w, i32_w]
    rfl
  refine take_ (i := 3) (N := some 18) (v := ?_) (a' := ?_) #[true, true, true, true, false, false, false] rfl rfl (by kernel_rfl) (fun _ _ _ h => h) (Or.inl ⟨by rfl, ?_⟩) hHeld ?_ ?_; rotate_left
  · intro w' hS
    go_simp; (with_reducible rfl)
  rotate_left
  · simp only [Act.put, sa_, sz_, ss_, i64_w, i32_w]
    rfl
  refine take_ (i := 4) (N := some 19) (v := ?_) (a' := ?_) #[true, true, true, true, true, false, false] rfl rfl (by kernel_rfl) (fun _ _ _ h => h) (Or.inl ⟨by rfl, ?_⟩) hHeld ?_ ?_; rotate_left
  · intro w' hS; obtain ⟨s0, s1, s2, s3, t0, t1, t2, t3⟩ := bw4_ hS
    go_simp; (with_reducible rfl)
  rotate_left
  · simp only [Act.put, sa_, sz_, ss_, i64_w, i32_w]
    rfl
  obtain ⟨p0, p1, p2, p3, p4, p5, p6, p7, p8, q0, q1, q2, q3, q4, q5, q6, q7, q8⟩ := bw9_ E7.out.b2
  refine one_ (i := 5) (N := none) #[true, true, true, true, true, true, false] rfl rfl (by kernel_rfl) (by decide) (fun K hK => ?_); refine skip_ (w1 := ?_) (by rfl) rfl ?_ ?_; rotate_left
  · go_simp
    rfl
  refine hK.out _ _ (chg9_.box P7 NG.symm) (fun hHeld2 => ?_); clear hK K
  clear p0 p1 p2 p3 p4 p5 p6 p7 p8 q0 q1 q2 q3 q4 q5 q6 q7 q8
  refine pure_ (i := 6) (N := some 3) (v := ?_) (a' := ?_) #[true, true, true, true, true, true, true] rfl rfl (by kernel_rfl) (fun _ _ _ h => h) (Or.inl ⟨by rfl, ?_⟩) ?_ ?_; rotate_left
  · intro w'
    go_simp; (with_reducible rfl)
  rotate_left
  · simp only [Act.put, sa_, sz_, ss_, i64_w, i32_w]
    rfl
  refine done_ (by kernel_rfl) ?_
  try go_wp2
  exact bodyPost_ret (results_ct rfl _ _ gb2 26 (cl27 zx27 none 0) (0, 0) _ rfl (put9_ E7.out.b2) Tryd.underlying26 rfl (by kernel_rfl)) rfl (E7.out.done (y := zx27) (yA := none) (yc := 0) ⟨Nat.le_refl 0, fun W' _ => ⟨rfl, by simp [zx27], fun q => absurd q (Nat.lt_irrefl 0)⟩⟩)
end Go.Proofs.YthlepdjjdbpmoaaDoor.PPrintExprs
namespace Go.Proofs.YthlepdjjdbpmoaaDoor.PPrintExprs
open Go.RowKit Go.Proofs.YthlepdjjdbpmoaaDoorW.PrintWords Go.Proofs.YthlepdjjdbpmoaaDoorW.PrintLast Go.Proofs.YthlepdjjdbpmoaaDoorW.PrintMore
attribute [local go_sem] max2_int min2_int max_two min_two max_three min_three max_four min_four
set_option linter.unusedVariables false
set_option maxHeartbeats 8000000
set_option linter.unusedSimpArgs false
set_option maxRecDepth 100000
theorem store_row_ {P : Program} {ops : Array Oper} {Q : Exit → Act → World → Prop} {o : Oper} {rest : List Oper} {a : Act} {W : World} {n g t : Nat} {old cells : Array Value} (hgd : o.guard = none) (ty : TypeId) (x y : Operand) (ho : o.op = .store ty x y) (hx : a.eval x = .pointer (some ⟨g, 0, none⟩)) (hy : a.eval y = .agg cells) (hg : W.heap[g]? = some (.cells old t (0, 0))) (hi : (P.info? ty).map (·.size) = some cells.size) (hold : old.size = cells.size) (h1 : cells.all (·.oneCell') = true) (hn : n ≤ g) (h : ∀ V : World, V.heap[g]? = some (.cells cells t (0, 0)) → (∀ k, k ≠ g → V.heap[k]? = W.heap[k]?) → Below n W V → wpList P ops Q rest (a.put o.dst undef) V) : wpList P ops Q (o :: rest) a W :=
 wpList_store_row hgd ty x y ho g cells hx hy t old hg hi hold h1 (h _ (setRow_heap W g old cells t _ hg) (fun k hk => setRow_other W g k cells hk) (below_setRow (Below.refl n W) hn cells))
def opL : List ByteArray := [⟨#[]⟩, ⟨#[61]⟩, ⟨#[60, 62]⟩, ⟨#[60]⟩, ⟨#[60, 61]⟩, ⟨#[62]⟩, ⟨#[62, 61]⟩, ⟨#[43]⟩, ⟨#[45]⟩, ⟨#[42]⟩, ⟨#[97, 110, 100]⟩, ⟨#[111, 114]⟩, ⟨#[110, 111, 116]⟩, ⟨#[]⟩, ⟨#[]⟩, ⟨#[]⟩, ⟨#[]⟩, ⟨#[]⟩, ⟨#[99, 111, 117, 110, 116]⟩, ⟨#[115, 117, 109]⟩, ⟨#[109, 105, 110]⟩, ⟨#[109, 97, 120]⟩]
def opW (a : Int) : ByteArray := if 0 ≤ a ∧ a < 22 then opL.getD a.toNat ⟨#[]⟩ else ⟨#[]⟩
def print_Op.f (a0 : Int) : Option ByteArray := some (opW a0)
theorem print_Op.cells (i : Nat) (h : i < 22) : (#[.string (⟨#[]⟩ : ByteArray), .string (⟨#[61]⟩ : ByteArray), .string (⟨#[60, 62]⟩ : ByteArray), .string (⟨#[60]⟩ : ByteArray), .string (⟨#[60, 61]⟩ : ByteArray), .string (⟨#[62]⟩ : ByteArray), .string (⟨#[62, 61]⟩ : ByteArray), .string (⟨#[43]⟩ : ByteArray), .string (⟨#[45]⟩ : ByteArray), .string (⟨#[42]⟩ : ByteArray), .string (⟨#[97, 110, 100]⟩ : ByteArray), .string (⟨#[111, 114]⟩ : ByteArray), .string (⟨#[110, 111, 116]⟩ : ByteArray), .string (⟨#[]⟩ : ByteArray), .string (⟨#[]⟩ : ByteArray), .string (⟨#[]⟩ : ByteArray), .string (⟨#[]⟩ : ByteArray), .string (⟨#[]⟩ : ByteArray), .string (⟨#[99, 111, 117, 110, 116]⟩ : ByteArray), .string (⟨#[115, 117, 109]⟩ : ByteArray), .string (⟨#[109, 105, 110]⟩ : ByteArray), .string (⟨#[109, 97, 120]⟩ : ByteArray)] : Array Value)[i]? = some (.string (opL.getD i ⟨#[]⟩)) := by
 match i, h with
 | 0, _ => rfl
 | 1, _ => rfl
 | 2, _ => rfl
 | 3, _ => rfl
 | 4, _ => rfl
 | 5, _ => rfl
 | 6, _ => rfl
 | 7, _ => rfl
 | 8, _ => rfl
 | 9, _ => rfl
 | 10, _ => rfl
 | 11, _ => rfl
 | 12, _ => rfl
 | 13, _ => rfl
 | 14, _ => rfl
 | 15, _ => rfl
 | 16, _ => rfl
 | 17, _ => rfl
 | 18, _ => rfl
 | 19, _ => rfl
 | 20, _ => rfl
 | 21, _ => rfl
 | n + 22, h => exact absurd h (by omega)
theorem print_Op.calls (a0 : Int) (r : ByteArray) (w : World) (h : print_Op.f a0 = some r) : Calls Tryd.prog 17 #[.int .i64 a0] w fun e w' => e = .returned (.string r) ∧ Below w.heap.size w w' := by
 obtain rfl := Option.some.inj h; clear h; have HB := am_ (Below.refl w.heap.size w); unfold opW
 by_cases c0 : a0 < 0
 ·rw [if_neg (by omega)]
  have q0 : decide (a0 < 0) = true := decide_eq_true c0
  go_enter Tryd.func17, Tryd.ntmps17
  go_wp2_with (first
   | ((with_reducible refine gate_dst (N := 3) rfl ?_); refine box_event ?hg (N := 3) ?hd (cs := #[.string (⟨#[]⟩ : ByteArray), .string (⟨#[]⟩ : ByteArray), .string (⟨#[]⟩ : ByteArray), .string (⟨#[]⟩ : ByteArray), .string (⟨#[]⟩ : ByteArray), .string (⟨#[]⟩ : ByteArray), .string (⟨#[]⟩ : ByteArray), .string (⟨#[]⟩ : ByteArray), .string (⟨#[]⟩ : ByteArray), .string (⟨#[]⟩ : ByteArray), .string (⟨#[]⟩ : ByteArray), .string (⟨#[]⟩ : ByteArray), .string (⟨#[]⟩ : ByteArray), .string (⟨#[]⟩ : ByteArray), .string (⟨#[]⟩ : ByteArray), .string (⟨#[]⟩ : ByteArray), .string (⟨#[]⟩ : ByteArray), .string (⟨#[]⟩ : ByteArray), .string (⟨#[]⟩ : ByteArray), .string (⟨#[]⟩ : ByteArray), .string (⟨#[]⟩ : ByteArray), .string (⟨#[]⟩ : ByteArray)]) (t := 77) ?hr ?_; (case hd => rfl); (case hg => rfl); (case hr => first | (go_simp; done) | (go_simp; rfl)); intro g hg_ wb hb_ hl_; have BK := am_ hb_; have BL := am_ hl_; have HG := am_ (Nat.le_of_eq hg_.symm); clear hb_ hl_ hg_)
   | ((with_reducible refine gate_store (t := 77) (p := 3) (v := .tmp 4) rfl ?_); refine store_row_ (n := w.heap.size) (cells := #[.string (⟨#[]⟩ : ByteArray), .string (⟨#[61]⟩ : ByteArray), .string (⟨#[60, 62]⟩ : ByteArray), .string (⟨#[60]⟩ : ByteArray), .string (⟨#[60, 61]⟩ : ByteArray), .string (⟨#[62]⟩ : ByteArray), .string (⟨#[62, 61]⟩ : ByteArray), .string (⟨#[43]⟩ : ByteArray), .string (⟨#[45]⟩ : ByteArray), .string (⟨#[42]⟩ : ByteArray), .string (⟨#[97, 110, 100]⟩ : ByteArray), .string (⟨#[111, 114]⟩ : ByteArray), .string (⟨#[110, 111, 116]⟩ : ByteArray), .string (⟨#[]⟩ : ByteArray), .string (⟨#[]⟩ : ByteArray), .string (⟨#[]⟩ : ByteArray), .string (⟨#[]⟩ : ByteArray), .string (⟨#[]⟩ : ByteArray), .string (⟨#[99, 111, 117, 110, 116]⟩ : ByteArray), .string (⟨#[115, 117, 109]⟩ : ByteArray), .string (⟨#[109, 105, 110]⟩ : ByteArray), .string (⟨#[109, 97, 120]⟩ : ByteArray)]) rfl 77 (.tmp 3) (.tmp 4) rfl rfl rfl BK.out (by kernel_rfl) rfl (by kernel_rfl) HG.out ?_; intro V_ hv hf hB; have BB := am_ (BL.out.trans hB); have BV := am_ hv; clear hv hf hB BL BK))
  go_ret
  exact ⟨rfl, BB.out⟩
 by_cases c1 : a0 ≥ 22
 ·rw [if_neg (by omega)]
  have q0 : decide (a0 < 0) = false := decide_eq_false c0; have q1 : decide (a0 ≥ 22) = true := decide_eq_true c1; have c0' : ¬ a0 < 0 := c0
  go_enter Tryd.func17, Tryd.ntmps17
  go_wp2_with (first
   | ((with_reducible refine gate_dst (N := 3) rfl ?_); refine box_event ?hg (N := 3) ?hd (cs := #[.string (⟨#[]⟩ : ByteArray), .string (⟨#[]⟩ : ByteArray), .string (⟨#[]⟩ : ByteArray), .string (⟨#[]⟩ : ByteArray), .string (⟨#[]⟩ : ByteArray), .string (⟨#[]⟩ : ByteArray), .string (⟨#[]⟩ : ByteArray), .string (⟨#[]⟩ : ByteArray), .string (⟨#[]⟩ : ByteArray), .string (⟨#[]⟩ : ByteArray), .string (⟨#[]⟩ : ByteArray), .string (⟨#[]⟩ : ByteArray), .string (⟨#[]⟩ : ByteArray), .string (⟨#[]⟩ : ByteArray), .string (⟨#[]⟩ : ByteArray), .string (⟨#[]⟩ : ByteArray), .string (⟨#[]⟩ : ByteArray), .string (⟨#[]⟩ : ByteArray), .string (⟨#[]⟩ : ByteArray), .string (⟨#[]⟩ : ByteArray), .string (⟨#[]⟩ : ByteArray), .string (⟨#[]⟩ : ByteArray)]) (t := 77) ?hr ?_; (case hd => rfl); (case hg => rfl); (case hr => first | (go_simp; done) | (go_simp; rfl)); intro g hg_ wb hb_ hl_; have BK := am_ hb_; have BL := am_ hl_; have HG := am_ (Nat.le_of_eq hg_.symm); clear hb_ hl_ hg_)
   | ((with_reducible refine gate_store (t := 77) (p := 3) (v := .tmp 4) rfl ?_); refine store_row_ (n := w.heap.size) (cells := #[.string (⟨#[]⟩ : ByteArray), .string (⟨#[61]⟩ : ByteArray), .string (⟨#[60, 62]⟩ : ByteArray), .string (⟨#[60]⟩ : ByteArray), .string (⟨#[60, 61]⟩ : ByteArray), .string (⟨#[62]⟩ : ByteArray), .string (⟨#[62, 61]⟩ : ByteArray), .string (⟨#[43]⟩ : ByteArray), .string (⟨#[45]⟩ : ByteArray), .string (⟨#[42]⟩ : ByteArray), .string (⟨#[97, 110, 100]⟩ : ByteArray), .string (⟨#[111, 114]⟩ : ByteArray), .string (⟨#[110, 111, 116]⟩ : ByteArray), .string (⟨#[]⟩ : ByteArray), .string (⟨#[]⟩ : ByteArray), .string (⟨#[]⟩ : ByteArray), .string (⟨#[]⟩ : ByteArray), .string (⟨#[]⟩ : ByteArray), .string (⟨#[99, 111, 117, 110, 116]⟩ : ByteArray), .string (⟨#[115, 117, 109]⟩ : ByteArray), .string (⟨#[109, 105, 110]⟩ : ByteArray), .string (⟨#[109, 97, 120]⟩ : ByteArray)]) rfl 77 (.tmp 3) (.tmp 4) rfl rfl rfl BK.out (by kernel_rfl) rfl (by kernel_rfl) HG.out ?_; intro V_ hv hf hB; have BB := am_ (BL.out.trans hB); have BV := am_ hv; clear hv hf hB BL BK))
  go_ret
  exact ⟨rfl, BB.out⟩
 ·rw [if_pos (by omega)]
  have q0 : decide (a0 < 0) = false := decide_eq_false c0; have q1 : decide (a0 ≥ 22) = false := decide_eq_false c1
  have c2 : 0 ≤ a0 := by omega
  have c3 : a0 < 22 := by omega
  have CE := am_ (print_Op.cells a0.toNat (by omega))
  go_enter Tryd.func17, Tryd.ntmps17
  go_wp2_with (first
   | ((with_reducible refine gate_dst (N := 3) rfl ?_); refine box_event ?hg (N := 3) ?hd (cs := #[.string (⟨#[]⟩ : ByteArray), .string (⟨#[]⟩ : ByteArray), .string (⟨#[]⟩ : ByteArray), .string (⟨#[]⟩ : ByteArray), .string (⟨#[]⟩ : ByteArray), .string (⟨#[]⟩ : ByteArray), .string (⟨#[]⟩ : ByteArray), .string (⟨#[]⟩ : ByteArray), .string (⟨#[]⟩ : ByteArray), .string (⟨#[]⟩ : ByteArray), .string (⟨#[]⟩ : ByteArray), .string (⟨#[]⟩ : ByteArray), .string (⟨#[]⟩ : ByteArray), .string (⟨#[]⟩ : ByteArray), .string (⟨#[]⟩ : ByteArray), .string (⟨#[]⟩ : ByteArray), .string (⟨#[]⟩ : ByteArray), .string (⟨#[]⟩ : ByteArray), .string (⟨#[]⟩ : ByteArray), .string (⟨#[]⟩ : ByteArray), .string (⟨#[]⟩ : ByteArray), .string (⟨#[]⟩ : ByteArray)]) (t := 77) ?hr ?_; (case hd => rfl); (case hg => rfl); (case hr => first | (go_simp; done) | (go_simp; rfl)); intro g hg_ wb hb_ hl_; have BK := am_ hb_; have BL := am_ hl_; have HG := am_ (Nat.le_of_eq hg_.symm); clear hb_ hl_ hg_)
   | ((with_reducible refine gate_store (t := 77) (p := 3) (v := .tmp 4) rfl ?_); refine store_row_ (n := w.heap.size) (cells := #[.string (⟨#[]⟩ : ByteArray), .string (⟨#[61]⟩ : ByteArray), .string (⟨#[60, 62]⟩ : ByteArray), .string (⟨#[60]⟩ : ByteArray), .string (⟨#[60, 61]⟩ : ByteArray), .string (⟨#[62]⟩ : ByteArray), .string (⟨#[62, 61]⟩ : ByteArray), .string (⟨#[43]⟩ : ByteArray), .string (⟨#[45]⟩ : ByteArray), .string (⟨#[42]⟩ : ByteArray), .string (⟨#[97, 110, 100]⟩ : ByteArray), .string (⟨#[111, 114]⟩ : ByteArray), .string (⟨#[110, 111, 116]⟩ : ByteArray), .string (⟨#[]⟩ : ByteArray), .string (⟨#[]⟩ : ByteArray), .string (⟨#[]⟩ : ByteArray), .string (⟨#[]⟩ : ByteArray), .string (⟨#[]⟩ : ByteArray), .string (⟨#[99, 111, 117, 110, 116]⟩ : ByteArray), .string (⟨#[115, 117, 109]⟩ : ByteArray), .string (⟨#[109, 105, 110]⟩ : ByteArray), .string (⟨#[109, 97, 120]⟩ : ByteArray)]) rfl 77 (.tmp 3) (.tmp 4) rfl rfl rfl BK.out (by kernel_rfl) rfl (by kernel_rfl) HG.out ?_; intro V_ hv hf hB; have BB := am_ (BL.out.trans hB); have BV := am_ hv; clear hv hf hB BL BK; have CX := am_ ((blk_cell BV.out a0.toNat).trans CE.out); have cx := CX.out))
  go_ret
  exact ⟨rfl, BB.out⟩
theorem below_grow_ (w : World) (k : Nat) (os : Array Obj) : Below w.heap.size w (Go.Sort.grow (w.drewN k) os) :=
 ⟨rfl, rfl, rfl, by show w.heap.size ≤ (w.heap ++ os).size; rw [Array.size_append]; omega, fun j hj => Array.getElem?_append_left hj⟩
def TabOK (w : World) : Prop := Lib.TabIs Tryd.prog w "internal/strconv.uint64pow10" .u64 Lib.pow10Tab
theorem TabOK.below {w w' : World} (h : TabOK w) (hb : Below w.heap.size w w') : TabOK w' := Joins.tab_stays (g := 0) (by kernel_rfl) h hb (Nat.le_refl _)
def strconv_Itoa.f (a0 : Int) : Option (ByteArray) := if -9223372036854775808 ≤ a0 ∧ a0 ≤ 9223372036854775807 then some ⟨(Lib.itoa a0).toArray⟩ else none
theorem strconv_Itoa.calls (a0 : Int) (r : ByteArray) (w : World) (h : strconv_Itoa.f a0 = some r) (HT : Aside0 (TabOK w)) :
  Calls Tryd.prog 55 #[.int .i64 a0] w fun e w' => e = .returned (.string r) ∧ Below w.heap.size w w' := by
 unfold strconv_Itoa.f at h
 split at h
 ·rename_i c
  obtain rfl := Option.some.inj h; refine (Tryd.strconv_Itoa a0 c.1 c.2 w HT.out).mono ?_; rintro e w' ⟨rfl, k, os, rfl⟩; exact ⟨rfl, below_grow_ w k os⟩
 ·exact absurd h (by simp)
def token_Quote.l0 : Nat → ByteArray → List Int → Int → Int → Option (ByteArray)
 | 0, _, _, _, _ => none
 | k + 1, x0, x3, x7, x8 => if x8 < x7 then (if 0 ≤ x8 then (if x8 < (x0.size : Int) then (if (bt x0 x8) = 39 then (if x3.length < 140737488355328 then ((some (x3 ++ [39] : List Int)).bind fun y104 => (if y104.length < 140737488355328 then (token_Quote.l0 k x0 (y104 ++ [bt x0 x8]) x7 (wrap64 (x8 + 1))) else (none))) else (none)) else (if x3.length < 140737488355328 then (token_Quote.l0 k x0 (x3 ++ [bt x0 x8]) x7 (wrap64 (x8 + 1))) else (none))) else (none)) else (none)) else (if x3.length < 140737488355328 then (some (strOfNums (x3 ++ [39]))) else (none))
def token_Quote.f (k : Nat) (a0 : ByteArray) : Option (ByteArray) := token_Quote.l0 k a0 (([39] : List Int)) (a0.size : Int) 0
theorem token_Quote.mono_l : ∀ k, (∀ y0 y1 y2 y3, LeO (token_Quote.l0 k y0 y1 y2 y3) (token_Quote.l0 (k + 1) y0 y1 y2 y3))
 | 0 => fun _ _ _ _ r h => by simp [token_Quote.l0] at h
 | k + 1 => by
  have ih0 := token_Quote.mono_l k
  ·intro y0 y1 y2 y3
   unfold token_Quote.l0
   repeat' first
   | (with_reducible exact ih0 _ _ _ _)
   | (with_reducible exact LeO.refl _)
   | (with_reducible exact LeO.none _)
   | (with_reducible refine LeO.ite ?_ ?_)
   | (with_reducible refine LeO.bind ?_ (fun _ => ?_))
   | exact ih0 _ _ _ _
   | exact LeO.none _
   | refine LeO.ite ?_ ?_
   | refine LeO.bind ?_ (fun _ => ?_)
theorem token_Quote.mono : ∀ a0 k, LeO (token_Quote.f k a0) (token_Quote.f (k + 1) a0) := by
 intro a0 k; have ih0 := token_Quote.mono_l k; unfold token_Quote.f
 repeat' first
   | (with_reducible exact ih0 _ _ _ _)
   | (with_reducible exact LeO.refl _)
   | (with_reducible exact LeO.none _)
   | (with_reducible refine LeO.ite ?_ ?_)
   | (with_reducible refine LeO.bind ?_ (fun _ => ?_))
   | exact ih0 _ _ _ _
   | exact LeO.none _
   | refine LeO.ite ?_ ?_
   | refine LeO.bind ?_ (fun _ => ?_)
theorem token_Quote.calls (k : Nat) (a0 : ByteArray) (r : ByteArray) (w : World) (h : token_Quote.f k a0 = some r) :
  Calls Tryd.prog 56 #[.string a0] w fun e w' => e = .returned (.string r) ∧ Below w.heap.size w w' := by
 have HB := am_ (Below.refl w.heap.size w); have H : (token_Quote.l0 k a0 (([39] : List Int)) (a0.size : Int) 0) = some r := h; clear h
 obtain ⟨y101, hy101⟩ : ∃ y_ : List Int, y_ = (([39] : List Int)) := ⟨_, rfl⟩
 replace H : (token_Quote.l0 k a0 y101 (a0.size : Int) 0) = some r := by first | (rw [hy101]; with_reducible exact H) | (have H2_ := (Option.bind_some _ _).symm.trans H; rw [hy101]; with_reducible exact H2_) | (have H2_ := (Option.bind_some _ _).symm.trans H; with_reducible exact H2_) | with_reducible exact H | (rw [hy101]; exact H) | exact H
 have Ny101 := am_ hy101; clear hy101; have H' := am_ H; clear H
 go_enter Tryd.func56, Tryd.ntmps56
 go_wp2_with (first | ((with_reducible refine gate_dst (N := 5) rfl ?_); refine Kd.R_lit (Kd.int .u8) _ 5 ?hg (N := 5) ?hd (xs := ([39] : List Int)) (inner := [.int .u8 39]) (ok := fun _ => True) (okp := fun _ => True) ?hr ?hp (fun _ hk => hk) trivial (Below.refl _ _) (Nat.le_refl _) (by simp) ?_; (case hd => rfl); (case hg => rfl); (case hr => first | (go_simp; done) | (go_simp; rfl)); (case hp => exact (Reps.one (show Kd.M (Kd.int .u8) _ _ _ 39 [.int .u8 39] from rfl) (Reps.none _ _))); intro v102 w2 ho3 hb hg_ hnew_; clear hg_ hnew_; (first | rw [← Ny101.out] at ho3 | (simp only [Int.reduceToNat] at ho3; rw [← Ny101.out] at ho3)); have HO103 := am_ (Kd.R_lower ho3 (below_size (bl_))); replace HB := am_ (below_step (bl_) hb); clear hb ho3))
 go_loopg [3, 8] k (fun kq v3 v8 w' => ∃ (x3_1 : List Int) (x8_1 : Int), v8 = .int .i64 x8_1 ∧ Aside0 (token_Quote.l0 kq a0 x3_1 (a0.size : Int) x8_1 = some r) ∧ Aside0 (kq ≤ k) ∧ Aside0 (Kd.R (Kd.int .u8) 5 w' w.heap.size (fun _ => True) v3 x3_1) ∧ Aside0 (Below w.heap.size w w'))
 case atStart => exact ⟨(y101), (0), (rs_), H', ⟨Nat.le_refl _⟩, ⟨kr_ HO103.out⟩, ⟨bl_⟩⟩
 case round =>
  clear H'; (try clear p2); obtain ⟨x3_1, x8_1, rfl, HA, HK1, HO_3, HB⟩ := hrel
  cases gk with
  | zero => exact absurd HA.out (by simp [token_Quote.l0])
  | succ k1 =>
   have H := HA.out; clear HA; simp only [token_Quote.l0] at H
   by_cases c4 : x8_1 < (a0.size : Int)
   ·rw [if_pos c4] at H
    have c4b0 : decide (x8_1 < (a0.size : Int)) = true := decide_eq_true c4; clear c4
    by_cases c5 : 0 ≤ x8_1
    ·rw [if_pos c5] at H
     have c5b0 : decide (0 ≤ x8_1) = true := decide_eq_true c5; clear c5
     by_cases c6 : x8_1 < (a0.size : Int)
     ·rw [if_pos c6] at H
      have c6b0 : decide (x8_1 < (a0.size : Int)) = true := decide_eq_true c6; clear c6
      by_cases c8 : (bt a0 x8_1) = 39
      ·rw [if_pos c8] at H
       have c8b0 : ((bt a0 x8_1) == 39) = true := beq_iff_eq.mpr c8; have c8b1 : ((bt a0 x8_1) != 39) = false := bne_eq_false_iff_eq.mpr c8; clear c8
       by_cases c9 : x3_1.length < 140737488355328
       ·rw [if_pos c9] at H
        have LMc9 := am_ c9; clear c9
        obtain ⟨y104, hy104⟩ : ∃ y_ : List Int, y_ = (x3_1 ++ [39]) := ⟨_, rfl⟩
        replace H : (if y104.length < 140737488355328 then (token_Quote.l0 k1 a0 (y104 ++ [bt a0 x8_1]) (a0.size : Int) (wrap64 (x8_1 + 1))) else (none)) = some r := by first | (rw [hy104]; with_reducible exact H) | (have H2_ := (Option.bind_some _ _).symm.trans H; rw [hy104]; with_reducible exact H2_) | (have H2_ := (Option.bind_some _ _).symm.trans H; with_reducible exact H2_) | with_reducible exact H | (rw [hy104]; exact H) | exact H
        have Ny104 := am_ hy104; clear hy104
        by_cases c11 : y104.length < 140737488355328
        ·rw [if_pos c11] at H
         have LMc11 := am_ c11; clear c11
         obtain ⟨y107, hy107⟩ : ∃ y_ : List Int, y_ = (y104 ++ [bt a0 x8_1]) := ⟨_, rfl⟩
         replace H : (token_Quote.l0 k1 a0 y107 (a0.size : Int) (wrap64 (x8_1 + 1))) = some r := by first | (rw [hy107]; with_reducible exact H) | (have H2_ := (Option.bind_some _ _).symm.trans H; rw [hy107]; with_reducible exact H2_) | (have H2_ := (Option.bind_some _ _).symm.trans H; with_reducible exact H2_) | with_reducible exact H | (rw [hy107]; exact H) | exact H
         have Ny107 := am_ hy107; clear hy107; have H' := am_ H; clear H; have p7 : 0 ≤ (x8_1 : Int) := of_decide_eq_true (as_); have q7 : x8_1 < (a0.size : Int) := of_decide_eq_true (as_); have hx7 := bt_at a0 x8_1; replace p7 := eq_true p7; replace q7 := eq_true q7
         go_wp2_with (first | ((with_reducible refine gate_builtin (b := .append) (xs := #[.tmp 15, .tmp 16]) rfl ?_); at_builtin; refine Kd.R_append (Kd.int .u8) (w0 := w) w.heap.size rfl (.tmp 15) (.tmp 16) 120 5 (.int .u8 0) 1 rfl Tryd.underlying120 info5 rfl (by decide) (by omega) u3 x3_1 39 [.int .u8 39] (fun _ => True) (fun _ => False) rfl rfl ?aP (fun _ hk => hk.elim) ?aF ?aO ?aB ?aS ?aL ?_; (case aP => exact rfl); (case aB => exact (bl_)); (case aF => exact (fun _ _ => trivial)); (case aO => exact (kr_ HO_3.out)); (case aS => exact (below_size (bl_))); (case aL => have := LMc9.out; omega); intro v105 w12 ho hb hg hat; rw [← Ny104.out] at ho; have HO106 := am_ (ho); replace HB := am_ (hb); clear HO_3; clear ho hb hg hat; have p10 : 0 ≤ (x8_1 : Int) := of_decide_eq_true (as_); have q10 : x8_1 < (a0.size : Int) := of_decide_eq_true (as_); have hx10 := bt_at a0 x8_1; replace p10 := eq_true p10; replace q10 := eq_true q10) | ((with_reducible refine gate_builtin (b := .append) (xs := #[.tmp 18, .tmp 22]) rfl ?_); at_builtin; refine Kd.R_append (Kd.int .u8) (w0 := w) w.heap.size rfl (.tmp 18) (.tmp 22) 120 5 (.int .u8 0) 1 rfl Tryd.underlying120 info5 rfl (by decide) (by omega) v105 y104 (bt a0 x8_1) [.int .u8 (bt a0 x8_1)] (fun _ => True) (fun _ => False) rfl rfl ?aP (fun _ hk => hk.elim) ?aF ?aO ?aB ?aS ?aL ?_; (case aP => exact rfl); (case aB => exact (bl_)); (case aF => exact (fun _ _ => trivial)); (case aO => exact (kr_ HO106.out)); (case aS => exact (below_size (bl_))); (case aL => have := LMc11.out; omega); intro v108 w13 ho hb hg hat; rw [← Ny107.out] at ho; have HO109 := am_ (ho); replace HB := am_ (hb); clear HO106; clear ho hb hg hat))
         go_roundg k1
         case measure => have := HK1.out; omega
         case rel => exact ⟨(y107), (wrap64 (x8_1 + 1)), (rs_), H', ⟨by have := HK1.out; omega⟩, ⟨kr_ HO109.out⟩, ⟨bl_⟩⟩
        ·rw [if_neg c11] at H
         exact absurd H (by simp)
       ·rw [if_neg c9] at H
        exact absurd H (by simp)
      ·rw [if_neg c8] at H
       have c8b0 : ((bt a0 x8_1) == 39) = false := beq_eq_false_iff_ne.mpr c8; have c8b1 : ((bt a0 x8_1) != 39) = true := bne_iff_ne.mpr c8
       by_cases c15 : x3_1.length < 140737488355328
       ·rw [if_pos c15] at H
        have LMc15 := am_ c15; clear c15
        obtain ⟨y110, hy110⟩ : ∃ y_ : List Int, y_ = (x3_1 ++ [bt a0 x8_1]) := ⟨_, rfl⟩
        replace H : (token_Quote.l0 k1 a0 y110 (a0.size : Int) (wrap64 (x8_1 + 1))) = some r := by first | (rw [hy110]; with_reducible exact H) | (have H2_ := (Option.bind_some _ _).symm.trans H; rw [hy110]; with_reducible exact H2_) | (have H2_ := (Option.bind_some _ _).symm.trans H; with_reducible exact H2_) | with_reducible exact H | (rw [hy110]; exact H) | exact H
        have Ny110 := am_ hy110; clear hy110; have H' := am_ H; clear H; have p7 : 0 ≤ (x8_1 : Int) := of_decide_eq_true (as_); have q7 : x8_1 < (a0.size : Int) := of_decide_eq_true (as_); have hx7 := bt_at a0 x8_1; replace p7 := eq_true p7; replace q7 := eq_true q7; have p14 : 0 ≤ (x8_1 : Int) := of_decide_eq_true (as_); have q14 : x8_1 < (a0.size : Int) := of_decide_eq_true (as_); have hx14 := bt_at a0 x8_1; replace p14 := eq_true p14; replace q14 := eq_true q14
        go_wp2_with (first | ((with_reducible refine gate_builtin (b := .append) (xs := #[.tmp 18, .tmp 22]) rfl ?_); at_builtin; refine Kd.R_append (Kd.int .u8) (w0 := w) w.heap.size rfl (.tmp 18) (.tmp 22) 120 5 (.int .u8 0) 1 rfl Tryd.underlying120 info5 rfl (by decide) (by omega) u3 x3_1 (bt a0 x8_1) [.int .u8 (bt a0 x8_1)] (fun _ => True) (fun _ => False) rfl rfl ?aP (fun _ hk => hk.elim) ?aF ?aO ?aB ?aS ?aL ?_; (case aP => exact rfl); (case aB => exact (bl_)); (case aF => exact (fun _ _ => trivial)); (case aO => exact (kr_ HO_3.out)); (case aS => exact (below_size (bl_))); (case aL => have := LMc15.out; omega); intro v111 w16 ho hb hg hat; rw [← Ny110.out] at ho; have HO112 := am_ (ho); replace HB := am_ (hb); clear HO_3; clear ho hb hg hat))
        go_roundg k1
        case measure => have := HK1.out; omega
        case rel => exact ⟨(y110), (wrap64 (x8_1 + 1)), (rs_), H', ⟨by have := HK1.out; omega⟩, ⟨kr_ HO112.out⟩, ⟨bl_⟩⟩
       ·rw [if_neg c15] at H
        exact absurd H (by simp)
     ·rw [if_neg c6] at H
      exact absurd H (by simp)
    ·rw [if_neg c5] at H
     exact absurd H (by simp)
   ·rw [if_neg c4] at H
    have c4b0 : decide (x8_1 < (a0.size : Int)) = false := decide_eq_false c4; clear c4
    by_cases c17 : x3_1.length < 140737488355328
    ·rw [if_pos c17] at H
     have LMc17 := am_ c17; clear c17
     obtain ⟨y113, hy113⟩ : ∃ y_ : List Int, y_ = (x3_1 ++ [39]) := ⟨_, rfl⟩
     replace H : (some (strOfNums y113)) = some r := by first | (rw [hy113]; with_reducible exact H) | (have H2_ := (Option.bind_some _ _).symm.trans H; rw [hy113]; with_reducible exact H2_) | (have H2_ := (Option.bind_some _ _).symm.trans H; with_reducible exact H2_) | with_reducible exact H | (rw [hy113]; exact H) | exact H
     have Ny113 := am_ hy113; clear hy113; obtain rfl := Option.some.inj H
     go_wp2_with (first | ((with_reducible refine gate_builtin (b := .append) (xs := #[.tmp 25, .tmp 26]) rfl ?_); at_builtin; refine Kd.R_append (Kd.int .u8) (w0 := w) w.heap.size rfl (.tmp 25) (.tmp 26) 120 5 (.int .u8 0) 1 rfl Tryd.underlying120 info5 rfl (by decide) (by omega) u3 x3_1 39 [.int .u8 39] (fun _ => True) (fun _ => False) rfl rfl ?aP (fun _ hk => hk.elim) ?aF ?aO ?aB ?aS ?aL ?_; (case aP => exact rfl); (case aB => exact (bl_)); (case aF => exact (fun _ _ => trivial)); (case aO => exact (kr_ HO_3.out)); (case aS => exact (below_size (bl_))); (case aL => have := LMc17.out; omega); intro v114 w18 ho hb hg hat; rw [← Ny113.out] at ho; have HO115 := am_ (ho); replace HB := am_ (hb); clear HO_3; clear ho hb hg hat; have hcv19 := own_string (P := Tryd.prog) Tryd.underlying120 Tryd.underlying5 Tryd.underlying9 (Kd.own_of_R HO115.out)))
     go_ret
     exact ⟨ew_, bl_⟩
    ·rw [if_neg c17] at H
     exact absurd H (by simp)
def print_Val.f (k : Nat) (a0_0 : Int) (a0_1 : Int) (a0_2 : ByteArray) : Option (ByteArray) := if a0_0 = 0 then (some (⟨#[110, 117, 108, 108]⟩ : ByteArray)) else (if a0_0 = 1 then ((strconv_Itoa.f a0_1).bind fun t117 => (some t117)) else (if a0_0 = 2 then ((token_Quote.f k a0_2).bind fun t118 => (some t118)) else (some (⟨#[63]⟩ : ByteArray))))
theorem print_Val.mono : ∀ a0 a1 a2 k, LeO (print_Val.f k a0 a1 a2) (print_Val.f (k + 1) a0 a1 a2) := by
 intro a0 a1 a2 k; unfold print_Val.f
 repeat' first
   | (with_reducible exact token_Quote.mono _ _)
   | (with_reducible exact LeO.refl _)
   | (with_reducible exact LeO.none _)
   | (with_reducible refine LeO.ite ?_ ?_)
   | (with_reducible refine LeO.bind ?_ (fun _ => ?_))
   | exact token_Quote.mono _ _
   | exact LeO.none _
   | refine LeO.ite ?_ ?_
   | refine LeO.bind ?_ (fun _ => ?_)
theorem print_Val.calls (k : Nat) (a0_0 : Int) (a0_1 : Int) (a0_2 : ByteArray) (r : ByteArray) (w : World) (h : print_Val.f k a0_0 a0_1 a0_2 = some r) (HT : Aside0 (TabOK w)) :
  Calls Tryd.prog 19 #[.agg #[.int .i64 a0_0, .int .i64 a0_1, .string a0_2]] w fun e w' => e = .returned (.string r) ∧ Below w.heap.size w w' := by
 have hu23 := Tryd.underlying23; have HB := am_ (Below.refl w.heap.size w); have H : (if a0_0 = 0 then (some (⟨#[110, 117, 108, 108]⟩ : ByteArray)) else (if a0_0 = 1 then ((strconv_Itoa.f a0_1).bind fun t117 => (some t117)) else (if a0_0 = 2 then ((token_Quote.f k a0_2).bind fun t118 => (some t118)) else (some (⟨#[63]⟩ : ByteArray))))) = some r := h; clear h
 by_cases c2 : a0_0 = 0
 ·rw [if_pos c2] at H
  have c2b0 : (a0_0 == 0) = true := beq_iff_eq.mpr c2; have c2b1 : (a0_0 != 0) = false := bne_eq_false_iff_eq.mpr c2; clear c2; obtain rfl := Option.some.inj H
  go_enter Tryd.func19, Tryd.ntmps19
  go_wp2_with (first | ((with_reducible refine gate_dst (N := 1) rfl ?_); refine box_event ?hg (N := 1) ?hd (cs := #[.int .i64 a0_0, .int .i64 a0_1, .string a0_2]) (t := 23) ?hr ?_; (case hd => rfl); (case hg => rfl); (case hr => first | (go_simp; done) | (go_simp; rfl)); intro gb116 hg w3 hbox hb; have BK116 := am_ (hbox); have GW116 := am_ ((by rw [hg]; exact (below_size (bl_)) : w.heap.size ≤ gb116)); have GE116 := am_ ((by rw [hg]; exact (below_size (bl_)) : w.heap.size ≤ gb116)); replace HB := am_ (below_step (bl_) hb); clear hb hbox hg; obtain ⟨hcz4_0, hcz4_1, hcz4_2, hfz4_0, hfz4_1, hfz4_2⟩ := bw3_ BK116.out))
  go_ret
  exact ⟨ew_, bl_⟩
 ·rw [if_neg c2] at H
  have c2b0 : (a0_0 == 0) = false := beq_eq_false_iff_ne.mpr c2; have c2b1 : (a0_0 != 0) = true := bne_iff_ne.mpr c2
  by_cases c5 : a0_0 = 1
  ·rw [if_pos c5] at H
   have c5b0 : (a0_0 == 1) = true := beq_iff_eq.mpr c5; have c5b1 : (a0_0 != 1) = false := bne_eq_false_iff_eq.mpr c5; clear c5; replace H := Option.bind_eq_some_iff.mp H; obtain ⟨t117, A60, H⟩ := H; replace H : (some t117) = some r := H; have A6 := am_ A60; clear A60; obtain rfl := Option.some.inj H
   go_enter Tryd.func19, Tryd.ntmps19
   go_wp2_with (first | ((with_reducible refine gate_dst (N := 1) rfl ?_); refine box_event ?hg (N := 1) ?hd (cs := #[.int .i64 a0_0, .int .i64 a0_1, .string a0_2]) (t := 23) ?hr ?_; (case hd => rfl); (case hg => rfl); (case hr => first | (go_simp; done) | (go_simp; rfl)); intro gb116 hg w7 hbox hb; have BK116 := am_ (hbox); have GW116 := am_ ((by rw [hg]; exact (below_size (bl_)) : w.heap.size ≤ gb116)); have GE116 := am_ ((by rw [hg]; exact (below_size (bl_)) : w.heap.size ≤ gb116)); replace HB := am_ (below_step (bl_) hb); clear hb hbox hg; obtain ⟨hcz8_0, hcz8_1, hcz8_2, hfz8_0, hfz8_1, hfz8_2⟩ := bw3_ BK116.out) | ((with_reducible refine gate_callee (f := 55) rfl ?_); refine goesL_ (some 11) rfl rfl Tryd.func55 (by kernel_rfl) rfl #[.int .i64 a0_1] rfl (by (try simp only [List.map_toArray, List.map_cons, List.map_nil]); first | done | rfl | (simp only [List.length_drop, List.length_take]; rfl)) ?_; (with_reducible refine (strconv_Itoa.calls a0_1 t117 _ A6.out (by first | with_reducible exact HT | exact ⟨TabOK.below HT.out (bl_)⟩)).mono ?_); rintro e w9 ⟨rfl, hb⟩; refine ⟨_, rfl, ?_⟩; replace BK116 := am_ (blk_below (bk_ BK116.out) hb); replace HB := am_ (below_step (bl_) hb); (try clear hb); (try clear hb2); (try clear hk); (try clear hi)))
   go_ret
   exact ⟨ew_, bl_⟩
  ·rw [if_neg c5] at H
   have c5b0 : (a0_0 == 1) = false := beq_eq_false_iff_ne.mpr c5; have c5b1 : (a0_0 != 1) = true := bne_iff_ne.mpr c5
   by_cases c10 : a0_0 = 2
   ·rw [if_pos c10] at H
    have c10b0 : (a0_0 == 2) = true := beq_iff_eq.mpr c10; have c10b1 : (a0_0 != 2) = false := bne_eq_false_iff_eq.mpr c10; clear c10; replace H := Option.bind_eq_some_iff.mp H; obtain ⟨t118, A110, H⟩ := H; replace H : (some t118) = some r := H; have A11 := am_ A110; clear A110; obtain rfl := Option.some.inj H
    go_enter Tryd.func19, Tryd.ntmps19
    go_wp2_with (first | ((with_reducible refine gate_dst (N := 1) rfl ?_); refine box_event ?hg (N := 1) ?hd (cs := #[.int .i64 a0_0, .int .i64 a0_1, .string a0_2]) (t := 23) ?hr ?_; (case hd => rfl); (case hg => rfl); (case hr => first | (go_simp; done) | (go_simp; rfl)); intro gb116 hg w12 hbox hb; have BK116 := am_ (hbox); have GW116 := am_ ((by rw [hg]; exact (below_size (bl_)) : w.heap.size ≤ gb116)); have GE116 := am_ ((by rw [hg]; exact (below_size (bl_)) : w.heap.size ≤ gb116)); replace HB := am_ (below_step (bl_) hb); clear hb hbox hg; obtain ⟨hcz13_0, hcz13_1, hcz13_2, hfz13_0, hfz13_1, hfz13_2⟩ := bw3_ BK116.out) | ((with_reducible refine gate_callee (f := 56) rfl ?_); refine goesL_ (some 16) rfl rfl Tryd.func56 (by kernel_rfl) rfl #[.string a0_2] rfl (by (try simp only [List.map_toArray, List.map_cons, List.map_nil]); first | done | rfl | (simp only [List.length_drop, List.length_take]; rfl)) ?_; (with_reducible refine (token_Quote.calls k a0_2 t118 _ A11.out).mono ?_); rintro e w14 ⟨rfl, hb⟩; refine ⟨_, rfl, ?_⟩; replace BK116 := am_ (blk_below (bk_ BK116.out) hb); replace HB := am_ (below_step (bl_) hb); (try clear hb); (try clear hb2); (try clear hk); (try clear hi)))
    go_ret
    exact ⟨ew_, bl_⟩
   ·rw [if_neg c10] at H
    have c10b0 : (a0_0 == 2) = false := beq_eq_false_iff_ne.mpr c10; have c10b1 : (a0_0 != 2) = true := bne_iff_ne.mpr c10; obtain rfl := Option.some.inj H
    go_enter Tryd.func19, Tryd.ntmps19
    go_wp2_with (first | ((with_reducible refine gate_dst (N := 1) rfl ?_); refine box_event ?hg (N := 1) ?hd (cs := #[.int .i64 a0_0, .int .i64 a0_1, .string a0_2]) (t := 23) ?hr ?_; (case hd => rfl); (case hg => rfl); (case hr => first | (go_simp; done) | (go_simp; rfl)); intro gb116 hg w15 hbox hb; have BK116 := am_ (hbox); have GW116 := am_ ((by rw [hg]; exact (below_size (bl_)) : w.heap.size ≤ gb116)); have GE116 := am_ ((by rw [hg]; exact (below_size (bl_)) : w.heap.size ≤ gb116)); replace HB := am_ (below_step (bl_) hb); clear hb hbox hg; obtain ⟨hcz16_0, hcz16_1, hcz16_2, hfz16_0, hfz16_1, hfz16_2⟩ := bw3_ BK116.out))
    go_ret
    exact ⟨ew_, bl_⟩
mutual
def tree_Level.j0 : Nat → Int → Bool → Option (Int)
 | 0, _, _ => none
 | k + 1, x4, x11 => if x11 = true then (some 4) else (if x4 = 7 then (tree_Level.j1 k x4 (x4 == 7)) else (tree_Level.j1 k x4 (x4 == 8)))
def tree_Level.j1 : Nat → Int → Bool → Option (Int)
 | 0, _, _ => none
 | k + 1, x4, x20 => if x20 = true then (some 5) else (if x4 = 9 then (some 6) else (some 7))
end
def tree_Level.f (k : Nat) (a0_0 : Int) (a0_1 : ByteArray) (a0_2 : ByteArray) (a0_3 : Int) (a0_4 : Int) (a0_5 : Int) (a0_6 : Int) (a0_7 : ByteArray) (l0_8 : List (S26)) : Option (Int) := if a0_0 = 11 then (some 1) else (if a0_0 = 10 then (some 2) else (if a0_0 = 12 then (some 3) else (if a0_0 = 1 then (tree_Level.j0 k a0_0 (a0_0 == 1)) else (if a0_0 = 2 then (tree_Level.j0 k a0_0 (a0_0 == 2)) else (if a0_0 = 3 then (tree_Level.j0 k a0_0 (a0_0 == 3)) else (if a0_0 = 4 then (tree_Level.j0 k a0_0 (a0_0 == 4)) else (if a0_0 = 5 then (tree_Level.j0 k a0_0 (a0_0 == 5)) else (if a0_0 = 6 then (tree_Level.j0 k a0_0 (a0_0 == 6)) else (if a0_0 = 13 then (tree_Level.j0 k a0_0 (a0_0 == 13)) else (tree_Level.j0 k a0_0 (a0_0 == 14)))))))))))
theorem tree_Level.mono_l : ∀ k, (∀ y0 y1, LeO (tree_Level.j0 k y0 y1) (tree_Level.j0 (k + 1) y0 y1)) ∧ (∀ y0 y1, LeO (tree_Level.j1 k y0 y1) (tree_Level.j1 (k + 1) y0 y1))
 | 0 => ⟨fun _ _ r h => by simp [tree_Level.j0] at h, fun _ _ r h => by simp [tree_Level.j1] at h⟩
 | k + 1 => by
  obtain ⟨ih0, ih1⟩ := tree_Level.mono_l k; refine ⟨?_, ?_⟩
  ·intro y0 y1
   unfold tree_Level.j0
   repeat' first
   | (with_reducible exact ih0 _ _)
   | (with_reducible exact ih1 _ _)
   | (with_reducible exact LeO.refl _)
   | (with_reducible exact LeO.none _)
   | (with_reducible refine LeO.ite ?_ ?_)
   | (with_reducible refine LeO.bind ?_ (fun _ => ?_))
   | exact ih0 _ _
   | exact ih1 _ _
   | exact LeO.none _
   | refine LeO.ite ?_ ?_
   | refine LeO.bind ?_ (fun _ => ?_)
  ·intro y0 y1
   unfold tree_Level.j1
   repeat' first
   | (with_reducible exact ih0 _ _)
   | (with_reducible exact ih1 _ _)
   | (with_reducible exact LeO.refl _)
   | (with_reducible exact LeO.none _)
   | (with_reducible refine LeO.ite ?_ ?_)
   | (with_reducible refine LeO.bind ?_ (fun _ => ?_))
   | exact ih0 _ _
   | exact ih1 _ _
   | exact LeO.none _
   | refine LeO.ite ?_ ?_
   | refine LeO.bind ?_ (fun _ => ?_)
theorem tree_Level.mono : ∀ a0 a1 a2 a3 a4 a5 a6 a7 a8 k, LeO (tree_Level.f k a0 a1 a2 a3 a4 a5 a6 a7 a8) (tree_Level.f (k + 1) a0 a1 a2 a3 a4 a5 a6 a7 a8) := by
 intro a0 a1 a2 a3 a4 a5 a6 a7 a8 k; obtain ⟨ih0, ih1⟩ := tree_Level.mono_l k; unfold tree_Level.f
 repeat' first
   | (with_reducible exact ih0 _ _)
   | (with_reducible exact ih1 _ _)
   | (with_reducible exact LeO.refl _)
   | (with_reducible exact LeO.none _)
   | (with_reducible refine LeO.ite ?_ ?_)
   | (with_reducible refine LeO.bind ?_ (fun _ => ?_))
   | exact ih0 _ _
   | exact ih1 _ _
   | exact LeO.none _
   | refine LeO.ite ?_ ?_
   | refine LeO.bind ?_ (fun _ => ?_)
theorem tree_Level.calls (k : Nat) (a0_0 : Int) (a0_1 : ByteArray) (a0_2 : ByteArray) (a0_3 : Int) (a0_4 : Int) (a0_5 : Int) (a0_6 : Int) (a0_7 : ByteArray) (A0_8 : Option Addr) (c0_8 : Nat) (l0_8 : List (S26)) (r : Int) (w : World) (hr0_8 : Kd.C k26 w A0_8 l0_8.length l0_8) (hc0_8 : l0_8.length ≤ c0_8) (h : tree_Level.f k a0_0 a0_1 a0_2 a0_3 a0_4 a0_5 a0_6 a0_7 l0_8 = some r) :
  Calls Tryd.prog 96 #[.agg #[.int .i64 a0_0, .string a0_1, .string a0_2, .int .i64 a0_3, .int .i64 a0_4, .int .i64 a0_5, .int .i64 a0_6, .string a0_7, .slice A0_8 l0_8.length c0_8]] w fun e w' => e = .returned (.int .i64 r) ∧ Below w.heap.size w w' := by
 have hu26 := Tryd.underlying26; have HR0_8 := am_ hr0_8; have HC0_8 := am_ hc0_8; clear hr0_8 hc0_8; have HB := am_ (Below.refl w.heap.size w); have H : (if a0_0 = 11 then (some 1) else (if a0_0 = 10 then (some 2) else (if a0_0 = 12 then (some 3) else (if a0_0 = 1 then (tree_Level.j0 k a0_0 (a0_0 == 1)) else (if a0_0 = 2 then (tree_Level.j0 k a0_0 (a0_0 == 2)) else (if a0_0 = 3 then (tree_Level.j0 k a0_0 (a0_0 == 3)) else (if a0_0 = 4 then (tree_Level.j0 k a0_0 (a0_0 == 4)) else (if a0_0 = 5 then (tree_Level.j0 k a0_0 (a0_0 == 5)) else (if a0_0 = 6 then (tree_Level.j0 k a0_0 (a0_0 == 6)) else (if a0_0 = 13 then (tree_Level.j0 k a0_0 (a0_0 == 13)) else (tree_Level.j0 k a0_0 (a0_0 == 14)))))))))))) = some r := h; clear h
 by_cases c2 : a0_0 = 11
 ·rw [if_pos c2] at H
  have c2b0 : (a0_0 == 11) = true := beq_iff_eq.mpr c2; have c2b1 : (a0_0 != 11) = false := bne_eq_false_iff_eq.mpr c2; clear c2; obtain rfl := Option.some.inj H
  go_enter Tryd.func96, Tryd.ntmps96
  go_wp2_with (first | ((with_reducible refine gate_dst (N := 1) rfl ?_); refine box_event ?hg (N := 1) ?hd (cs := #[.int .i64 a0_0, .string a0_1, .string a0_2, .int .i64 a0_3, .int .i64 a0_4, .int .i64 a0_5, .int .i64 a0_6, .string a0_7, .slice A0_8 l0_8.length c0_8]) (t := 26) ?hr ?_; (case hd => rfl); (case hg => rfl); (case hr => first | (go_simp; done) | (go_simp; rfl)); intro gb119 hg w3 hbox hb; have BK119 := am_ (hbox); have GW119 := am_ ((by rw [hg]; exact (below_size (bl_)) : w.heap.size ≤ gb119)); have GE119 := am_ ((by rw [hg]; exact (below_size (bl_)) : w.heap.size ≤ gb119)); replace HB := am_ (below_step (bl_) hb); clear hb hbox hg; obtain ⟨hcz4_0, hcz4_1, hcz4_2, hcz4_3, hcz4_4, hcz4_5, hcz4_6, hcz4_7, hcz4_8, hfz4_0, hfz4_1, hfz4_2, hfz4_3, hfz4_4, hfz4_5, hfz4_6, hfz4_7, hfz4_8⟩ := bw9_ BK119.out))
  go_ret
  exact ⟨ew_, bl_⟩
 ·rw [if_neg c2] at H
  have c2b0 : (a0_0 == 11) = false := beq_eq_false_iff_ne.mpr c2; have c2b1 : (a0_0 != 11) = true := bne_iff_ne.mpr c2
  by_cases c5 : a0_0 = 10
  ·rw [if_pos c5] at H
   have c5b0 : (a0_0 == 10) = true := beq_iff_eq.mpr c5; have c5b1 : (a0_0 != 10) = false := bne_eq_false_iff_eq.mpr c5; clear c5; obtain rfl := Option.some.inj H
   go_enter Tryd.func96, Tryd.ntmps96
   go_wp2_with (first | ((with_reducible refine gate_dst (N := 1) rfl ?_); refine box_event ?hg (N := 1) ?hd (cs := #[.int .i64 a0_0, .string a0_1, .string a0_2, .int .i64 a0_3, .int .i64 a0_4, .int .i64 a0_5, .int .i64 a0_6, .string a0_7, .slice A0_8 l0_8.length c0_8]) (t := 26) ?hr ?_; (case hd => rfl); (case hg => rfl); (case hr => first | (go_simp; done) | (go_simp; rfl)); intro gb119 hg w6 hbox hb; have BK119 := am_ (hbox); have GW119 := am_ ((by rw [hg]; exact (below_size (bl_)) : w.heap.size ≤ gb119)); have GE119 := am_ ((by rw [hg]; exact (below_size (bl_)) : w.heap.size ≤ gb119)); replace HB := am_ (below_step (bl_) hb); clear hb hbox hg; obtain ⟨hcz7_0, hcz7_1, hcz7_2, hcz7_3, hcz7_4, hcz7_5, hcz7_6, hcz7_7, hcz7_8, hfz7_0, hfz7_1, hfz7_2, hfz7_3, hfz7_4, hfz7_5, hfz7_6, hfz7_7, hfz7_8⟩ := bw9_ BK119.out))
   go_ret
   exact ⟨ew_, bl_⟩
  ·rw [if_neg c5] at H
   have c5b0 : (a0_0 == 10) = false := beq_eq_false_iff_ne.mpr c5; have c5b1 : (a0_0 != 10) = true := bne_iff_ne.mpr c5
   by_cases c8 : a0_0 = 12
   ·rw [if_pos c8] at H
    have c8b0 : (a0_0 == 12) = true := beq_iff_eq.mpr c8; have c8b1 : (a0_0 != 12) = false := bne_eq_false_iff_eq.mpr c8; clear c8; obtain rfl := Option.some.inj H
    go_enter Tryd.func96, Tryd.ntmps96
    go_wp2_with (first | ((with_reducible refine gate_dst (N := 1) rfl ?_); refine box_event ?hg (N := 1) ?hd (cs := #[.int .i64 a0_0, .string a0_1, .string a0_2, .int .i64 a0_3, .int .i64 a0_4, .int .i64 a0_5, .int .i64 a0_6, .string a0_7, .slice A0_8 l0_8.length c0_8]) (t := 26) ?hr ?_; (case hd => rfl); (case hg => rfl); (case hr => first | (go_simp; done) | (go_simp; rfl)); intro gb119 hg w9 hbox hb; have BK119 := am_ (hbox); have GW119 := am_ ((by rw [hg]; exact (below_size (bl_)) : w.heap.size ≤ gb119)); have GE119 := am_ ((by rw [hg]; exact (below_size (bl_)) : w.heap.size ≤ gb119)); replace HB := am_ (below_step (bl_) hb); clear hb hbox hg; obtain ⟨hcz10_0, hcz10_1, hcz10_2, hcz10_3, hcz10_4, hcz10_5, hcz10_6, hcz10_7, hcz10_8, hfz10_0, hfz10_1, hfz10_2, hfz10_3, hfz10_4, hfz10_5, hfz10_6, hfz10_7, hfz10_8⟩ := bw9_ BK119.out))
    go_ret
    exact ⟨ew_, bl_⟩
   ·rw [if_neg c8] at H
    have c8b0 : (a0_0 == 12) = false := beq_eq_false_iff_ne.mpr c8; have c8b1 : (a0_0 != 12) = true := bne_iff_ne.mpr c8; have HC11 := am_ H; clear H
    go_enter Tryd.func96, Tryd.ntmps96
    go_upto_if 11 with (first | ((with_reducible refine gate_dst (N := 1) rfl ?_); refine box_event ?hg (N := 1) ?hd (cs := #[.int .i64 a0_0, .string a0_1, .string a0_2, .int .i64 a0_3, .int .i64 a0_4, .int .i64 a0_5, .int .i64 a0_6, .string a0_7, .slice A0_8 l0_8.length c0_8]) (t := 26) ?hr ?_; (case hd => rfl); (case hg => rfl); (case hr => first | (go_simp; done) | (go_simp; rfl)); intro gb119 hg w12 hbox hb; have BK119 := am_ (hbox); have GW119 := am_ ((by rw [hg]; exact (below_size (bl_)) : w.heap.size ≤ gb119)); have GE119 := am_ ((by rw [hg]; exact (below_size (bl_)) : w.heap.size ≤ gb119)); replace HB := am_ (below_step (bl_) hb); clear hb hbox hg; obtain ⟨hcz13_0, hcz13_1, hcz13_2, hcz13_3, hcz13_4, hcz13_5, hcz13_6, hcz13_7, hcz13_8, hfz13_0, hfz13_1, hfz13_2, hfz13_3, hfz13_4, hfz13_5, hfz13_6, hfz13_7, hfz13_8⟩ := bw9_ BK119.out))
    (try simp only [Act.put, sa_, sz_, ss_])
    go_cut [11] (fun v11 wc => ∃ (kq : Nat) (x11_10 : Bool), v11 = .bool x11_10 ∧ Aside0 (tree_Level.j0 kq a0_0 x11_10 = some r) ∧ Aside0 (kq ≤ k) ∧ Aside0 (wc.heap[gb119]? = some (.cells #[.int .i64 a0_0, .string a0_1, .string a0_2, .int .i64 a0_3, .int .i64 a0_4, .int .i64 a0_5, .int .i64 a0_6, .string a0_7, (.slice A0_8 l0_8.length c0_8)] 26 (0, 0))) ∧ Aside0 (Below w.heap.size w wc))
    case first =>
     have H := HC11.out; clear HC11
     by_cases c14 : a0_0 = 1
     ·rw [if_pos c14] at H
      have c14b0 : (a0_0 == 1) = true := beq_iff_eq.mpr c14; have c14b1 : (a0_0 != 1) = false := bne_eq_false_iff_eq.mpr c14; clear c14; (first | rw [c14b0] | (simp only [i64_w, i32_w]; rw [c14b0]) | skip); have H' := am_ H; clear H
      go_wp2
      go_meet
      case rel => exact ⟨_, ((a0_0 == 1)), (rs_), H', ⟨by first | omega | exact Nat.le_refl _⟩, ⟨bk_ BK119.out⟩, ⟨bl_⟩⟩
     ·rw [if_neg c14] at H
      have c14b0 : (a0_0 == 1) = false := beq_eq_false_iff_ne.mpr c14; have c14b1 : (a0_0 != 1) = true := bne_iff_ne.mpr c14; (first | rw [c14b0] | (simp only [i64_w, i32_w]; rw [c14b0]) | skip)
      by_cases c15 : a0_0 = 2
      ·rw [if_pos c15] at H
       have c15b0 : (a0_0 == 2) = true := beq_iff_eq.mpr c15; have c15b1 : (a0_0 != 2) = false := bne_eq_false_iff_eq.mpr c15; clear c15; have H' := am_ H; clear H
       go_wp2
       go_meet
       case rel => exact ⟨_, ((a0_0 == 2)), (rs_), H', ⟨by first | omega | exact Nat.le_refl _⟩, ⟨bk_ BK119.out⟩, ⟨bl_⟩⟩
      ·rw [if_neg c15] at H
       have c15b0 : (a0_0 == 2) = false := beq_eq_false_iff_ne.mpr c15; have c15b1 : (a0_0 != 2) = true := bne_iff_ne.mpr c15
       by_cases c16 : a0_0 = 3
       ·rw [if_pos c16] at H
        have c16b0 : (a0_0 == 3) = true := beq_iff_eq.mpr c16; have c16b1 : (a0_0 != 3) = false := bne_eq_false_iff_eq.mpr c16; clear c16; have H' := am_ H; clear H
        go_wp2
        go_meet
        case rel => exact ⟨_, ((a0_0 == 3)), (rs_), H', ⟨by first | omega | exact Nat.le_refl _⟩, ⟨bk_ BK119.out⟩, ⟨bl_⟩⟩
       ·rw [if_neg c16] at H
        have c16b0 : (a0_0 == 3) = false := beq_eq_false_iff_ne.mpr c16; have c16b1 : (a0_0 != 3) = true := bne_iff_ne.mpr c16
        by_cases c17 : a0_0 = 4
        ·rw [if_pos c17] at H
         have c17b0 : (a0_0 == 4) = true := beq_iff_eq.mpr c17; have c17b1 : (a0_0 != 4) = false := bne_eq_false_iff_eq.mpr c17; clear c17; have H' := am_ H; clear H
         go_wp2
         go_meet
         case rel => exact ⟨_, ((a0_0 == 4)), (rs_), H', ⟨by first | omega | exact Nat.le_refl _⟩, ⟨bk_ BK119.out⟩, ⟨bl_⟩⟩
        ·rw [if_neg c17] at H
         have c17b0 : (a0_0 == 4) = false := beq_eq_false_iff_ne.mpr c17; have c17b1 : (a0_0 != 4) = true := bne_iff_ne.mpr c17
         by_cases c18 : a0_0 = 5
         ·rw [if_pos c18] at H
          have c18b0 : (a0_0 == 5) = true := beq_iff_eq.mpr c18; have c18b1 : (a0_0 != 5) = false := bne_eq_false_iff_eq.mpr c18; clear c18; have H' := am_ H; clear H
          go_wp2
          go_meet
          case rel => exact ⟨_, ((a0_0 == 5)), (rs_), H', ⟨by first | omega | exact Nat.le_refl _⟩, ⟨bk_ BK119.out⟩, ⟨bl_⟩⟩
         ·rw [if_neg c18] at H
          have c18b0 : (a0_0 == 5) = false := beq_eq_false_iff_ne.mpr c18; have c18b1 : (a0_0 != 5) = true := bne_iff_ne.mpr c18
          by_cases c19 : a0_0 = 6
          ·rw [if_pos c19] at H
           have c19b0 : (a0_0 == 6) = true := beq_iff_eq.mpr c19; have c19b1 : (a0_0 != 6) = false := bne_eq_false_iff_eq.mpr c19; clear c19; have H' := am_ H; clear H
           go_wp2
           go_meet
           case rel => exact ⟨_, ((a0_0 == 6)), (rs_), H', ⟨by first | omega | exact Nat.le_refl _⟩, ⟨bk_ BK119.out⟩, ⟨bl_⟩⟩
          ·rw [if_neg c19] at H
           have c19b0 : (a0_0 == 6) = false := beq_eq_false_iff_ne.mpr c19; have c19b1 : (a0_0 != 6) = true := bne_iff_ne.mpr c19
           by_cases c20 : a0_0 = 13
           ·rw [if_pos c20] at H
            have c20b0 : (a0_0 == 13) = true := beq_iff_eq.mpr c20; have c20b1 : (a0_0 != 13) = false := bne_eq_false_iff_eq.mpr c20; clear c20; have H' := am_ H; clear H
            go_wp2
            go_meet
            case rel => exact ⟨_, ((a0_0 == 13)), (rs_), H', ⟨by first | omega | exact Nat.le_refl _⟩, ⟨bk_ BK119.out⟩, ⟨bl_⟩⟩
           ·rw [if_neg c20] at H
            have c20b0 : (a0_0 == 13) = false := beq_eq_false_iff_ne.mpr c20; have c20b1 : (a0_0 != 13) = true := bne_iff_ne.mpr c20; have H' := am_ H; clear H
            go_wp2
            go_meet
            case rel => exact ⟨_, ((a0_0 == 14)), (rs_), H', ⟨by first | omega | exact Nat.le_refl _⟩, ⟨bk_ BK119.out⟩, ⟨bl_⟩⟩
    case rest =>
     clear HC11; (try clear c1); (try clear c2); (try clear c2b0); (try clear c2b1); (try clear p2); (try clear c5); (try clear c5b0); (try clear c5b1); (try clear c8); (try clear c8b0); (try clear c8b1); (try clear c9); (try clear c14); (try clear c14b0); (try clear c14b1); (try clear c15); (try clear c15b0); (try clear c15b1); (try clear c16); (try clear c16b0); (try clear c16b1); (try clear c17); (try clear c17b0); (try clear c17b1); (try clear c18); (try clear c18b0); (try clear c18b1); (try clear c19); (try clear c19b0); (try clear c19b1); (try clear c20); (try clear c20b0); (try clear c20b1); (try clear hcz10_0); (try clear hcz10_1); (try clear hcz10_2); (try clear hcz10_3); (try clear hcz10_4); (try clear hcz10_5); (try clear hcz10_6); (try clear hcz10_7); (try clear hcz10_8); (try clear hcz13_0); (try clear hcz13_1); (try clear hcz13_2); (try clear hcz13_3); (try clear hcz13_4); (try clear hcz13_5); (try clear hcz13_6); (try clear hcz13_7); (try clear hcz13_8); (try clear hcz4_0); (try clear hcz4_1); (try clear hcz4_2); (try clear hcz4_3); (try clear hcz4_4); (try clear hcz4_5); (try clear hcz4_6); (try clear hcz4_7); (try clear hcz4_8); (try clear hcz7_0); (try clear hcz7_1); (try clear hcz7_2); (try clear hcz7_3); (try clear hcz7_4); (try clear hcz7_5); (try clear hcz7_6); (try clear hcz7_7); (try clear hcz7_8); (try clear hfz10_0); (try clear hfz10_1); (try clear hfz10_2); (try clear hfz10_3); (try clear hfz10_4); (try clear hfz10_5); (try clear hfz10_6); (try clear hfz10_7); (try clear hfz10_8); (try clear hfz13_0); (try clear hfz13_1); (try clear hfz13_2); (try clear hfz13_3); (try clear hfz13_4); (try clear hfz13_5); (try clear hfz13_6); (try clear hfz13_7); (try clear hfz13_8); (try clear hfz4_0); (try clear hfz4_1); (try clear hfz4_2); (try clear hfz4_3); (try clear hfz4_4); (try clear hfz4_5); (try clear hfz4_6); (try clear hfz4_7); (try clear hfz4_8); (try clear hfz7_0); (try clear hfz7_1); (try clear hfz7_2); (try clear hfz7_3); (try clear hfz7_4); (try clear hfz7_5); (try clear hfz7_6); (try clear hfz7_7); (try clear hfz7_8); obtain ⟨kq, x11_10, rfl, HA, HJ10, BK119, HB⟩ := hcut
     cases kq with
     | zero => exact absurd HA.out (by simp [tree_Level.j0])
     | succ kj10 =>
      have H := HA.out; clear HA; simp only [tree_Level.j0] at H
      by_cases c21 : x11_10 = true
      ·subst c21
       have H1 : (some 4) = some r := by rw [if_pos rfl] at H; exact H
       clear H; have H := H1; clear H1; obtain rfl := Option.some.inj H
       go_wp2
       go_ret
       exact ⟨ew_, bl_⟩
      ·replace c21 := Bool.eq_false_iff.mpr c21
       subst c21
       have H1 : (if a0_0 = 7 then (tree_Level.j1 kj10 a0_0 (a0_0 == 7)) else (tree_Level.j1 kj10 a0_0 (a0_0 == 8))) = some r := by rw [if_neg (show ¬ (false = true) by decide)] at H; exact H
       clear H; have H := H1; clear H1; have HC22 := am_ H; clear H
       go_upto_if 20 with (fail)
       go_cut [20] (fun v20 wc => ∃ (kq : Nat) (x20_21 : Bool), v20 = .bool x20_21 ∧ Aside0 (tree_Level.j1 kq a0_0 x20_21 = some r) ∧ Aside0 (kq ≤ kj10) ∧ Aside0 (wc.heap[gb119]? = some (.cells #[.int .i64 a0_0, .string a0_1, .string a0_2, .int .i64 a0_3, .int .i64 a0_4, .int .i64 a0_5, .int .i64 a0_6, .string a0_7, (.slice A0_8 l0_8.length c0_8)] 26 (0, 0))) ∧ Aside0 (Below w.heap.size w wc))
       case first =>
        have H := HC22.out; clear HC22
        by_cases c23 : a0_0 = 7
        ·rw [if_pos c23] at H
         have c23b0 : (a0_0 == 7) = true := beq_iff_eq.mpr c23; have c23b1 : (a0_0 != 7) = false := bne_eq_false_iff_eq.mpr c23; clear c23; (first | rw [c23b0] | (simp only [i64_w, i32_w]; rw [c23b0]) | skip); have H' := am_ H; clear H
         go_wp2
         go_meet
         case rel => exact ⟨_, ((a0_0 == 7)), (rs_), H', ⟨by have := HJ10.out; first | omega | exact Nat.le_refl _⟩, ⟨bk_ BK119.out⟩, ⟨bl_⟩⟩
        ·rw [if_neg c23] at H
         have c23b0 : (a0_0 == 7) = false := beq_eq_false_iff_ne.mpr c23; have c23b1 : (a0_0 != 7) = true := bne_iff_ne.mpr c23; (first | rw [c23b0] | (simp only [i64_w, i32_w]; rw [c23b0]) | skip); have H' := am_ H; clear H
         go_wp2
         go_meet
         case rel => exact ⟨_, ((a0_0 == 8)), (rs_), H', ⟨by have := HJ10.out; first | omega | exact Nat.le_refl _⟩, ⟨bk_ BK119.out⟩, ⟨bl_⟩⟩
       case rest =>
        clear HC22; (try clear c1); (try clear c2); (try clear c2b0); (try clear c2b1); (try clear p2); (try clear c5); (try clear c5b0); (try clear c5b1); (try clear c8); (try clear c8b0); (try clear c8b1); (try clear c9); (try clear c14); (try clear c14b0); (try clear c14b1); (try clear c15); (try clear c15b0); (try clear c15b1); (try clear c16); (try clear c16b0); (try clear c16b1); (try clear c17); (try clear c17b0); (try clear c17b1); (try clear c18); (try clear c18b0); (try clear c18b1); (try clear c19); (try clear c19b0); (try clear c19b1); (try clear c20); (try clear c20b0); (try clear c20b1); (try clear c21); (try clear c23); (try clear c23b0); (try clear c23b1); (try clear hcz10_0); (try clear hcz10_1); (try clear hcz10_2); (try clear hcz10_3); (try clear hcz10_4); (try clear hcz10_5); (try clear hcz10_6); (try clear hcz10_7); (try clear hcz10_8); (try clear hcz13_0); (try clear hcz13_1); (try clear hcz13_2); (try clear hcz13_3); (try clear hcz13_4); (try clear hcz13_5); (try clear hcz13_6); (try clear hcz13_7); (try clear hcz13_8); (try clear hcz4_0); (try clear hcz4_1); (try clear hcz4_2); (try clear hcz4_3); (try clear hcz4_4); (try clear hcz4_5); (try clear hcz4_6); (try clear hcz4_7); (try clear hcz4_8); (try clear hcz7_0); (try clear hcz7_1); (try clear hcz7_2); (try clear hcz7_3); (try clear hcz7_4); (try clear hcz7_5); (try clear hcz7_6); (try clear hcz7_7); (try clear hcz7_8); (try clear hfz10_0); (try clear hfz10_1); (try clear hfz10_2); (try clear hfz10_3); (try clear hfz10_4); (try clear hfz10_5); (try clear hfz10_6); (try clear hfz10_7); (try clear hfz10_8); (try clear hfz13_0); (try clear hfz13_1); (try clear hfz13_2); (try clear hfz13_3); (try clear hfz13_4); (try clear hfz13_5); (try clear hfz13_6); (try clear hfz13_7); (try clear hfz13_8); (try clear hfz4_0); (try clear hfz4_1); (try clear hfz4_2); (try clear hfz4_3); (try clear hfz4_4); (try clear hfz4_5); (try clear hfz4_6); (try clear hfz4_7); (try clear hfz4_8); (try clear hfz7_0); (try clear hfz7_1); (try clear hfz7_2); (try clear hfz7_3); (try clear hfz7_4); (try clear hfz7_5); (try clear hfz7_6); (try clear hfz7_7); (try clear hfz7_8); (try clear p2); obtain ⟨kq, x20_21, rfl, HA, HJ21, BK119, HB⟩ := hcut
        cases kq with
        | zero => exact absurd HA.out (by simp [tree_Level.j1])
        | succ kj21 =>
         have H := HA.out; clear HA; simp only [tree_Level.j1] at H
         by_cases c24 : x20_21 = true
         ·subst c24
          have H1 : (some 5) = some r := by rw [if_pos rfl] at H; exact H
          clear H; have H := H1; clear H1; obtain rfl := Option.some.inj H
          go_wp2
          go_ret
          exact ⟨ew_, bl_⟩
         ·replace c24 := Bool.eq_false_iff.mpr c24
          subst c24
          have H1 : (if a0_0 = 9 then (some 6) else (some 7)) = some r := by rw [if_neg (show ¬ (false = true) by decide)] at H; exact H
          clear H; have H := H1; clear H1
          by_cases c25 : a0_0 = 9
          ·rw [if_pos c25] at H
           have c25b0 : (a0_0 == 9) = true := beq_iff_eq.mpr c25; have c25b1 : (a0_0 != 9) = false := bne_eq_false_iff_eq.mpr c25; clear c25; obtain rfl := Option.some.inj H
           go_wp2
           go_ret
           exact ⟨ew_, bl_⟩
          ·rw [if_neg c25] at H
           have c25b0 : (a0_0 == 9) = false := beq_eq_false_iff_ne.mpr c25; have c25b1 : (a0_0 != 9) = true := bne_iff_ne.mpr c25; obtain rfl := Option.some.inj H
           go_wp2
           go_ret
           exact ⟨ew_, bl_⟩
def print_part.f (a0_0 : Int) (a0_1 : ByteArray) (a0_2 : ByteArray) (a0_3 : Int) (a0_4 : Int) (a0_5 : Int) (a0_6 : Int) (a0_7 : ByteArray) (l0_8 : List (S26)) (a1 : Int) : Option (Int × ByteArray × ByteArray × Int × Int × Int × Int × ByteArray × (List (S26))) := if a1 ≥ (l0_8.length : Int) then (some (0, (⟨#[]⟩ : ByteArray), (⟨#[]⟩ : ByteArray), 0, 0, 0, 0, (⟨#[]⟩ : ByteArray), ([] : List (S26)))) else (if 0 ≤ a1 then (if a1 < (l0_8.length : Int) then (some ((rd_T26 l0_8 a1).f0, (rd_T26 l0_8 a1).f1, (rd_T26 l0_8 a1).f2, (rd_T26 l0_8 a1).f3, (rd_T26 l0_8 a1).f4, (rd_T26 l0_8 a1).f5.f0, (rd_T26 l0_8 a1).f5.f1, (rd_T26 l0_8 a1).f5.f2, (rd_T26 l0_8 a1).f6)) else (none)) else (none))
end Go.Proofs.YthlepdjjdbpmoaaDoor.PPrintExprs
namespace Go.Proofs.YthlepdjjdbpmoaaDoor.PPrintExprs
open Go.RowKit Go.Proofs.YthlepdjjdbpmoaaDoorW.PrintWords Go.Proofs.YthlepdjjdbpmoaaDoorW.PrintLast Go.Proofs.YthlepdjjdbpmoaaDoorW.PrintMore
attribute [local go_sem] max2_int min2_int max_two min_two max_three min_three max_four min_four
set_option linter.unusedVariables false
set_option linter.unusedSimpArgs false
set_option maxRecDepth 100000
set_option maxHeartbeats 4000000
def z26_ : S26 := ⟨0, ⟨#[]⟩, ⟨#[]⟩, 0, 0, ⟨0, 0, ⟨#[]⟩⟩, []⟩
def partP (x : S26) (i : Int) : S26 := if i < x.f6.length then rd_T26 x.f6 i else z26_
def levP (op : Int) : Int := if op = 11 then 1 else if op = 10 then 2 else if op = 12 then 3 else if (1 ≤ op ∧ op ≤ 6) ∨ op = 13 ∨ op = 14 then 4 else if op = 7 ∨ op = 8 then 5 else if op = 9 then 6 else 7
def atP (s : ByteArray) (lev need : Int) : ByteArray := if lev < need then (⟨#[40]⟩ : ByteArray) ++ s ++ (⟨#[41]⟩ : ByteArray) else s
def lefP (op : Int) : Int := if op = 11 then 1 else if op = 10 then 2 else if op = 7 then 5 else if op = 8 then 5 else if op = 9 then 6 else 5
def rigP (op : Int) : Int := if op = 11 then 2 else if op = 10 then 3 else if op = 7 then 6 else if op = 8 then 6 else if op = 9 then 7 else 5
def SP : ByteArray := ⟨#[32]⟩
def prE : Nat → S26 → Option ByteArray
  | 0, _ => none
  | k + 1, x =>
    if x.f0 = 12 then (prE k (partP x 0)).bind fun a => some ((⟨#[110, 111, 116, 32]⟩ : ByteArray) ++ atP a (levP (partP x 0).f0) 3)
    else if x.f0 = 13 then (prE k (partP x 0)).bind fun a => some (atP a (levP (partP x 0).f0) 5 ++ (⟨#[32, 105, 115, 32, 110, 117, 108, 108]⟩ : ByteArray))
    else if x.f0 = 14 then (prE k (partP x 0)).bind fun a => some (atP a (levP (partP x 0).f0) 5 ++ (⟨#[32, 105, 115, 32, 110, 111, 116, 32, 110, 117, 108, 108]⟩ : ByteArray))
    else if x.f0 = 15 then (if x.f1 = ⟨#[]⟩ then some x.f2 else some (x.f1 ++ (⟨#[46]⟩ : ByteArray) ++ x.f2))
    else if x.f0 = 16 then print_Val.f k x.f5.f0 x.f5.f1 x.f5.f2
    else if x.f0 = 17 then some ⟨#[99, 111, 117, 110, 116, 40, 42, 41]⟩
    else if x.f0 = 18 ∨ x.f0 = 19 ∨ x.f0 = 20 ∨ x.f0 = 21 then (prE k (partP x 0)).bind fun a => some (opW x.f0 ++ (⟨#[40]⟩ : ByteArray) ++ a ++ (⟨#[41]⟩ : ByteArray))
    else if 1 ≤ x.f0 ∧ x.f0 ≤ 11 then (prE k (partP x 0)).bind fun a => (prE k (partP x 1)).bind fun b => some (atP a (levP (partP x 0).f0) (lefP x.f0) ++ SP ++ opW x.f0 ++ SP ++ atP b (levP (partP x 1).f0) (rigP x.f0))
    else some ⟨#[63]⟩
theorem set9_below {W : World} {n g : Nat} {v0 v1 v2 v3 v4 v5 v6 v7 v8 : Value} (hn : n ≤ g) : Below n W (((((((((W.setCell ⟨g, 0, none⟩ v0).setCell ⟨g, 1, none⟩ v1).setCell ⟨g, 2, none⟩ v2).setCell ⟨g, 3, none⟩ v3).setCell ⟨g, 4, none⟩ v4).setCell ⟨g, 5, none⟩ v5).setCell ⟨g, 6, none⟩ v6).setCell ⟨g, 7, none⟩ v7).setCell ⟨g, 8, none⟩ v8) := by
  repeat (refine Below.setCell ?_ hn _)
  exact Below.refl n W
def ExprOK (k : Nat) : Prop := ∀ (x : S26) (A : Option Addr) (c : Nat) (s : ByteArray) (w : World), Kd.C k26 w A x.f6.length x.f6 → x.f6.length ≤ c → Aside0 (TabOK w) → prE k x = some s → s.size ≤ 1000000000000 → Calls Tryd.prog 13 #[exV x A c] w fun e w' => e = .returned (.string s) ∧ Below w.heap.size w w'
theorem lev_is (x : S26) (k : Nat) (hk : 3 ≤ k) : tree_Level.f k x.f0 x.f1 x.f2 x.f3 x.f4 x.f5.f0 x.f5.f1 x.f5.f2 x.f6 = some (levP x.f0) := by
  obtain ⟨k, rfl⟩ : ∃ m, k = m + 3 := ⟨k - 3, by omega⟩
  unfold tree_Level.f levP
  by_cases h : x.f0 = 11 ∨ x.f0 = 10 ∨ x.f0 = 12 ∨ x.f0 = 1 ∨ x.f0 = 2 ∨ x.f0 = 3 ∨ x.f0 = 4 ∨ x.f0 = 5 ∨ x.f0 = 6 ∨ x.f0 = 13 ∨ x.f0 = 14 ∨ x.f0 = 7 ∨ x.f0 = 8 ∨ x.f0 = 9
  · rcases h with h | h | h | h | h | h | h | h | h | h | h | h | h | h <;> rw [h] <;> simp [tree_Level.j0, tree_Level.j1]
  · simp only [not_or] at h
    obtain ⟨h1, h2, h3, h4, h5, h6, h7, h8, h9, h10, h11, h12, h13, h14⟩ := h
    have q : ¬ ((1 ≤ x.f0 ∧ x.f0 ≤ 6) ∨ x.f0 = 13 ∨ x.f0 = 14) := by omega
    have q2 : ¬ (x.f0 = 7 ∨ x.f0 = 8) := by omega
    have b7 : (x.f0 == 7) = false := beq_eq_false_iff_ne.2 h12
    have b8 : (x.f0 == 8) = false := beq_eq_false_iff_ne.2 h13
    have b14 : (x.f0 == 14) = false := beq_eq_false_iff_ne.2 h11
    simp [h1, h2, h3, h4, h5, h6, h7, h8, h9, h10, h11, h12, h13, h14, q, q2, tree_Level.j0, tree_Level.j1, b7, b8, b14]
    intro h
    omega
theorem lev_ok (x : S26) (A : Option Addr) (c : Nat) (w : World) (hx : Kd.C k26 w A x.f6.length x.f6) (hc : x.f6.length ≤ c) :
    Calls Tryd.prog 96 #[exV x A c] w fun e w' => e = .returned (.int .i64 (levP x.f0)) ∧ Below w.heap.size w w' :=
  tree_Level.calls 3 _ _ _ _ _ _ _ _ A c x.f6 _ w hx hc (lev_is x 3 (Nat.le_refl _))
theorem part_ok (x : S26) (i : Int) (h0 : 0 ≤ i) (A : Option Addr) (c : Nat) (w : World) (hx : Kd.C k26 w A x.f6.length x.f6) (hc : x.f6.length ≤ c) :
    Calls Tryd.prog 49 #[exV x A c, .int .i64 i] w fun e w' => ∃ A' c', e = .returned (exV (partP x i) A' c') ∧ Kd.C k26 w' A' (partP x i).f6.length (partP x i).f6 ∧ (partP x i).f6.length ≤ c' ∧ Below w.heap.size w w' := by
  unfold exV
  by_cases q : i < (x.f6.length : Int)
  · have e : partP x i = rd_T26 x.f6 i := if_pos q
    rw [e]
    clear e
    obtain ⟨ad, A8, c8, eA, t0, t1, t2, t3, t4, t5, t6, t7, t8, l8, g8⟩ := at_T26 hx i h0 q
    subst eA
    generalize rd_T26 x.f6 i = y at *
    have qb : decide (i ≥ (x.f6.length : Int)) = false := decide_eq_false (by omega)
    have HT := Lib.hid (And.intro t0 (And.intro t1 (And.intro t2 (And.intro t3 (And.intro t4 (And.intro t5 (And.intro t6 (And.intro t7 t8))))))))
    have G8 := Lib.hid (And.intro g8 l8)
    clear t0 t1 t2 t3 t4 t5 t6 t7 t8 g8 l8 hx hc
    have i0 := eq_true h0
    have i1 := eq_true q
    go_enter Tryd.func49, Tryd.ntmps49
    go_wp2_with (first
      | ((with_reducible refine gate_dst (N := 2) rfl ?_); refine box_event ?hg (N := 2) ?hd (cs := #[.int .i64 x.f0, .string x.f1, .string x.f2, .int .i64 x.f3, .int .i64 x.f4, .int .i64 x.f5.f0, .int .i64 x.f5.f1, .string x.f5.f2, .slice (some ad) x.f6.length c]) (t := 26) ?hr ?_; (case hd => rfl); (case hg => rfl); (case hr => first | (go_simp; done) | (go_simp; rfl)); intro g2 hg_ w1 hb_ hl_; have BK2 := am_ hb_; have HL2 := am_ hl_; have HG2 := am_ (show w.heap.size ≤ g2 from Nat.le_of_eq hg_.symm); obtain ⟨p20, p21, p22, p23, p24, p25, p26, p27, p28, q20, q21, q22, q23, q24, q25, q26, q27, q28⟩ := bw9_ BK2.out; clear hb_ hl_ hg_; simp only [Act.put, sa_, sz_, ss_])
      | ((with_reducible refine gate_dst (N := 4) rfl ?_); refine box_event ?hg (N := 4) ?hd (cs := #[.int .i64 0, .string (⟨#[]⟩ : ByteArray), .string (⟨#[]⟩ : ByteArray), .int .i64 0, .int .i64 0, .int .i64 0, .int .i64 0, .string (⟨#[]⟩ : ByteArray), .slice none 0 0]) (t := 26) ?hr ?_; (case hd => rfl); (case hg => rfl); (case hr => first | (go_simp; done) | (go_simp; rfl)); intro g4 hg_ w2 hb_ hl_; have BK4 := am_ hb_; have HL4 := am_ (below_step HL2.out hl_); have HG4 := am_ (show w.heap.size ≤ g4 from by rw [hg_]; exact HL2.out.size); have BK2' := am_ (blk_below BK2.out hl_); clear BK2; have BK2 := BK2'; clear BK2'; clear p20 q20 p21 q21 p22 q22 p23 q23 p24 q24 p25 q25 p26 q26 p27 q27 p28 q28; obtain ⟨p20, p21, p22, p23, p24, p25, p26, p27, p28, q20, q21, q22, q23, q24, q25, q26, q27, q28⟩ := bw9_ BK2.out; obtain ⟨p40, p41, p42, p43, p44, p45, p46, p47, p48, q40, q41, q42, q43, q44, q45, q46, q47, q48⟩ := bw9_ BK4.out; clear hb_ hl_ hg_; simp only [Act.put, sa_, sz_, ss_]; obtain ⟨t0, t1, t2, t3, t4, t5, t6, t7, t8⟩ := HT.out; have lt := World.block_lt_of_cell? w _ t0; have u0 := (HL4.out.cell (p := ad.add (i.toNat * 9)) lt).trans t0; have u1 := (HL4.out.cell (p := ⟨(ad.add (i.toNat * 9)).block, (ad.add (i.toNat * 9)).off + 1, none⟩) lt).trans t1; have u2 := (HL4.out.cell (p := ⟨(ad.add (i.toNat * 9)).block, (ad.add (i.toNat * 9)).off + 2, none⟩) lt).trans t2; have u3 := (HL4.out.cell (p := ⟨(ad.add (i.toNat * 9)).block, (ad.add (i.toNat * 9)).off + 3, none⟩) lt).trans t3; have u4 := (HL4.out.cell (p := ⟨(ad.add (i.toNat * 9)).block, (ad.add (i.toNat * 9)).off + 4, none⟩) lt).trans t4; have u5 := (HL4.out.cell (p := ⟨(ad.add (i.toNat * 9)).block, (ad.add (i.toNat * 9)).off + 5, none⟩) lt).trans t5; have u6 := (HL4.out.cell (p := ⟨(ad.add (i.toNat * 9)).block, (ad.add (i.toNat * 9)).off + 6, none⟩) lt).trans t6; have u7 := (HL4.out.cell (p := ⟨(ad.add (i.toNat * 9)).block, (ad.add (i.toNat * 9)).off + 7, none⟩) lt).trans t7; have u8 := (HL4.out.cell (p := ⟨(ad.add (i.toNat * 9)).block, (ad.add (i.toNat * 9)).off + 8, none⟩) lt).trans t8; clear t0 t1 t2 t3 t4 t5 t6 t7 t8 lt))
    have HS := Lib.hid True.intro
    refine bodyPost_ret (results_cell_row rfl _ _ g4 26 #[.int .i64 y.f0, .string y.f1, .string y.f2, .int .i64 y.f3, .int .i64 y.f4, .int .i64 y.f5.f0, .int .i64 y.f5.f1, .string y.f5.f2, .slice A8 y.f6.length c8] (0, 0) _ rfl (put9_ BK4.out) Tryd.underlying26 rfl (by kernel_rfl)) rfl ?_
    refine ⟨A8, c8, rfl, Kd.C_below G8.out.1 ?_, G8.out.2, ?_⟩
    all_goals exact HL4.out.trans (set9_below HG4.out)
  · have e : partP x i = z26_ := if_neg q
    rw [e]
    clear e
    have qb : decide (i ≥ (x.f6.length : Int)) = true := decide_eq_true (by omega)
    clear hx hc
    go_enter Tryd.func49, Tryd.ntmps49
    go_wp2_with (first
      | ((with_reducible refine gate_dst (N := 2) rfl ?_); refine box_event ?hg (N := 2) ?hd (cs := #[.int .i64 x.f0, .string x.f1, .string x.f2, .int .i64 x.f3, .int .i64 x.f4, .int .i64 x.f5.f0, .int .i64 x.f5.f1, .string x.f5.f2, .slice A x.f6.length c]) (t := 26) ?hr ?_; (case hd => rfl); (case hg => rfl); (case hr => first | (go_simp; done) | (go_simp; rfl)); intro g2 hg_ w1 hb_ hl_; have BK2 := am_ hb_; have HL2 := am_ hl_; have HG2 := am_ (show w.heap.size ≤ g2 from Nat.le_of_eq hg_.symm); obtain ⟨p20, p21, p22, p23, p24, p25, p26, p27, p28, q20, q21, q22, q23, q24, q25, q26, q27, q28⟩ := bw9_ BK2.out; clear hb_ hl_ hg_; simp only [Act.put, sa_, sz_, ss_])
      | ((with_reducible refine gate_dst (N := 4) rfl ?_); refine box_event ?hg (N := 4) ?hd (cs := #[.int .i64 0, .string (⟨#[]⟩ : ByteArray), .string (⟨#[]⟩ : ByteArray), .int .i64 0, .int .i64 0, .int .i64 0, .int .i64 0, .string (⟨#[]⟩ : ByteArray), .slice none 0 0]) (t := 26) ?hr ?_; (case hd => rfl); (case hg => rfl); (case hr => first | (go_simp; done) | (go_simp; rfl)); intro g4 hg_ w2 hb_ hl_; have BK4 := am_ hb_; have HL4 := am_ (below_step HL2.out hl_); have HG4 := am_ (show w.heap.size ≤ g4 from by rw [hg_]; exact HL2.out.size); have BK2' := am_ (blk_below BK2.out hl_); clear BK2; have BK2 := BK2'; clear BK2'; clear p20 q20 p21 q21 p22 q22 p23 q23 p24 q24 p25 q25 p26 q26 p27 q27 p28 q28; obtain ⟨p20, p21, p22, p23, p24, p25, p26, p27, p28, q20, q21, q22, q23, q24, q25, q26, q27, q28⟩ := bw9_ BK2.out; obtain ⟨p40, p41, p42, p43, p44, p45, p46, p47, p48, q40, q41, q42, q43, q44, q45, q46, q47, q48⟩ := bw9_ BK4.out; clear hb_ hl_ hg_; simp only [Act.put, sa_, sz_, ss_]))
    refine bodyPost_ret (results_cell_row rfl _ _ g4 26 #[.int .i64 z26_.f0, .string z26_.f1, .string z26_.f2, .int .i64 z26_.f3, .int .i64 z26_.f4, .int .i64 z26_.f5.f0, .int .i64 z26_.f5.f1, .string z26_.f5.f2, .slice none z26_.f6.length 0] (0, 0) _ rfl (put9_ BK4.out) Tryd.underlying26 rfl (by kernel_rfl)) rfl ?_
    refine ⟨none, 0, rfl, ⟨rfl, by simp [z26_], fun q => absurd q (by simp [z26_])⟩, Nat.le_refl _, ?_⟩
    exact HL4.out.trans (set9_below HG4.out)
end Go.Proofs.YthlepdjjdbpmoaaDoor.PPrintExprs
namespace Go.Proofs.YthlepdjjdbpmoaaDoor.PPrintExprs
open Go.RowKit Go.Proofs.YthlepdjjdbpmoaaDoorW.PrintWords Go.Proofs.YthlepdjjdbpmoaaDoorW.PrintLast Go.Proofs.YthlepdjjdbpmoaaDoorW.PrintMore
attribute [local go_sem] max2_int min2_int max_two min_two max_three min_three max_four min_four
set_option linter.unusedVariables false
set_option linter.unusedSimpArgs false
set_option maxRecDepth 100000
set_option maxHeartbeats 4000000
theorem app_size (a b : ByteArray) : (a ++ b).size = a.size + b.size := ByteArray.size_append
theorem at_ok {k : Nat} (hE : ExprOK k) (x : S26) (need : Int) (A : Option Addr) (c : Nat) (s : ByteArray) (w : World) (hx : Kd.C k26 w A x.f6.length x.f6) (hc : x.f6.length ≤ c) (HT : Aside0 (TabOK w)) (h : prE k x = some s) (hs : s.size ≤ 1000000000000) :
    Calls Tryd.prog 48 #[exV x A c, .int .i64 need] w fun e w' => e = .returned (.string (atP s (levP x.f0) need)) ∧ Below w.heap.size w w' := by
  have HX := Lib.hid (And.intro hx hc); clear hx hc
  have HE := Lib.hid hE; have HH := Lib.hid h; have HS := Lib.hid hs
  clear hE h
  unfold exV atP
  by_cases q : levP x.f0 < need
  · rw [if_pos q]
    have qb : decide (levP x.f0 < need) = true := decide_eq_true q
    have za_ : 1 + s.size ≤ 9223372036854775807 := by omega
    have zaa := eq_true (za_); have zab : decide (1 + s.size ≤ 9223372036854775807) = true := decide_eq_true za_; have zac : (9223372036854775807 < 1 + s.size) = False := eq_false (Nat.not_lt.2 za_); clear za_
    have zb_ : ((⟨#[40]⟩ : ByteArray) ++ s).size + 1 ≤ 9223372036854775807 := by rw [app_size]; show 1 + s.size + 1 ≤ _; omega
    have zba := eq_true (zb_); have zbb : decide (((⟨#[40]⟩ : ByteArray) ++ s).size + 1 ≤ 9223372036854775807) = true := decide_eq_true zb_; have zbc : (9223372036854775807 < ((⟨#[40]⟩ : ByteArray) ++ s).size + 1) = False := eq_false (Nat.not_lt.2 zb_); clear zb_
    have zd_ : 1 + s.size + 1 ≤ 9223372036854775807 := by omega
    have zda := eq_true (zd_); have zdb : decide (1 + s.size + 1 ≤ 9223372036854775807) = true := decide_eq_true zd_; have zdc : (9223372036854775807 < 1 + s.size + 1) = False := eq_false (Nat.not_lt.2 zd_); clear zd_
    clear hs
    go_enter Tryd.func48, Tryd.ntmps48
    go_wp2_with (first
      | ((with_reducible refine gate_dst (N := 2) rfl ?_); refine box_event ?hg (N := 2) ?hd (cs := #[.int .i64 x.f0, .string x.f1, .string x.f2, .int .i64 x.f3, .int .i64 x.f4, .int .i64 x.f5.f0, .int .i64 x.f5.f1, .string x.f5.f2, .slice A x.f6.length c]) (t := 26) ?hr ?_; (case hd => rfl); (case hg => rfl); (case hr => first | (go_simp; done) | (go_simp; rfl)); intro g2 hg_ w1 hb_ hl_; have BK2 := am_ hb_; have HL2 := am_ hl_; have HG2 := am_ (show w.heap.size ≤ g2 from Nat.le_of_eq hg_.symm); obtain ⟨p20, p21, p22, p23, p24, p25, p26, p27, p28, q20, q21, q22, q23, q24, q25, q26, q27, q28⟩ := bw9_ BK2.out; clear hb_ hl_ hg_; simp only [Act.put, sa_, sz_, ss_])
      | ((with_reducible refine gate_callee (f := 13) rfl ?_); refine goesL_ (some 7) rfl rfl Tryd.func13 (by kernel_rfl) rfl #[.agg #[.int .i64 x.f0, .string x.f1, .string x.f2, .int .i64 x.f3, .int .i64 x.f4, .int .i64 x.f5.f0, .int .i64 x.f5.f1, .string x.f5.f2, .slice A x.f6.length c]] rfl (by (try simp only [List.map_toArray, List.map_cons, List.map_nil]); first | done | rfl) ?_; refine (HE.out x A c s _ (Kd.C_below HX.out.1 HL2.out) HX.out.2 ⟨TabOK.below HT.out HL2.out⟩ HH.out HS.out).mono ?_; rintro r' w2 ⟨rfl, hb_⟩; refine ⟨_, rfl, ?_⟩; simp only [Act.put, sa_, sz_, ss_]; replace BK2 := am_ (blk_below BK2.out hb_); replace HL2 := am_ (below_step HL2.out hb_); clear p20 q20 p21 q21 p22 q22 p23 q23 p24 q24 p25 q25 p26 q26 p27 q27 p28 q28; obtain ⟨p20, p21, p22, p23, p24, p25, p26, p27, p28, q20, q21, q22, q23, q24, q25, q26, q27, q28⟩ := bw9_ BK2.out; clear hb_)
      | ((with_reducible refine gate_callee (f := 96) rfl ?_); refine goesL_ (some 9) rfl rfl Tryd.func96 (by kernel_rfl) rfl #[.agg #[.int .i64 x.f0, .string x.f1, .string x.f2, .int .i64 x.f3, .int .i64 x.f4, .int .i64 x.f5.f0, .int .i64 x.f5.f1, .string x.f5.f2, .slice A x.f6.length c]] rfl (by (try simp only [List.map_toArray, List.map_cons, List.map_nil]); first | done | rfl) ?_; refine (lev_ok x A c _ (Kd.C_below HX.out.1 HL2.out) HX.out.2).mono ?_; rintro r' w3 ⟨rfl, hb_⟩; refine ⟨_, rfl, ?_⟩; simp only [Act.put, sa_, sz_, ss_]; replace BK2 := am_ (blk_below BK2.out hb_); replace HL2 := am_ (below_step HL2.out hb_); clear p20 q20 p21 q21 p22 q22 p23 q23 p24 q24 p25 q25 p26 q26 p27 q27 p28 q28; obtain ⟨p20, p21, p22, p23, p24, p25, p26, p27, p28, q20, q21, q22, q23, q24, q25, q26, q27, q28⟩ := bw9_ BK2.out; clear hb_))
    go_ret
    exact ⟨rfl, HL2.out⟩
  · rw [if_neg q]
    have qb : decide (levP x.f0 < need) = false := decide_eq_false q
    clear hs
    go_enter Tryd.func48, Tryd.ntmps48
    go_wp2_with (first
      | ((with_reducible refine gate_dst (N := 2) rfl ?_); refine box_event ?hg (N := 2) ?hd (cs := #[.int .i64 x.f0, .string x.f1, .string x.f2, .int .i64 x.f3, .int .i64 x.f4, .int .i64 x.f5.f0, .int .i64 x.f5.f1, .string x.f5.f2, .slice A x.f6.length c]) (t := 26) ?hr ?_; (case hd => rfl); (case hg => rfl); (case hr => first | (go_simp; done) | (go_simp; rfl)); intro g2 hg_ w1 hb_ hl_; have BK2 := am_ hb_; have HL2 := am_ hl_; have HG2 := am_ (show w.heap.size ≤ g2 from Nat.le_of_eq hg_.symm); obtain ⟨p20, p21, p22, p23, p24, p25, p26, p27, p28, q20, q21, q22, q23, q24, q25, q26, q27, q28⟩ := bw9_ BK2.out; clear hb_ hl_ hg_; simp only [Act.put, sa_, sz_, ss_])
      | ((with_reducible refine gate_callee (f := 13) rfl ?_); refine goesL_ (some 7) rfl rfl Tryd.func13 (by kernel_rfl) rfl #[.agg #[.int .i64 x.f0, .string x.f1, .string x.f2, .int .i64 x.f3, .int .i64 x.f4, .int .i64 x.f5.f0, .int .i64 x.f5.f1, .string x.f5.f2, .slice A x.f6.length c]] rfl (by (try simp only [List.map_toArray, List.map_cons, List.map_nil]); first | done | rfl) ?_; refine (HE.out x A c s _ (Kd.C_below HX.out.1 HL2.out) HX.out.2 ⟨TabOK.below HT.out HL2.out⟩ HH.out HS.out).mono ?_; rintro r' w2 ⟨rfl, hb_⟩; refine ⟨_, rfl, ?_⟩; simp only [Act.put, sa_, sz_, ss_]; replace BK2 := am_ (blk_below BK2.out hb_); replace HL2 := am_ (below_step HL2.out hb_); clear p20 q20 p21 q21 p22 q22 p23 q23 p24 q24 p25 q25 p26 q26 p27 q27 p28 q28; obtain ⟨p20, p21, p22, p23, p24, p25, p26, p27, p28, q20, q21, q22, q23, q24, q25, q26, q27, q28⟩ := bw9_ BK2.out; clear hb_)
      | ((with_reducible refine gate_callee (f := 96) rfl ?_); refine goesL_ (some 9) rfl rfl Tryd.func96 (by kernel_rfl) rfl #[.agg #[.int .i64 x.f0, .string x.f1, .string x.f2, .int .i64 x.f3, .int .i64 x.f4, .int .i64 x.f5.f0, .int .i64 x.f5.f1, .string x.f5.f2, .slice A x.f6.length c]] rfl (by (try simp only [List.map_toArray, List.map_cons, List.map_nil]); first | done | rfl) ?_; refine (lev_ok x A c _ (Kd.C_below HX.out.1 HL2.out) HX.out.2).mono ?_; rintro r' w3 ⟨rfl, hb_⟩; refine ⟨_, rfl, ?_⟩; simp only [Act.put, sa_, sz_, ss_]; replace BK2 := am_ (blk_below BK2.out hb_); replace HL2 := am_ (below_step HL2.out hb_); clear p20 q20 p21 q21 p22 q22 p23 q23 p24 q24 p25 q25 p26 q26 p27 q27 p28 q28; obtain ⟨p20, p21, p22, p23, p24, p25, p26, p27, p28, q20, q21, q22, q23, q24, q25, q26, q27, q28⟩ := bw9_ BK2.out; clear hb_))
    go_ret
    exact ⟨rfl, HL2.out⟩
end Go.Proofs.YthlepdjjdbpmoaaDoor.PPrintExprs
namespace Go.Proofs.YthlepdjjdbpmoaaDoor.PPrintExprs
open Go.RowKit Go.Proofs.YthlepdjjdbpmoaaDoorW.PrintWords Go.Proofs.YthlepdjjdbpmoaaDoorW.PrintLast Go.Proofs.YthlepdjjdbpmoaaDoorW.PrintMore
attribute [local go_sem] max2_int min2_int max_two min_two max_three min_three max_four min_four
set_option linter.unusedVariables false
set_option linter.unusedSimpArgs false
set_option maxRecDepth 100000
set_option maxHeartbeats 4000000
theorem atP_size (s : ByteArray) (l n : Int) : s.size ≤ (atP s l n).size := by
  unfold atP
  split
  · rw [app_size, app_size]
    show s.size ≤ 1 + s.size + 1
    omega
  · exact Nat.le_refl _
theorem two_ok {k : Nat} (hE : ExprOK k) (x : S26) (A : Option Addr) (c : Nat) (a b : ByteArray) (w : World) (h1 : 1 ≤ x.f0) (h11 : x.f0 ≤ 11) (hx : Kd.C k26 w A x.f6.length x.f6) (hc : x.f6.length ≤ c) (HT : Aside0 (TabOK w)) (ha : prE k (partP x 0) = some a) (hb : prE k (partP x 1) = some b) (hs : (atP a (levP (partP x 0).f0) (lefP x.f0) ++ SP ++ opW x.f0 ++ SP ++ atP b (levP (partP x 1).f0) (rigP x.f0)).size ≤ 1000000000000) :
    Calls Tryd.prog 50 #[exV x A c] w fun e w' => e = .returned (.string (atP a (levP (partP x 0).f0) (lefP x.f0) ++ SP ++ opW x.f0 ++ SP ++ atP b (levP (partP x 1).f0) (rigP x.f0))) ∧ Below w.heap.size w w' := by
  have HX := Lib.hid (And.intro hx hc); clear hx hc
  have sa : a.size ≤ (atP a (levP (partP x 0).f0) (lefP x.f0)).size := atP_size _ _ _
  have sb : b.size ≤ (atP b (levP (partP x 1).f0) (rigP x.f0)).size := atP_size _ _ _
  rw [app_size, app_size, app_size, app_size] at hs
  have e1 : SP.size = 1 := rfl
  rw [e1] at hs
  have HE := Lib.hid hE; have HA := Lib.hid (And.intro ha (show a.size ≤ 1000000000000 by omega)); have HB := Lib.hid (And.intro hb (show b.size ≤ 1000000000000 by omega))
  clear hE ha hb
  have za_ : (atP a (levP (partP x 0).f0) (lefP x.f0)).size + 1 ≤ 9223372036854775807 := by omega
  have zaa := eq_true (za_); have zab : decide ((atP a (levP (partP x 0).f0) (lefP x.f0)).size + 1 ≤ 9223372036854775807) = true := decide_eq_true za_; have zac : (9223372036854775807 < (atP a (levP (partP x 0).f0) (lefP x.f0)).size + 1) = False := eq_false (Nat.not_lt.2 za_); clear za_
  have zb_ : (atP a (levP (partP x 0).f0) (lefP x.f0)).size + 1 + (opW x.f0).size ≤ 9223372036854775807 := by omega
  have zba := eq_true (zb_); have zbb : decide ((atP a (levP (partP x 0).f0) (lefP x.f0)).size + 1 + (opW x.f0).size ≤ 9223372036854775807) = true := decide_eq_true zb_; have zbc : (9223372036854775807 < (atP a (levP (partP x 0).f0) (lefP x.f0)).size + 1 + (opW x.f0).size) = False := eq_false (Nat.not_lt.2 zb_); clear zb_
  have zc_ : (atP a (levP (partP x 0).f0) (lefP x.f0)).size + 1 + (opW x.f0).size + 1 ≤ 9223372036854775807 := by omega
  have zca := eq_true (zc_); have zcb : decide ((atP a (levP (partP x 0).f0) (lefP x.f0)).size + 1 + (opW x.f0).size + 1 ≤ 9223372036854775807) = true := decide_eq_true zc_; have zcc : (9223372036854775807 < (atP a (levP (partP x 0).f0) (lefP x.f0)).size + 1 + (opW x.f0).size + 1) = False := eq_false (Nat.not_lt.2 zc_); clear zc_
  have zd_ : (atP a (levP (partP x 0).f0) (lefP x.f0)).size + 1 + (opW x.f0).size + 1 + (atP b (levP (partP x 1).f0) (rigP x.f0)).size ≤ 9223372036854775807 := by omega
  have zda := eq_true (zd_); have zdb : decide ((atP a (levP (partP x 0).f0) (lefP x.f0)).size + 1 + (opW x.f0).size + 1 + (atP b (levP (partP x 1).f0) (rigP x.f0)).size ≤ 9223372036854775807) = true := decide_eq_true zd_; have zdc : (9223372036854775807 < (atP a (levP (partP x 0).f0) (lefP x.f0)).size + 1 + (opW x.f0).size + 1 + (atP b (levP (partP x 1).f0) (rigP x.f0)).size) = False := eq_false (Nat.not_lt.2 zd_); clear zd_
  clear hs e1 sa sb
  unfold exV SP
  have hop : x.f0 = 11 ∨ x.f0 = 10 ∨ x.f0 = 7 ∨ x.f0 = 8 ∨ x.f0 = 9 ∨ (x.f0 ≠ 11 ∧ x.f0 ≠ 10 ∧ x.f0 ≠ 7 ∧ x.f0 ≠ 8 ∧ x.f0 ≠ 9) := by omega
  have n11 : ∀ n : Int, x.f0 ≠ n → (x.f0 == n) = false := fun n h => beq_eq_false_iff_ne.2 h
  have y11 : ∀ n : Int, x.f0 = n → (x.f0 == n) = true := fun n h => beq_iff_eq.2 h
  rcases hop with h | h | h | h | h | ⟨ha_, hb_, hc_, hd_, he_⟩
  case' inl =>
    have d11 := y11 11 h
    have d10 := n11 10 (by omega)
    have d7 := n11 7 (by omega)
    have d8 := n11 8 (by omega)
    have d9 := n11 9 (by omega)
    have hL : lefP x.f0 = 1 := by rw [h]; decide
    have hR : rigP x.f0 = 2 := by rw [h]; decide
    rw [hL] at zaa zab zac zba zbb zbc zca zcb zcc zda zdb zdc ⊢
    rw [hR] at zda zdb zdc ⊢
    clear n11 y11 hL hR h
  case' inr.inl =>
    have d10 := y11 10 h
    have d11 := n11 11 (by omega)
    have d7 := n11 7 (by omega)
    have d8 := n11 8 (by omega)
    have d9 := n11 9 (by omega)
    have hL : lefP x.f0 = 2 := by rw [h]; decide
    have hR : rigP x.f0 = 3 := by rw [h]; decide
    rw [hL] at zaa zab zac zba zbb zbc zca zcb zcc zda zdb zdc ⊢
    rw [hR] at zda zdb zdc ⊢
    clear n11 y11 hL hR h
  case' inr.inr.inl =>
    have d7 := y11 7 h
    have d11 := n11 11 (by omega)
    have d10 := n11 10 (by omega)
    have d8 := n11 8 (by omega)
    have d9 := n11 9 (by omega)
    have hL : lefP x.f0 = 5 := by rw [h]; decide
    have hR : rigP x.f0 = 6 := by rw [h]; decide
    rw [hL] at zaa zab zac zba zbb zbc zca zcb zcc zda zdb zdc ⊢
    rw [hR] at zda zdb zdc ⊢
    clear n11 y11 hL hR h
  case' inr.inr.inr.inl =>
    have d8 := y11 8 h
    have d11 := n11 11 (by omega)
    have d10 := n11 10 (by omega)
    have d7 := n11 7 (by omega)
    have d9 := n11 9 (by omega)
    have hL : lefP x.f0 = 5 := by rw [h]; decide
    have hR : rigP x.f0 = 6 := by rw [h]; decide
    rw [hL] at zaa zab zac zba zbb zbc zca zcb zcc zda zdb zdc ⊢
    rw [hR] at zda zdb zdc ⊢
    clear n11 y11 hL hR h
  case' inr.inr.inr.inr.inl =>
    have d9 := y11 9 h
    have d11 := n11 11 (by omega)
    have d10 := n11 10 (by omega)
    have d7 := n11 7 (by omega)
    have d8 := n11 8 (by omega)
    have hL : lefP x.f0 = 6 := by rw [h]; decide
    have hR : rigP x.f0 = 7 := by rw [h]; decide
    rw [hL] at zaa zab zac zba zbb zbc zca zcb zcc zda zdb zdc ⊢
    rw [hR] at zda zdb zdc ⊢
    clear n11 y11 hL hR h
  case' inr.inr.inr.inr.inr =>
    have d11 := n11 11 ha_; have d10 := n11 10 hb_; have d7 := n11 7 hc_; have d8 := n11 8 hd_; have d9 := n11 9 he_
    have hL : lefP x.f0 = 5 := by unfold lefP; rw [if_neg ha_, if_neg hb_, if_neg hc_, if_neg hd_, if_neg he_]
    have hR : rigP x.f0 = 5 := by unfold rigP; rw [if_neg ha_, if_neg hb_, if_neg hc_, if_neg hd_, if_neg he_]
    rw [hL] at zaa zab zac zba zbb zbc zca zcb zcc zda zdb zdc ⊢
    rw [hR] at zda zdb zdc ⊢
    clear n11 y11 hL hR ha_ hb_ hc_ hd_ he_
  all_goals
    go_enter Tryd.func50, Tryd.ntmps50
    go_wp2_with (first
      | ((with_reducible refine gate_dst (N := 1) rfl ?_); refine box_event ?hg (N := 1) ?hd (cs := #[.int .i64 x.f0, .string x.f1, .string x.f2, .int .i64 x.f3, .int .i64 x.f4, .int .i64 x.f5.f0, .int .i64 x.f5.f1, .string x.f5.f2, .slice A x.f6.length c]) (t := 26) ?hr ?_; (case hd => rfl); (case hg => rfl); (case hr => first | (go_simp; done) | (go_simp; rfl)); intro g2 hg_ w1 hb_ hl_; have BK2 := am_ hb_; have HL2 := am_ hl_; have HG2 := am_ (show w.heap.size ≤ g2 from Nat.le_of_eq hg_.symm); obtain ⟨p20, p21, p22, p23, p24, p25, p26, p27, p28, q20, q21, q22, q23, q24, q25, q26, q27, q28⟩ := bw9_ BK2.out; clear hb_ hl_ hg_; simp only [Act.put, sa_, sz_, ss_]))
    refine start_ (n := 16) (S := fun w' => Below w1.heap.size w1 w') (ds := []) #[false, false, false, false, false, false, false, false, false, false, false, false, false, false, false, false] (by kernel_rfl) rfl rfl (Below.drew (Below.refl _ _)) (fun hHeld => ?_)
    generalize w1.drew = wr at hHeld ⊢
    refine take_ (i := 0) (N := some 16) (v := ?_) (a' := ?_) #[true, false, false, false, false, false, false, false, false, false, false, false, false, false, false, false] rfl rfl (by kernel_rfl) (fun _ _ _ h => h) (Or.inl ⟨by rfl, ?_⟩) hHeld ?_ ?_; rotate_left
    · intro w' hS; obtain ⟨p20, p21, p22, p23, p24, p25, p26, p27, p28, q20, q21, q22, q23, q24, q25, q26, q27, q28⟩ := bw9_ (blk_below BK2.out hS); go_simp; (with_reducible rfl)
    rotate_left
    · simp only [Act.put, sa_, sz_, ss_, i64_w, i32_w]
      rfl
    refine pure_ (i := 2) (N := some 18) (v := ?_) (a' := ?_) #[true, false, true, false, false, false, false, false, false, false, false, false, false, false, false, false] rfl rfl (by kernel_rfl) (fun _ _ _ h => h) (Or.inl ⟨by rfl, ?_⟩) ?_ ?_; rotate_left
    · intro w'
      go_simp; (with_reducible rfl)
    rotate_left
    · simp only [Act.put, sa_, sz_, ss_, i64_w, i32_w]
      rfl
    refine pure_ (i := 5) (N := some 21) (v := ?_) (a' := ?_) #[true, false, true, false, false, true, false, false, false, false, false, false, false, false, false, false] rfl rfl (by kernel_rfl) (fun _ _ _ h => h) (Or.inl ⟨by rfl, ?_⟩) ?_ ?_; rotate_left
    · intro w'
      go_simp; (with_reducible rfl)
    rotate_left
    · simp only [Act.put, sa_, sz_, ss_, i64_w, i32_w]
      rfl
    refine take_ (i := 6) (N := some 22) (v := ?_) (a' := ?_) #[true, false, true, false, false, true, true, false, false, false, false, false, false, false, false, false] rfl rfl (by kernel_rfl) (fun _ _ _ h => h) (Or.inl ⟨by rfl, ?_⟩) hHeld ?_ ?_; rotate_left
    · intro w' hS; obtain ⟨p20, p21, p22, p23, p24, p25, p26, p27, p28, q20, q21, q22, q23, q24, q25, q26, q27, q28⟩ := bw9_ (blk_below BK2.out hS); go_simp; (with_reducible rfl)
    rotate_left
    · simp only [Act.put, sa_, sz_, ss_, i64_w, i32_w]
      rfl
    refine take_ (i := 10) (N := some 26) (v := ?_) (a' := ?_) #[true, false, true, false, false, true, true, false, false, false, true, false, false, false, false, false] rfl rfl (by kernel_rfl) (fun _ _ _ h => h) (Or.inl ⟨by rfl, ?_⟩) hHeld ?_ ?_; rotate_left
    · intro w' hS; obtain ⟨p20, p21, p22, p23, p24, p25, p26, p27, p28, q20, q21, q22, q23, q24, q25, q26, q27, q28⟩ := bw9_ (blk_below BK2.out hS); go_simp; (with_reducible rfl)
    rotate_left
    · simp only [Act.put, sa_, sz_, ss_, i64_w, i32_w]
      rfl
    refine pure_ (i := 12) (N := some 28) (v := ?_) (a' := ?_) #[true, false, true, false, false, true, true, false, false, false, true, false, true, false, false, false] rfl rfl (by kernel_rfl) (fun _ _ _ h => h) (Or.inl ⟨by rfl, ?_⟩) ?_ ?_; rotate_left
    · intro w'
      go_simp; (with_reducible rfl)
    rotate_left
    · simp only [Act.put, sa_, sz_, ss_, i64_w, i32_w]
      rfl
    refine one_ (i := 1) (N := some 17) #[true, true, true, false, false, true, true, false, false, false, true, false, true, false, false, false] rfl rfl (by kernel_rfl) (by decide) (fun K hK => ?_); refine goes_ Tryd.func49 (by kernel_rfl) rfl #[.agg #[.int .i64 x.f0, .string x.f1, .string x.f2, .int .i64 x.f3, .int .i64 x.f4, .int .i64 x.f5.f0, .int .i64 x.f5.f1, .string x.f5.f2, .slice A x.f6.length c], .int .i64 0] (by rfl) rfl rfl (by (try simp only [List.map_toArray, List.map_cons, List.map_nil]); first | done | rfl) ?_; refine (part_ok x 0 (by decide) A c _ (Kd.C_below HX.out.1 (below_step HL2.out hHeld)) HX.out.2).mono ?_; rintro e' w3 ⟨A3, c3, rfl, k3, l3, hb_⟩; refine ⟨_, rfl, ?_⟩; have X3 := am_ (below_step hHeld hb_); have K3 := am_ (And.intro k3 l3); clear hb_ k3 l3; refine hK.out _ _ (X3.out) (fun hHeld => ?_); clear hK K; refine norm_ (a' := ?_) ?_ ?_; rotate_left
    · show Act.put _ (some 17) _ = _
      simp only [Act.put, sa_, sz_, ss_, i64_w, i32_w, exV]; rfl
    refine one_ (i := 3) (N := some 19) #[true, true, true, true, false, true, true, false, false, false, true, false, true, false, false, false] rfl rfl (by kernel_rfl) (by decide) (fun K hK => ?_); refine goes_ Tryd.func48 (by kernel_rfl) rfl #[.agg #[.int .i64 (partP x 0).f0, .string (partP x 0).f1, .string (partP x 0).f2, .int .i64 (partP x 0).f3, .int .i64 (partP x 0).f4, .int .i64 (partP x 0).f5.f0, .int .i64 (partP x 0).f5.f1, .string (partP x 0).f5.f2, .slice A3 (partP x 0).f6.length c3], .int .i64 _] (by rfl) rfl rfl (by (try simp only [List.map_toArray, List.map_cons, List.map_nil]); first | done | rfl) ?_; refine (at_ok HE.out (partP x 0) _ A3 c3 a _ K3.out.1 K3.out.2 ⟨TabOK.below HT.out (below_step HL2.out hHeld)⟩ HA.out.1 HA.out.2).mono ?_; rintro e' w4 ⟨rfl, hb_⟩; refine ⟨_, rfl, ?_⟩; have X4 := am_ (below_step hHeld hb_); clear hb_ X3 K3; refine hK.out _ _ (X4.out) (fun hHeld => ?_); clear hK K; refine norm_ (a' := ?_) ?_ ?_; rotate_left
    · show Act.put _ (some 19) _ = _
      simp only [Act.put, sa_, sz_, ss_, i64_w, i32_w]; rfl
    refine pure_ (i := 4) (N := some 20) (v := ?_) (a' := ?_) #[true, true, true, true, true, true, true, false, false, false, true, false, true, false, false, false] rfl rfl (by kernel_rfl) (fun _ _ _ h => h) (Or.inl ⟨by rfl, ?_⟩) ?_ ?_; rotate_left
    · intro w'
      go_simp; (try simp only [zac, zbc, zcc, zdc, if_false]); (with_reducible rfl)
    rotate_left
    · simp only [Act.put, sa_, sz_, ss_, i64_w, i32_w]
      rfl
    refine one_ (i := 7) (N := some 23) #[true, true, true, true, true, true, true, true, false, false, true, false, true, false, false, false] rfl rfl (by kernel_rfl) (by decide) (fun K hK => ?_); refine goes_ Tryd.func17 (by kernel_rfl) rfl #[.int .i64 x.f0] (by rfl) rfl rfl (by (try simp only [List.map_toArray, List.map_cons, List.map_nil]); first | done | rfl) ?_; refine (print_Op.calls x.f0 _ _ rfl).mono ?_; rintro e' w5 ⟨rfl, hb_⟩; refine ⟨_, rfl, ?_⟩; have X5 := am_ (below_step hHeld hb_); clear hb_ X4; refine hK.out _ _ (X5.out) (fun hHeld => ?_); clear hK K; refine norm_ (a' := ?_) ?_ ?_; rotate_left
    · show Act.put _ (some 23) _ = _
      simp only [Act.put, sa_, sz_, ss_, i64_w, i32_w]; rfl
    refine pure_ (i := 8) (N := some 24) (v := ?_) (a' := ?_) #[true, true, true, true, true, true, true, true, true, false, true, false, true, false, false, false] rfl rfl (by kernel_rfl) (fun _ _ _ h => h) (Or.inl ⟨by rfl, ?_⟩) ?_ ?_; rotate_left
    · intro w'
      go_simp; (try simp only [zac, zbc, zcc, zdc, if_false]); (with_reducible rfl)
    rotate_left
    · simp only [Act.put, sa_, sz_, ss_, i64_w, i32_w]
      rfl
    refine pure_ (i := 9) (N := some 25) (v := ?_) (a' := ?_) #[true, true, true, true, true, true, true, true, true, true, true, false, true, false, false, false] rfl rfl (by kernel_rfl) (fun _ _ _ h => h) (Or.inl ⟨by rfl, ?_⟩) ?_ ?_; rotate_left
    · intro w'
      go_simp; (try simp only [zac, zbc, zcc, zdc, if_false]); (with_reducible rfl)
    rotate_left
    · simp only [Act.put, sa_, sz_, ss_, i64_w, i32_w]
      rfl
    refine one_ (i := 11) (N := some 27) #[true, true, true, true, true, true, true, true, true, true, true, true, true, false, false, false] rfl rfl (by kernel_rfl) (by decide) (fun K hK => ?_); refine goes_ Tryd.func49 (by kernel_rfl) rfl #[.agg #[.int .i64 x.f0, .string x.f1, .string x.f2, .int .i64 x.f3, .int .i64 x.f4, .int .i64 x.f5.f0, .int .i64 x.f5.f1, .string x.f5.f2, .slice A x.f6.length c], .int .i64 1] (by rfl) rfl rfl (by (try simp only [List.map_toArray, List.map_cons, List.map_nil]); first | done | rfl) ?_; refine (part_ok x 1 (by decide) A c _ (Kd.C_below HX.out.1 (below_step HL2.out hHeld)) HX.out.2).mono ?_; rintro e' w6 ⟨A6, c6, rfl, k6, l6, hb_⟩; refine ⟨_, rfl, ?_⟩; have X6 := am_ (below_step hHeld hb_); have K6 := am_ (And.intro k6 l6); clear hb_ k6 l6 X5; refine hK.out _ _ (X6.out) (fun hHeld => ?_); clear hK K; refine norm_ (a' := ?_) ?_ ?_; rotate_left
    · show Act.put _ (some 27) _ = _
      simp only [Act.put, sa_, sz_, ss_, i64_w, i32_w, exV]; rfl
    refine one_ (i := 13) (N := some 29) #[true, true, true, true, true, true, true, true, true, true, true, true, true, true, false, false] rfl rfl (by kernel_rfl) (by decide) (fun K hK => ?_); refine goes_ Tryd.func48 (by kernel_rfl) rfl #[.agg #[.int .i64 (partP x 1).f0, .string (partP x 1).f1, .string (partP x 1).f2, .int .i64 (partP x 1).f3, .int .i64 (partP x 1).f4, .int .i64 (partP x 1).f5.f0, .int .i64 (partP x 1).f5.f1, .string (partP x 1).f5.f2, .slice A6 (partP x 1).f6.length c6], .int .i64 _] (by rfl) rfl rfl (by (try simp only [List.map_toArray, List.map_cons, List.map_nil]); first | done | rfl) ?_; refine (at_ok HE.out (partP x 1) _ A6 c6 b _ K6.out.1 K6.out.2 ⟨TabOK.below HT.out (below_step HL2.out hHeld)⟩ HB.out.1 HB.out.2).mono ?_; rintro e' w7 ⟨rfl, hb_⟩; refine ⟨_, rfl, ?_⟩; have X7 := am_ (below_step hHeld hb_); clear hb_ X6 K6; refine hK.out _ _ (X7.out) (fun hHeld => ?_); clear hK K; refine norm_ (a' := ?_) ?_ ?_; rotate_left
    · show Act.put _ (some 29) _ = _
      simp only [Act.put, sa_, sz_, ss_, i64_w, i32_w]; rfl
    refine pure_ (i := 14) (N := some 30) (v := ?_) (a' := ?_) #[true, true, true, true, true, true, true, true, true, true, true, true, true, true, true, false] rfl rfl (by kernel_rfl) (fun _ _ _ h => h) (Or.inl ⟨by rfl, ?_⟩) ?_ ?_; rotate_left
    · intro w'
      go_simp; (try simp only [zac, zbc, zcc, zdc, if_false]); (with_reducible rfl)
    rotate_left
    · simp only [Act.put, sa_, sz_, ss_, i64_w, i32_w]
      rfl
    refine pure_ (i := 15) (N := some 2) (v := ?_) (a' := ?_) #[true, true, true, true, true, true, true, true, true, true, true, true, true, true, true, true] rfl rfl (by kernel_rfl) (fun _ _ _ h => h) (Or.inl ⟨by rfl, ?_⟩) ?_ ?_; rotate_left
    · intro w'
      go_simp; (with_reducible rfl)
    rotate_left
    · simp only [Act.put, sa_, sz_, ss_, i64_w, i32_w]
      rfl
    refine done_ (by kernel_rfl) ?_
    go_wp2
    go_ret
    exact ⟨rfl, below_step HL2.out X7.out⟩end Go.Proofs.YthlepdjjdbpmoaaDoor.PPrintExprs
namespace Go.Proofs.YthlepdjjdbpmoaaDoor.PPrintExprs
open Go.RowKit Go.Proofs.YthlepdjjdbpmoaaDoorW.PrintWords Go.Proofs.YthlepdjjdbpmoaaDoorW.PrintLast Go.Proofs.YthlepdjjdbpmoaaDoorW.PrintMore
attribute [local go_sem] max2_int min2_int max_two min_two max_three min_three max_four min_four
set_option linter.unusedVariables false
set_option linter.unusedSimpArgs false
set_option maxRecDepth 100000
set_option maxHeartbeats 4000000
theorem str_nil {s : ByteArray} (h : s.toList = []) : s = ⟨#[]⟩ := by
  have h2 : s.data.toList = [] := by rw [← ByteArray.toList_eq s]; exact h
  apply ByteArray.ext
  exact Array.ext' h2
theorem ex12 {k : Nat} {w : World} (hE : ExprOK k) (x : S26) (A : Option Addr) (c : Nat) (hx : Kd.C k26 w A x.f6.length x.f6) (hc : x.f6.length ≤ c) (HT : Aside0 (TabOK w)) (h0 : x.f0 = 12) {a : ByteArray} (ha : prE k (partP x 0) = some a) (hs : ((⟨#[110, 111, 116, 32]⟩ : ByteArray) ++ atP a (levP (partP x 0).f0) 3).size ≤ 1000000000000) :
    Calls Tryd.prog 13 #[exV x A c] w fun e w' => e = .returned (.string ((⟨#[110, 111, 116, 32]⟩ : ByteArray) ++ atP a (levP (partP x 0).f0) 3)) ∧ Below w.heap.size w w' := by
  have HX := Lib.hid (And.intro hx hc); clear hx hc
  have HE := Lib.hid hE; clear hE
  have d12 : (x.f0 == 12) = true := beq_iff_eq.2 h0
  have sa : a.size ≤ (atP a (levP (partP x 0).f0) 3).size := atP_size _ _ _
  rw [app_size] at hs
  have e1 : (⟨#[110, 111, 116, 32]⟩ : ByteArray).size = 4 := rfl
  rw [e1] at hs
  have HA := Lib.hid (And.intro ha (show a.size ≤ 1000000000000 by omega)); clear ha
  have za_ : 4 + (atP a (levP (partP x 0).f0) 3).size ≤ 9223372036854775807 := by omega
  have zaa := eq_true (za_); have zab : decide (4 + (atP a (levP (partP x 0).f0) 3).size ≤ 9223372036854775807) = true := decide_eq_true za_; have zac : (9223372036854775807 < 4 + (atP a (levP (partP x 0).f0) 3).size) = False := eq_false (Nat.not_lt.2 za_); clear za_
  clear hs e1 sa
  unfold exV
  clear h0
  go_enter Tryd.func13, Tryd.ntmps13
  go_wp2_with (first
    | ((with_reducible refine gate_dst (N := 1) rfl ?_); refine box_event ?hg (N := 1) ?hd (cs := #[.int .i64 x.f0, .string x.f1, .string x.f2, .int .i64 x.f3, .int .i64 x.f4, .int .i64 x.f5.f0, .int .i64 x.f5.f1, .string x.f5.f2, .slice A x.f6.length c]) (t := 26) ?hr ?_; (case hd => rfl); (case hg => rfl); (case hr => first | (go_simp; done) | (go_simp; rfl)); intro g2 hg_ w1 hb_ hl_; have BK2 := am_ hb_; have HL2 := am_ hl_; have HG2 := am_ (show w.heap.size ≤ g2 from Nat.le_of_eq hg_.symm); obtain ⟨p20, p21, p22, p23, p24, p25, p26, p27, p28, q20, q21, q22, q23, q24, q25, q26, q27, q28⟩ := bw9_ BK2.out; clear hb_ hl_ hg_; simp only [Act.put, sa_, sz_, ss_])
    | ((with_reducible refine gate_callee (f := 49) rfl ?_); refine goesL_ (some 8) rfl rfl Tryd.func49 (by kernel_rfl) rfl #[.agg #[.int .i64 x.f0, .string x.f1, .string x.f2, .int .i64 x.f3, .int .i64 x.f4, .int .i64 x.f5.f0, .int .i64 x.f5.f1, .string x.f5.f2, .slice A x.f6.length c], .int .i64 0] rfl (by (try simp only [List.map_toArray, List.map_cons, List.map_nil]); first | done | rfl) ?_; refine (part_ok x 0 (by decide) A c _ (Kd.C_below HX.out.1 HL2.out) HX.out.2).mono ?_; rintro r' w2 ⟨A3, c3, rfl, k3, l3, hb_⟩; refine ⟨_, rfl, ?_⟩; simp only [Act.put, sa_, sz_, ss_]; replace BK2 := am_ (blk_below BK2.out hb_); replace HL2 := am_ (below_step HL2.out hb_); clear p20 q20 p21 q21 p22 q22 p23 q23 p24 q24 p25 q25 p26 q26 p27 q27 p28 q28; obtain ⟨p20, p21, p22, p23, p24, p25, p26, p27, p28, q20, q21, q22, q23, q24, q25, q26, q27, q28⟩ := bw9_ BK2.out; have K3 := am_ (And.intro k3 l3); clear k3 l3; simp only [exV]; clear hb_)
    | ((with_reducible refine gate_callee (f := 48) rfl ?_); refine goesL_ (some 9) rfl rfl Tryd.func48 (by kernel_rfl) rfl #[.agg #[.int .i64 (partP x 0).f0, .string (partP x 0).f1, .string (partP x 0).f2, .int .i64 (partP x 0).f3, .int .i64 (partP x 0).f4, .int .i64 (partP x 0).f5.f0, .int .i64 (partP x 0).f5.f1, .string (partP x 0).f5.f2, .slice A3 (partP x 0).f6.length c3], .int .i64 3] rfl (by (try simp only [List.map_toArray, List.map_cons, List.map_nil]); first | done | rfl) ?_; refine (at_ok HE.out (partP x 0) 3 A3 c3 a _ K3.out.1 K3.out.2 ⟨TabOK.below HT.out HL2.out⟩ HA.out.1 HA.out.2).mono ?_; rintro r' w3 ⟨rfl, hb_⟩; refine ⟨_, rfl, ?_⟩; simp only [Act.put, sa_, sz_, ss_]; replace BK2 := am_ (blk_below BK2.out hb_); replace HL2 := am_ (below_step HL2.out hb_); clear p20 q20 p21 q21 p22 q22 p23 q23 p24 q24 p25 q25 p26 q26 p27 q27 p28 q28; obtain ⟨p20, p21, p22, p23, p24, p25, p26, p27, p28, q20, q21, q22, q23, q24, q25, q26, q27, q28⟩ := bw9_ BK2.out; clear K3; clear hb_))
  go_ret
  exact ⟨rfl, HL2.out⟩
theorem ex13 {k : Nat} {w : World} (hE : ExprOK k) (x : S26) (A : Option Addr) (c : Nat) (hx : Kd.C k26 w A x.f6.length x.f6) (hc : x.f6.length ≤ c) (HT : Aside0 (TabOK w)) (h0 : x.f0 = 13) {a : ByteArray} (ha : prE k (partP x 0) = some a) (hs : (atP a (levP (partP x 0).f0) 5 ++ (⟨#[32, 105, 115, 32, 110, 117, 108, 108]⟩ : ByteArray)).size ≤ 1000000000000) :
    Calls Tryd.prog 13 #[exV x A c] w fun e w' => e = .returned (.string (atP a (levP (partP x 0).f0) 5 ++ (⟨#[32, 105, 115, 32, 110, 117, 108, 108]⟩ : ByteArray))) ∧ Below w.heap.size w w' := by
  have HX := Lib.hid (And.intro hx hc); clear hx hc
  have HE := Lib.hid hE; clear hE
  have d12 : (x.f0 == 12) = false := beq_eq_false_iff_ne.2 (by omega)
  have d13 : (x.f0 == 13) = true := beq_iff_eq.2 h0
  have sa : a.size ≤ (atP a (levP (partP x 0).f0) 5).size := atP_size _ _ _
  rw [app_size] at hs
  have e1 : (⟨#[32, 105, 115, 32, 110, 117, 108, 108]⟩ : ByteArray).size = 8 := rfl
  rw [e1] at hs
  have HA := Lib.hid (And.intro ha (show a.size ≤ 1000000000000 by omega)); clear ha
  have za_ : (atP a (levP (partP x 0).f0) 5).size + 8 ≤ 9223372036854775807 := by omega
  have zaa := eq_true (za_); have zab : decide ((atP a (levP (partP x 0).f0) 5).size + 8 ≤ 9223372036854775807) = true := decide_eq_true za_; have zac : (9223372036854775807 < (atP a (levP (partP x 0).f0) 5).size + 8) = False := eq_false (Nat.not_lt.2 za_); clear za_
  clear hs e1 sa
  unfold exV
  clear h0
  go_enter Tryd.func13, Tryd.ntmps13
  go_wp2_with (first
    | ((with_reducible refine gate_dst (N := 1) rfl ?_); refine box_event ?hg (N := 1) ?hd (cs := #[.int .i64 x.f0, .string x.f1, .string x.f2, .int .i64 x.f3, .int .i64 x.f4, .int .i64 x.f5.f0, .int .i64 x.f5.f1, .string x.f5.f2, .slice A x.f6.length c]) (t := 26) ?hr ?_; (case hd => rfl); (case hg => rfl); (case hr => first | (go_simp; done) | (go_simp; rfl)); intro g2 hg_ w1 hb_ hl_; have BK2 := am_ hb_; have HL2 := am_ hl_; have HG2 := am_ (show w.heap.size ≤ g2 from Nat.le_of_eq hg_.symm); obtain ⟨p20, p21, p22, p23, p24, p25, p26, p27, p28, q20, q21, q22, q23, q24, q25, q26, q27, q28⟩ := bw9_ BK2.out; clear hb_ hl_ hg_; simp only [Act.put, sa_, sz_, ss_])
    | ((with_reducible refine gate_callee (f := 49) rfl ?_); refine goesL_ (some 14) rfl rfl Tryd.func49 (by kernel_rfl) rfl #[.agg #[.int .i64 x.f0, .string x.f1, .string x.f2, .int .i64 x.f3, .int .i64 x.f4, .int .i64 x.f5.f0, .int .i64 x.f5.f1, .string x.f5.f2, .slice A x.f6.length c], .int .i64 0] rfl (by (try simp only [List.map_toArray, List.map_cons, List.map_nil]); first | done | rfl) ?_; refine (part_ok x 0 (by decide) A c _ (Kd.C_below HX.out.1 HL2.out) HX.out.2).mono ?_; rintro r' w2 ⟨A3, c3, rfl, k3, l3, hb_⟩; refine ⟨_, rfl, ?_⟩; simp only [Act.put, sa_, sz_, ss_]; replace BK2 := am_ (blk_below BK2.out hb_); replace HL2 := am_ (below_step HL2.out hb_); clear p20 q20 p21 q21 p22 q22 p23 q23 p24 q24 p25 q25 p26 q26 p27 q27 p28 q28; obtain ⟨p20, p21, p22, p23, p24, p25, p26, p27, p28, q20, q21, q22, q23, q24, q25, q26, q27, q28⟩ := bw9_ BK2.out; have K3 := am_ (And.intro k3 l3); clear k3 l3; simp only [exV]; clear hb_)
    | ((with_reducible refine gate_callee (f := 48) rfl ?_); refine goesL_ (some 15) rfl rfl Tryd.func48 (by kernel_rfl) rfl #[.agg #[.int .i64 (partP x 0).f0, .string (partP x 0).f1, .string (partP x 0).f2, .int .i64 (partP x 0).f3, .int .i64 (partP x 0).f4, .int .i64 (partP x 0).f5.f0, .int .i64 (partP x 0).f5.f1, .string (partP x 0).f5.f2, .slice A3 (partP x 0).f6.length c3], .int .i64 5] rfl (by (try simp only [List.map_toArray, List.map_cons, List.map_nil]); first | done | rfl) ?_; refine (at_ok HE.out (partP x 0) 5 A3 c3 a _ K3.out.1 K3.out.2 ⟨TabOK.below HT.out HL2.out⟩ HA.out.1 HA.out.2).mono ?_; rintro r' w3 ⟨rfl, hb_⟩; refine ⟨_, rfl, ?_⟩; simp only [Act.put, sa_, sz_, ss_]; replace BK2 := am_ (blk_below BK2.out hb_); replace HL2 := am_ (below_step HL2.out hb_); clear p20 q20 p21 q21 p22 q22 p23 q23 p24 q24 p25 q25 p26 q26 p27 q27 p28 q28; obtain ⟨p20, p21, p22, p23, p24, p25, p26, p27, p28, q20, q21, q22, q23, q24, q25, q26, q27, q28⟩ := bw9_ BK2.out; clear K3; clear hb_))
  go_ret
  exact ⟨rfl, HL2.out⟩
theorem ex14 {k : Nat} {w : World} (hE : ExprOK k) (x : S26) (A : Option Addr) (c : Nat) (hx : Kd.C k26 w A x.f6.length x.f6) (hc : x.f6.length ≤ c) (HT : Aside0 (TabOK w)) (h0 : x.f0 = 14) {a : ByteArray} (ha : prE k (partP x 0) = some a) (hs : (atP a (levP (partP x 0).f0) 5 ++ (⟨#[32, 105, 115, 32, 110, 111, 116, 32, 110, 117, 108, 108]⟩ : ByteArray)).size ≤ 1000000000000) :
    Calls Tryd.prog 13 #[exV x A c] w fun e w' => e = .returned (.string (atP a (levP (partP x 0).f0) 5 ++ (⟨#[32, 105, 115, 32, 110, 111, 116, 32, 110, 117, 108, 108]⟩ : ByteArray))) ∧ Below w.heap.size w w' := by
  have HX := Lib.hid (And.intro hx hc); clear hx hc
  have HE := Lib.hid hE; clear hE
  have d12 : (x.f0 == 12) = false := beq_eq_false_iff_ne.2 (by omega)
  have d13 : (x.f0 == 13) = false := beq_eq_false_iff_ne.2 (by omega)
  have d14 : (x.f0 == 14) = true := beq_iff_eq.2 h0
  have sa : a.size ≤ (atP a (levP (partP x 0).f0) 5).size := atP_size _ _ _
  rw [app_size] at hs
  have e1 : (⟨#[32, 105, 115, 32, 110, 111, 116, 32, 110, 117, 108, 108]⟩ : ByteArray).size = 12 := rfl
  rw [e1] at hs
  have HA := Lib.hid (And.intro ha (show a.size ≤ 1000000000000 by omega)); clear ha
  have za_ : (atP a (levP (partP x 0).f0) 5).size + 12 ≤ 9223372036854775807 := by omega
  have zaa := eq_true (za_); have zab : decide ((atP a (levP (partP x 0).f0) 5).size + 12 ≤ 9223372036854775807) = true := decide_eq_true za_; have zac : (9223372036854775807 < (atP a (levP (partP x 0).f0) 5).size + 12) = False := eq_false (Nat.not_lt.2 za_); clear za_
  clear hs e1 sa
  unfold exV
  clear h0
  go_enter Tryd.func13, Tryd.ntmps13
  go_wp2_with (first
    | ((with_reducible refine gate_dst (N := 1) rfl ?_); refine box_event ?hg (N := 1) ?hd (cs := #[.int .i64 x.f0, .string x.f1, .string x.f2, .int .i64 x.f3, .int .i64 x.f4, .int .i64 x.f5.f0, .int .i64 x.f5.f1, .string x.f5.f2, .slice A x.f6.length c]) (t := 26) ?hr ?_; (case hd => rfl); (case hg => rfl); (case hr => first | (go_simp; done) | (go_simp; rfl)); intro g2 hg_ w1 hb_ hl_; have BK2 := am_ hb_; have HL2 := am_ hl_; have HG2 := am_ (show w.heap.size ≤ g2 from Nat.le_of_eq hg_.symm); obtain ⟨p20, p21, p22, p23, p24, p25, p26, p27, p28, q20, q21, q22, q23, q24, q25, q26, q27, q28⟩ := bw9_ BK2.out; clear hb_ hl_ hg_; simp only [Act.put, sa_, sz_, ss_])
    | ((with_reducible refine gate_callee (f := 49) rfl ?_); refine goesL_ (some 20) rfl rfl Tryd.func49 (by kernel_rfl) rfl #[.agg #[.int .i64 x.f0, .string x.f1, .string x.f2, .int .i64 x.f3, .int .i64 x.f4, .int .i64 x.f5.f0, .int .i64 x.f5.f1, .string x.f5.f2, .slice A x.f6.length c], .int .i64 0] rfl (by (try simp only [List.map_toArray, List.map_cons, List.map_nil]); first | done | rfl) ?_; refine (part_ok x 0 (by decide) A c _ (Kd.C_below HX.out.1 HL2.out) HX.out.2).mono ?_; rintro r' w2 ⟨A3, c3, rfl, k3, l3, hb_⟩; refine ⟨_, rfl, ?_⟩; simp only [Act.put, sa_, sz_, ss_]; replace BK2 := am_ (blk_below BK2.out hb_); replace HL2 := am_ (below_step HL2.out hb_); clear p20 q20 p21 q21 p22 q22 p23 q23 p24 q24 p25 q25 p26 q26 p27 q27 p28 q28; obtain ⟨p20, p21, p22, p23, p24, p25, p26, p27, p28, q20, q21, q22, q23, q24, q25, q26, q27, q28⟩ := bw9_ BK2.out; have K3 := am_ (And.intro k3 l3); clear k3 l3; simp only [exV]; clear hb_)
    | ((with_reducible refine gate_callee (f := 48) rfl ?_); refine goesL_ (some 21) rfl rfl Tryd.func48 (by kernel_rfl) rfl #[.agg #[.int .i64 (partP x 0).f0, .string (partP x 0).f1, .string (partP x 0).f2, .int .i64 (partP x 0).f3, .int .i64 (partP x 0).f4, .int .i64 (partP x 0).f5.f0, .int .i64 (partP x 0).f5.f1, .string (partP x 0).f5.f2, .slice A3 (partP x 0).f6.length c3], .int .i64 5] rfl (by (try simp only [List.map_toArray, List.map_cons, List.map_nil]); first | done | rfl) ?_; refine (at_ok HE.out (partP x 0) 5 A3 c3 a _ K3.out.1 K3.out.2 ⟨TabOK.below HT.out HL2.out⟩ HA.out.1 HA.out.2).mono ?_; rintro r' w3 ⟨rfl, hb_⟩; refine ⟨_, rfl, ?_⟩; simp only [Act.put, sa_, sz_, ss_]; replace BK2 := am_ (blk_below BK2.out hb_); replace HL2 := am_ (below_step HL2.out hb_); clear p20 q20 p21 q21 p22 q22 p23 q23 p24 q24 p25 q25 p26 q26 p27 q27 p28 q28; obtain ⟨p20, p21, p22, p23, p24, p25, p26, p27, p28, q20, q21, q22, q23, q24, q25, q26, q27, q28⟩ := bw9_ BK2.out; clear K3; clear hb_))
  go_ret
  exact ⟨rfl, HL2.out⟩
theorem ex15a {k : Nat} {w : World} (hE : ExprOK k) (x : S26) (A : Option Addr) (c : Nat) (hx : Kd.C k26 w A x.f6.length x.f6) (hc : x.f6.length ≤ c) (HT : Aside0 (TabOK w)) (h0 : x.f0 = 15) (h1 : x.f1 = ⟨#[]⟩) :
    Calls Tryd.prog 13 #[exV x A c] w fun e w' => e = .returned (.string (x.f2)) ∧ Below w.heap.size w w' := by
  have HX := Lib.hid (And.intro hx hc); clear hx hc
  have HE := Lib.hid hE; clear hE
  have d12 : (x.f0 == 12) = false := beq_eq_false_iff_ne.2 (by omega)
  have d13 : (x.f0 == 13) = false := beq_eq_false_iff_ne.2 (by omega)
  have d14 : (x.f0 == 14) = false := beq_eq_false_iff_ne.2 (by omega)
  have d15 : (x.f0 == 15) = true := beq_iff_eq.2 h0
  have t1 : (x.f1.toList == ([] : List UInt8)) = true := by rw [h1, ByteArray.toList_eq]; rfl
  clear h1
  unfold exV
  clear h0
  go_enter Tryd.func13, Tryd.ntmps13
  go_wp2_with (first
    | ((with_reducible refine gate_dst (N := 1) rfl ?_); refine box_event ?hg (N := 1) ?hd (cs := #[.int .i64 x.f0, .string x.f1, .string x.f2, .int .i64 x.f3, .int .i64 x.f4, .int .i64 x.f5.f0, .int .i64 x.f5.f1, .string x.f5.f2, .slice A x.f6.length c]) (t := 26) ?hr ?_; (case hd => rfl); (case hg => rfl); (case hr => first | (go_simp; done) | (go_simp; rfl)); intro g2 hg_ w1 hb_ hl_; have BK2 := am_ hb_; have HL2 := am_ hl_; have HG2 := am_ (show w.heap.size ≤ g2 from Nat.le_of_eq hg_.symm); obtain ⟨p20, p21, p22, p23, p24, p25, p26, p27, p28, q20, q21, q22, q23, q24, q25, q26, q27, q28⟩ := bw9_ BK2.out; clear hb_ hl_ hg_; simp only [Act.put, sa_, sz_, ss_]))
  go_ret
  exact ⟨rfl, HL2.out⟩
theorem ex15b {k : Nat} {w : World} (hE : ExprOK k) (x : S26) (A : Option Addr) (c : Nat) (hx : Kd.C k26 w A x.f6.length x.f6) (hc : x.f6.length ≤ c) (HT : Aside0 (TabOK w)) (h0 : x.f0 = 15) (h1 : x.f1 ≠ ⟨#[]⟩) (hs : (x.f1 ++ (⟨#[46]⟩ : ByteArray) ++ x.f2).size ≤ 1000000000000) :
    Calls Tryd.prog 13 #[exV x A c] w fun e w' => e = .returned (.string (x.f1 ++ (⟨#[46]⟩ : ByteArray) ++ x.f2)) ∧ Below w.heap.size w w' := by
  have HX := Lib.hid (And.intro hx hc); clear hx hc
  have HE := Lib.hid hE; clear hE
  have d12 : (x.f0 == 12) = false := beq_eq_false_iff_ne.2 (by omega)
  have d13 : (x.f0 == 13) = false := beq_eq_false_iff_ne.2 (by omega)
  have d14 : (x.f0 == 14) = false := beq_eq_false_iff_ne.2 (by omega)
  have d15 : (x.f0 == 15) = true := beq_iff_eq.2 h0
  have t1 : (x.f1.toList == ([] : List UInt8)) = false := beq_eq_false_iff_ne.2 fun h => h1 (str_nil h)
  rw [app_size, app_size] at hs
  have e1 : (⟨#[46]⟩ : ByteArray).size = 1 := rfl
  rw [e1] at hs
  have za_ : x.f1.size + 1 ≤ 9223372036854775807 := by omega
  have zaa := eq_true (za_); have zab : decide (x.f1.size + 1 ≤ 9223372036854775807) = true := decide_eq_true za_; have zac : (9223372036854775807 < x.f1.size + 1) = False := eq_false (Nat.not_lt.2 za_); clear za_
  have zb_ : x.f1.size + 1 + x.f2.size ≤ 9223372036854775807 := by omega
  have zba := eq_true (zb_); have zbb : decide (x.f1.size + 1 + x.f2.size ≤ 9223372036854775807) = true := decide_eq_true zb_; have zbc : (9223372036854775807 < x.f1.size + 1 + x.f2.size) = False := eq_false (Nat.not_lt.2 zb_); clear zb_
  clear hs e1 h1
  unfold exV
  clear h0
  go_enter Tryd.func13, Tryd.ntmps13
  go_wp2_with (first
    | ((with_reducible refine gate_dst (N := 1) rfl ?_); refine box_event ?hg (N := 1) ?hd (cs := #[.int .i64 x.f0, .string x.f1, .string x.f2, .int .i64 x.f3, .int .i64 x.f4, .int .i64 x.f5.f0, .int .i64 x.f5.f1, .string x.f5.f2, .slice A x.f6.length c]) (t := 26) ?hr ?_; (case hd => rfl); (case hg => rfl); (case hr => first | (go_simp; done) | (go_simp; rfl)); intro g2 hg_ w1 hb_ hl_; have BK2 := am_ hb_; have HL2 := am_ hl_; have HG2 := am_ (show w.heap.size ≤ g2 from Nat.le_of_eq hg_.symm); obtain ⟨p20, p21, p22, p23, p24, p25, p26, p27, p28, q20, q21, q22, q23, q24, q25, q26, q27, q28⟩ := bw9_ BK2.out; clear hb_ hl_ hg_; simp only [Act.put, sa_, sz_, ss_]))
  go_ret
  exact ⟨rfl, HL2.out⟩
theorem ex16 {k : Nat} {w : World} (hE : ExprOK k) (x : S26) (A : Option Addr) (c : Nat) (hx : Kd.C k26 w A x.f6.length x.f6) (hc : x.f6.length ≤ c) (HT : Aside0 (TabOK w)) (h0 : x.f0 = 16) {s : ByteArray} (hv : print_Val.f k x.f5.f0 x.f5.f1 x.f5.f2 = some s) :
    Calls Tryd.prog 13 #[exV x A c] w fun e w' => e = .returned (.string (s)) ∧ Below w.heap.size w w' := by
  have HX := Lib.hid (And.intro hx hc); clear hx hc
  have HE := Lib.hid hE; clear hE
  have d12 : (x.f0 == 12) = false := beq_eq_false_iff_ne.2 (by omega)
  have d13 : (x.f0 == 13) = false := beq_eq_false_iff_ne.2 (by omega)
  have d14 : (x.f0 == 14) = false := beq_eq_false_iff_ne.2 (by omega)
  have d15 : (x.f0 == 15) = false := beq_eq_false_iff_ne.2 (by omega)
  have d16 : (x.f0 == 16) = true := beq_iff_eq.2 h0
  have HV := Lib.hid hv; clear hv
  unfold exV
  clear h0
  go_enter Tryd.func13, Tryd.ntmps13
  go_wp2_with (first
    | ((with_reducible refine gate_dst (N := 1) rfl ?_); refine box_event ?hg (N := 1) ?hd (cs := #[.int .i64 x.f0, .string x.f1, .string x.f2, .int .i64 x.f3, .int .i64 x.f4, .int .i64 x.f5.f0, .int .i64 x.f5.f1, .string x.f5.f2, .slice A x.f6.length c]) (t := 26) ?hr ?_; (case hd => rfl); (case hg => rfl); (case hr => first | (go_simp; done) | (go_simp; rfl)); intro g2 hg_ w1 hb_ hl_; have BK2 := am_ hb_; have HL2 := am_ hl_; have HG2 := am_ (show w.heap.size ≤ g2 from Nat.le_of_eq hg_.symm); obtain ⟨p20, p21, p22, p23, p24, p25, p26, p27, p28, q20, q21, q22, q23, q24, q25, q26, q27, q28⟩ := bw9_ BK2.out; clear hb_ hl_ hg_; simp only [Act.put, sa_, sz_, ss_])
    | ((with_reducible refine gate_callee (f := 19) rfl ?_); refine goesL_ (some 40) rfl rfl Tryd.func19 (by kernel_rfl) rfl #[.agg #[.int .i64 x.f5.f0, .int .i64 x.f5.f1, .string x.f5.f2]] rfl (by (try simp only [List.map_toArray, List.map_cons, List.map_nil]); first | done | rfl) ?_; refine (print_Val.calls k x.f5.f0 x.f5.f1 x.f5.f2 s _ HV.out ⟨TabOK.below HT.out HL2.out⟩).mono ?_; rintro r' w2 ⟨rfl, hb_⟩; refine ⟨_, rfl, ?_⟩; simp only [Act.put, sa_, sz_, ss_]; replace BK2 := am_ (blk_below BK2.out hb_); replace HL2 := am_ (below_step HL2.out hb_); clear p20 q20 p21 q21 p22 q22 p23 q23 p24 q24 p25 q25 p26 q26 p27 q27 p28 q28; obtain ⟨p20, p21, p22, p23, p24, p25, p26, p27, p28, q20, q21, q22, q23, q24, q25, q26, q27, q28⟩ := bw9_ BK2.out; clear hb_))
  go_ret
  exact ⟨rfl, HL2.out⟩
theorem ex17 {k : Nat} {w : World} (hE : ExprOK k) (x : S26) (A : Option Addr) (c : Nat) (hx : Kd.C k26 w A x.f6.length x.f6) (hc : x.f6.length ≤ c) (HT : Aside0 (TabOK w)) (h0 : x.f0 = 17) :
    Calls Tryd.prog 13 #[exV x A c] w fun e w' => e = .returned (.string ((⟨#[99, 111, 117, 110, 116, 40, 42, 41]⟩ : ByteArray))) ∧ Below w.heap.size w w' := by
  have HX := Lib.hid (And.intro hx hc); clear hx hc
  have HE := Lib.hid hE; clear hE
  have d12 : (x.f0 == 12) = false := beq_eq_false_iff_ne.2 (by omega)
  have d13 : (x.f0 == 13) = false := beq_eq_false_iff_ne.2 (by omega)
  have d14 : (x.f0 == 14) = false := beq_eq_false_iff_ne.2 (by omega)
  have d15 : (x.f0 == 15) = false := beq_eq_false_iff_ne.2 (by omega)
  have d16 : (x.f0 == 16) = false := beq_eq_false_iff_ne.2 (by omega)
  have d17 : (x.f0 == 17) = true := beq_iff_eq.2 h0
  unfold exV
  clear h0
  go_enter Tryd.func13, Tryd.ntmps13
  go_wp2_with (first
    | ((with_reducible refine gate_dst (N := 1) rfl ?_); refine box_event ?hg (N := 1) ?hd (cs := #[.int .i64 x.f0, .string x.f1, .string x.f2, .int .i64 x.f3, .int .i64 x.f4, .int .i64 x.f5.f0, .int .i64 x.f5.f1, .string x.f5.f2, .slice A x.f6.length c]) (t := 26) ?hr ?_; (case hd => rfl); (case hg => rfl); (case hr => first | (go_simp; done) | (go_simp; rfl)); intro g2 hg_ w1 hb_ hl_; have BK2 := am_ hb_; have HL2 := am_ hl_; have HG2 := am_ (show w.heap.size ≤ g2 from Nat.le_of_eq hg_.symm); obtain ⟨p20, p21, p22, p23, p24, p25, p26, p27, p28, q20, q21, q22, q23, q24, q25, q26, q27, q28⟩ := bw9_ BK2.out; clear hb_ hl_ hg_; simp only [Act.put, sa_, sz_, ss_]))
  go_ret
  exact ⟨rfl, HL2.out⟩
theorem exno {k : Nat} {w : World} (hE : ExprOK k) (x : S26) (A : Option Addr) (c : Nat) (hx : Kd.C k26 w A x.f6.length x.f6) (hc : x.f6.length ≤ c) (HT : Aside0 (TabOK w)) (h0 : ¬ (1 ≤ x.f0 ∧ x.f0 ≤ 21)) :
    Calls Tryd.prog 13 #[exV x A c] w fun e w' => e = .returned (.string ((⟨#[63]⟩ : ByteArray))) ∧ Below w.heap.size w w' := by
  have HX := Lib.hid (And.intro hx hc); clear hx hc
  have HE := Lib.hid hE; clear hE
  have d12 : (x.f0 == 12) = false := beq_eq_false_iff_ne.2 (by omega)
  have d13 : (x.f0 == 13) = false := beq_eq_false_iff_ne.2 (by omega)
  have d14 : (x.f0 == 14) = false := beq_eq_false_iff_ne.2 (by omega)
  have d15 : (x.f0 == 15) = false := beq_eq_false_iff_ne.2 (by omega)
  have d16 : (x.f0 == 16) = false := beq_eq_false_iff_ne.2 (by omega)
  have d17 : (x.f0 == 17) = false := beq_eq_false_iff_ne.2 (by omega)
  have d18 : (x.f0 == 18) = false := beq_eq_false_iff_ne.2 (by omega)
  have d19 : (x.f0 == 19) = false := beq_eq_false_iff_ne.2 (by omega)
  have d20 : (x.f0 == 20) = false := beq_eq_false_iff_ne.2 (by omega)
  have d21 : (x.f0 == 21) = false := beq_eq_false_iff_ne.2 (by omega)
  have hh : ¬ 1 ≤ x.f0 ∨ (1 ≤ x.f0 ∧ ¬ x.f0 ≤ 11) := by omega
  rcases hh with h | ⟨h, h'⟩
  · have g1 : decide (x.f0 ≥ 1) = false := decide_eq_false h
    clear h
    unfold exV
    clear h0
    go_enter Tryd.func13, Tryd.ntmps13
    go_wp2_with (first
      | ((with_reducible refine gate_dst (N := 1) rfl ?_); refine box_event ?hg (N := 1) ?hd (cs := #[.int .i64 x.f0, .string x.f1, .string x.f2, .int .i64 x.f3, .int .i64 x.f4, .int .i64 x.f5.f0, .int .i64 x.f5.f1, .string x.f5.f2, .slice A x.f6.length c]) (t := 26) ?hr ?_; (case hd => rfl); (case hg => rfl); (case hr => first | (go_simp; done) | (go_simp; rfl)); intro g2 hg_ w1 hb_ hl_; have BK2 := am_ hb_; have HL2 := am_ hl_; have HG2 := am_ (show w.heap.size ≤ g2 from Nat.le_of_eq hg_.symm); obtain ⟨p20, p21, p22, p23, p24, p25, p26, p27, p28, q20, q21, q22, q23, q24, q25, q26, q27, q28⟩ := bw9_ BK2.out; clear hb_ hl_ hg_; simp only [Act.put, sa_, sz_, ss_]))
    go_ret
    exact ⟨rfl, HL2.out⟩
  · have g1 : decide (x.f0 ≥ 1) = true := decide_eq_true h
    have g2 : decide (x.f0 ≤ 11) = false := decide_eq_false h'
    clear h h'
    unfold exV
    clear h0
    go_enter Tryd.func13, Tryd.ntmps13
    go_wp2_with (first
      | ((with_reducible refine gate_dst (N := 1) rfl ?_); refine box_event ?hg (N := 1) ?hd (cs := #[.int .i64 x.f0, .string x.f1, .string x.f2, .int .i64 x.f3, .int .i64 x.f4, .int .i64 x.f5.f0, .int .i64 x.f5.f1, .string x.f5.f2, .slice A x.f6.length c]) (t := 26) ?hr ?_; (case hd => rfl); (case hg => rfl); (case hr => first | (go_simp; done) | (go_simp; rfl)); intro g2 hg_ w1 hb_ hl_; have BK2 := am_ hb_; have HL2 := am_ hl_; have HG2 := am_ (show w.heap.size ≤ g2 from Nat.le_of_eq hg_.symm); obtain ⟨p20, p21, p22, p23, p24, p25, p26, p27, p28, q20, q21, q22, q23, q24, q25, q26, q27, q28⟩ := bw9_ BK2.out; clear hb_ hl_ hg_; simp only [Act.put, sa_, sz_, ss_]))
    go_ret
    exact ⟨rfl, HL2.out⟩
theorem exop {k : Nat} {w : World} (hE : ExprOK k) (x : S26) (A : Option Addr) (c : Nat) (hx : Kd.C k26 w A x.f6.length x.f6) (hc : x.f6.length ≤ c) (HT : Aside0 (TabOK w)) (h0 : 1 ≤ x.f0 ∧ x.f0 ≤ 11) {a b : ByteArray} (ha : prE k (partP x 0) = some a) (hb : prE k (partP x 1) = some b) (hs : (atP a (levP (partP x 0).f0) (lefP x.f0) ++ SP ++ opW x.f0 ++ SP ++ atP b (levP (partP x 1).f0) (rigP x.f0)).size ≤ 1000000000000) :
    Calls Tryd.prog 13 #[exV x A c] w fun e w' => e = .returned (.string (atP a (levP (partP x 0).f0) (lefP x.f0) ++ SP ++ opW x.f0 ++ SP ++ atP b (levP (partP x 1).f0) (rigP x.f0))) ∧ Below w.heap.size w w' := by
  have HX := Lib.hid (And.intro hx hc); clear hx hc
  have HE := Lib.hid hE; clear hE
  have d12 : (x.f0 == 12) = false := beq_eq_false_iff_ne.2 (by omega)
  have d13 : (x.f0 == 13) = false := beq_eq_false_iff_ne.2 (by omega)
  have d14 : (x.f0 == 14) = false := beq_eq_false_iff_ne.2 (by omega)
  have d15 : (x.f0 == 15) = false := beq_eq_false_iff_ne.2 (by omega)
  have d16 : (x.f0 == 16) = false := beq_eq_false_iff_ne.2 (by omega)
  have d17 : (x.f0 == 17) = false := beq_eq_false_iff_ne.2 (by omega)
  have d18 : (x.f0 == 18) = false := beq_eq_false_iff_ne.2 (by omega)
  have d19 : (x.f0 == 19) = false := beq_eq_false_iff_ne.2 (by omega)
  have d20 : (x.f0 == 20) = false := beq_eq_false_iff_ne.2 (by omega)
  have d21 : (x.f0 == 21) = false := beq_eq_false_iff_ne.2 (by omega)
  have g1 : decide (x.f0 ≥ 1) = true := decide_eq_true h0.1
  have g2 : decide (x.f0 ≤ 11) = true := decide_eq_true h0.2
  have HA := Lib.hid (And.intro h0 (And.intro ha (And.intro hb hs))); clear ha hb hs
  unfold exV
  clear h0
  go_enter Tryd.func13, Tryd.ntmps13
  go_wp2_with (first
    | ((with_reducible refine gate_dst (N := 1) rfl ?_); refine box_event ?hg (N := 1) ?hd (cs := #[.int .i64 x.f0, .string x.f1, .string x.f2, .int .i64 x.f3, .int .i64 x.f4, .int .i64 x.f5.f0, .int .i64 x.f5.f1, .string x.f5.f2, .slice A x.f6.length c]) (t := 26) ?hr ?_; (case hd => rfl); (case hg => rfl); (case hr => first | (go_simp; done) | (go_simp; rfl)); intro g2 hg_ w1 hb_ hl_; have BK2 := am_ hb_; have HL2 := am_ hl_; have HG2 := am_ (show w.heap.size ≤ g2 from Nat.le_of_eq hg_.symm); obtain ⟨p20, p21, p22, p23, p24, p25, p26, p27, p28, q20, q21, q22, q23, q24, q25, q26, q27, q28⟩ := bw9_ BK2.out; clear hb_ hl_ hg_; simp only [Act.put, sa_, sz_, ss_])
    | ((with_reducible refine gate_callee (f := 50) rfl ?_); refine goesL_ (some 66) rfl rfl Tryd.func50 (by kernel_rfl) rfl #[.agg #[.int .i64 x.f0, .string x.f1, .string x.f2, .int .i64 x.f3, .int .i64 x.f4, .int .i64 x.f5.f0, .int .i64 x.f5.f1, .string x.f5.f2, .slice A x.f6.length c]] rfl (by (try simp only [List.map_toArray, List.map_cons, List.map_nil]); first | done | rfl) ?_; refine (two_ok HE.out x A c a b _ HA.out.1.1 HA.out.1.2 (Kd.C_below HX.out.1 HL2.out) HX.out.2 ⟨TabOK.below HT.out HL2.out⟩ HA.out.2.1 HA.out.2.2.1 HA.out.2.2.2).mono ?_; rintro r' w2 ⟨rfl, hb_⟩; refine ⟨_, rfl, ?_⟩; simp only [Act.put, sa_, sz_, ss_]; replace BK2 := am_ (blk_below BK2.out hb_); replace HL2 := am_ (below_step HL2.out hb_); clear p20 q20 p21 q21 p22 q22 p23 q23 p24 q24 p25 q25 p26 q26 p27 q27 p28 q28; obtain ⟨p20, p21, p22, p23, p24, p25, p26, p27, p28, q20, q21, q22, q23, q24, q25, q26, q27, q28⟩ := bw9_ BK2.out; clear hb_))
  go_ret
  exact ⟨rfl, HL2.out⟩
theorem exsum {k : Nat} {w : World} (hE : ExprOK k) (x : S26) (A : Option Addr) (c : Nat) (hx : Kd.C k26 w A x.f6.length x.f6) (hc : x.f6.length ≤ c) (HT : Aside0 (TabOK w)) (h0 : x.f0 = 18 ∨ x.f0 = 19 ∨ x.f0 = 20 ∨ x.f0 = 21) {a : ByteArray} (ha : prE k (partP x 0) = some a) (hs : (opW x.f0 ++ (⟨#[40]⟩ : ByteArray) ++ a ++ (⟨#[41]⟩ : ByteArray)).size ≤ 1000000000000) :
    Calls Tryd.prog 13 #[exV x A c] w fun e w' => e = .returned (.string (opW x.f0 ++ (⟨#[40]⟩ : ByteArray) ++ a ++ (⟨#[41]⟩ : ByteArray))) ∧ Below w.heap.size w w' := by
  have HX := Lib.hid (And.intro hx hc); clear hx hc
  have HE := Lib.hid hE; clear hE
  rw [app_size, app_size, app_size] at hs
  have e1 : (⟨#[40]⟩ : ByteArray).size = 1 := rfl
  have e2 : (⟨#[41]⟩ : ByteArray).size = 1 := rfl
  rw [e1, e2] at hs
  have HA := Lib.hid (And.intro ha (show a.size ≤ 1000000000000 by omega)); clear ha
  have za_ : (opW x.f0).size + 1 ≤ 9223372036854775807 := by omega
  have zaa := eq_true (za_); have zab : decide ((opW x.f0).size + 1 ≤ 9223372036854775807) = true := decide_eq_true za_; have zac : (9223372036854775807 < (opW x.f0).size + 1) = False := eq_false (Nat.not_lt.2 za_); clear za_
  have zb_ : (opW x.f0).size + 1 + a.size ≤ 9223372036854775807 := by omega
  have zba := eq_true (zb_); have zbb : decide ((opW x.f0).size + 1 + a.size ≤ 9223372036854775807) = true := decide_eq_true zb_; have zbc : (9223372036854775807 < (opW x.f0).size + 1 + a.size) = False := eq_false (Nat.not_lt.2 zb_); clear zb_
  have zc_ : (opW x.f0).size + 1 + a.size + 1 ≤ 9223372036854775807 := by omega
  have zca := eq_true (zc_); have zcb : decide ((opW x.f0).size + 1 + a.size + 1 ≤ 9223372036854775807) = true := decide_eq_true zc_; have zcc : (9223372036854775807 < (opW x.f0).size + 1 + a.size + 1) = False := eq_false (Nat.not_lt.2 zc_); clear zc_
  have zd_ : (opW x.f0).size + 1 ≤ 9223372036854775807 := by omega
  have zda := eq_true (zd_); have zdb : decide ((opW x.f0).size + 1 ≤ 9223372036854775807) = true := decide_eq_true zd_; have zdc : (9223372036854775807 < (opW x.f0).size + 1) = False := eq_false (Nat.not_lt.2 zd_); clear zd_
  clear hs e1 e2
  unfold exV
  rcases h0 with h0 | h0 | h0 | h0
  case' inl =>
    have d12 : (x.f0 == 12) = false := beq_eq_false_iff_ne.2 (by omega)
    have d13 : (x.f0 == 13) = false := beq_eq_false_iff_ne.2 (by omega)
    have d14 : (x.f0 == 14) = false := beq_eq_false_iff_ne.2 (by omega)
    have d15 : (x.f0 == 15) = false := beq_eq_false_iff_ne.2 (by omega)
    have d16 : (x.f0 == 16) = false := beq_eq_false_iff_ne.2 (by omega)
    have d17 : (x.f0 == 17) = false := beq_eq_false_iff_ne.2 (by omega)
    have d18 : (x.f0 == 18) = true := beq_iff_eq.2 h0
    clear h0
  case' inr.inl =>
    have d12 : (x.f0 == 12) = false := beq_eq_false_iff_ne.2 (by omega)
    have d13 : (x.f0 == 13) = false := beq_eq_false_iff_ne.2 (by omega)
    have d14 : (x.f0 == 14) = false := beq_eq_false_iff_ne.2 (by omega)
    have d15 : (x.f0 == 15) = false := beq_eq_false_iff_ne.2 (by omega)
    have d16 : (x.f0 == 16) = false := beq_eq_false_iff_ne.2 (by omega)
    have d17 : (x.f0 == 17) = false := beq_eq_false_iff_ne.2 (by omega)
    have d18 : (x.f0 == 18) = false := beq_eq_false_iff_ne.2 (by omega)
    have d19 : (x.f0 == 19) = true := beq_iff_eq.2 h0
    clear h0
  case' inr.inr.inl =>
    have d12 : (x.f0 == 12) = false := beq_eq_false_iff_ne.2 (by omega)
    have d13 : (x.f0 == 13) = false := beq_eq_false_iff_ne.2 (by omega)
    have d14 : (x.f0 == 14) = false := beq_eq_false_iff_ne.2 (by omega)
    have d15 : (x.f0 == 15) = false := beq_eq_false_iff_ne.2 (by omega)
    have d16 : (x.f0 == 16) = false := beq_eq_false_iff_ne.2 (by omega)
    have d17 : (x.f0 == 17) = false := beq_eq_false_iff_ne.2 (by omega)
    have d18 : (x.f0 == 18) = false := beq_eq_false_iff_ne.2 (by omega)
    have d19 : (x.f0 == 19) = false := beq_eq_false_iff_ne.2 (by omega)
    have d20 : (x.f0 == 20) = true := beq_iff_eq.2 h0
    clear h0
  case' inr.inr.inr =>
    have d12 : (x.f0 == 12) = false := beq_eq_false_iff_ne.2 (by omega)
    have d13 : (x.f0 == 13) = false := beq_eq_false_iff_ne.2 (by omega)
    have d14 : (x.f0 == 14) = false := beq_eq_false_iff_ne.2 (by omega)
    have d15 : (x.f0 == 15) = false := beq_eq_false_iff_ne.2 (by omega)
    have d16 : (x.f0 == 16) = false := beq_eq_false_iff_ne.2 (by omega)
    have d17 : (x.f0 == 17) = false := beq_eq_false_iff_ne.2 (by omega)
    have d18 : (x.f0 == 18) = false := beq_eq_false_iff_ne.2 (by omega)
    have d19 : (x.f0 == 19) = false := beq_eq_false_iff_ne.2 (by omega)
    have d20 : (x.f0 == 20) = false := beq_eq_false_iff_ne.2 (by omega)
    have d21 : (x.f0 == 21) = true := beq_iff_eq.2 h0
    clear h0
  all_goals
    go_enter Tryd.func13, Tryd.ntmps13
    go_wp2_with (first
      | ((with_reducible refine gate_dst (N := 1) rfl ?_); refine box_event ?hg (N := 1) ?hd (cs := #[.int .i64 x.f0, .string x.f1, .string x.f2, .int .i64 x.f3, .int .i64 x.f4, .int .i64 x.f5.f0, .int .i64 x.f5.f1, .string x.f5.f2, .slice A x.f6.length c]) (t := 26) ?hr ?_; (case hd => rfl); (case hg => rfl); (case hr => first | (go_simp; done) | (go_simp; rfl)); intro g2 hg_ w1 hb_ hl_; have BK2 := am_ hb_; have HL2 := am_ hl_; have HG2 := am_ (show w.heap.size ≤ g2 from Nat.le_of_eq hg_.symm); obtain ⟨p20, p21, p22, p23, p24, p25, p26, p27, p28, q20, q21, q22, q23, q24, q25, q26, q27, q28⟩ := bw9_ BK2.out; clear hb_ hl_ hg_; simp only [Act.put, sa_, sz_, ss_]))
    refine start_ (n := 10) (S := fun w' => Below w1.heap.size w1 w') (ds := []) #[false, false, false, false, false, false, false, false, false, false] (by kernel_rfl) rfl rfl (Below.drew (Below.refl _ _)) (fun hHeld => ?_)
    generalize w1.drew = wr at hHeld ⊢
    refine pure_ (i := 0) (N := some 48) (v := ?_) (a' := ?_) #[true, false, false, false, false, false, false, false, false, false] rfl rfl (by kernel_rfl) (fun _ _ _ h => h) (Or.inl ⟨by rfl, ?_⟩) ?_ ?_; rotate_left
    · intro w'
      go_simp; (with_reducible rfl)
    rotate_left
    · simp only [Act.put, sa_, sz_, ss_, i64_w, i32_w]
      rfl
    refine take_ (i := 1) (N := some 49) (v := ?_) (a' := ?_) #[true, true, false, false, false, false, false, false, false, false] rfl rfl (by kernel_rfl) (fun _ _ _ h => h) (Or.inl ⟨by rfl, ?_⟩) hHeld ?_ ?_; rotate_left
    · intro w' hS; obtain ⟨p20, p21, p22, p23, p24, p25, p26, p27, p28, q20, q21, q22, q23, q24, q25, q26, q27, q28⟩ := bw9_ (blk_below BK2.out hS); go_simp; (with_reducible rfl)
    rotate_left
    · simp only [Act.put, sa_, sz_, ss_, i64_w, i32_w]
      rfl
    refine take_ (i := 4) (N := some 52) (v := ?_) (a' := ?_) #[true, true, false, false, true, false, false, false, false, false] rfl rfl (by kernel_rfl) (fun _ _ _ h => h) (Or.inl ⟨by rfl, ?_⟩) hHeld ?_ ?_; rotate_left
    · intro w' hS; obtain ⟨p20, p21, p22, p23, p24, p25, p26, p27, p28, q20, q21, q22, q23, q24, q25, q26, q27, q28⟩ := bw9_ (blk_below BK2.out hS); go_simp; (with_reducible rfl)
    rotate_left
    · simp only [Act.put, sa_, sz_, ss_, i64_w, i32_w]
      rfl
    refine one_ (i := 2) (N := some 50) #[true, true, true, false, true, false, false, false, false, false] rfl rfl (by kernel_rfl) (by decide) (fun K hK => ?_); refine goes_ Tryd.func17 (by kernel_rfl) rfl #[.int .i64 x.f0] (by rfl) rfl rfl (by (try simp only [List.map_toArray, List.map_cons, List.map_nil]); first | done | rfl) ?_; refine (print_Op.calls x.f0 _ _ rfl).mono ?_; rintro e' w2 ⟨rfl, hb_⟩; refine ⟨_, rfl, ?_⟩; have X2 := am_ (below_step hHeld hb_); clear hb_; refine hK.out _ _ (X2.out) (fun hHeld => ?_); clear hK K; refine norm_ (a' := ?_) ?_ ?_; rotate_left
    · show Act.put _ (some 50) _ = _
      simp only [Act.put, sa_, sz_, ss_, i64_w, i32_w]; rfl
    refine pure_ (i := 3) (N := some 51) (v := ?_) (a' := ?_) #[true, true, true, true, true, false, false, false, false, false] rfl rfl (by kernel_rfl) (fun _ _ _ h => h) (Or.inl ⟨by rfl, ?_⟩) ?_ ?_; rotate_left
    · intro w'
      go_simp; (try simp only [zac, zbc, zcc, zdc, if_false]); (with_reducible rfl)
    rotate_left
    · simp only [Act.put, sa_, sz_, ss_, i64_w, i32_w]
      rfl
    refine one_ (i := 5) (N := some 53) #[true, true, true, true, true, true, false, false, false, false] rfl rfl (by kernel_rfl) (by decide) (fun K hK => ?_); refine goes_ Tryd.func49 (by kernel_rfl) rfl #[.agg #[.int .i64 x.f0, .string x.f1, .string x.f2, .int .i64 x.f3, .int .i64 x.f4, .int .i64 x.f5.f0, .int .i64 x.f5.f1, .string x.f5.f2, .slice A x.f6.length c], .int .i64 0] (by rfl) rfl rfl (by (try simp only [List.map_toArray, List.map_cons, List.map_nil]); first | done | rfl) ?_; refine (part_ok x 0 (by decide) A c _ (Kd.C_below HX.out.1 (below_step HL2.out hHeld)) HX.out.2).mono ?_; rintro e' w3 ⟨A3, c3, rfl, k3, l3, hb_⟩; refine ⟨_, rfl, ?_⟩; have X3 := am_ (below_step hHeld hb_); have K3 := am_ (And.intro k3 l3); clear hb_ k3 l3 X2; refine hK.out _ _ (X3.out) (fun hHeld => ?_); clear hK K; refine norm_ (a' := ?_) ?_ ?_; rotate_left
    · show Act.put _ (some 53) _ = _
      simp only [Act.put, sa_, sz_, ss_, i64_w, i32_w, exV]; rfl
    refine one_ (i := 6) (N := some 54) #[true, true, true, true, true, true, true, false, false, false] rfl rfl (by kernel_rfl) (by decide) (fun K hK => ?_); refine goes_ Tryd.func13 (by kernel_rfl) rfl #[.agg #[.int .i64 (partP x 0).f0, .string (partP x 0).f1, .string (partP x 0).f2, .int .i64 (partP x 0).f3, .int .i64 (partP x 0).f4, .int .i64 (partP x 0).f5.f0, .int .i64 (partP x 0).f5.f1, .string (partP x 0).f5.f2, .slice A3 (partP x 0).f6.length c3]] (by rfl) rfl rfl (by (try simp only [List.map_toArray, List.map_cons, List.map_nil]); first | done | rfl) ?_; refine (HE.out (partP x 0) A3 c3 a _ K3.out.1 K3.out.2 ⟨TabOK.below HT.out (below_step HL2.out hHeld)⟩ HA.out.1 HA.out.2).mono ?_; rintro e' w4 ⟨rfl, hb_⟩; refine ⟨_, rfl, ?_⟩; have X4 := am_ (below_step hHeld hb_); clear hb_ X3 K3; refine hK.out _ _ (X4.out) (fun hHeld => ?_); clear hK K; refine norm_ (a' := ?_) ?_ ?_; rotate_left
    · show Act.put _ (some 54) _ = _
      simp only [Act.put, sa_, sz_, ss_, i64_w, i32_w]; rfl
    refine pure_ (i := 7) (N := some 55) (v := ?_) (a' := ?_) #[true, true, true, true, true, true, true, true, false, false] rfl rfl (by kernel_rfl) (fun _ _ _ h => h) (Or.inl ⟨by rfl, ?_⟩) ?_ ?_; rotate_left
    · intro w'
      go_simp; (try simp only [zac, zbc, zcc, zdc, if_false]); (with_reducible rfl)
    rotate_left
    · simp only [Act.put, sa_, sz_, ss_, i64_w, i32_w]
      rfl
    refine pure_ (i := 8) (N := some 56) (v := ?_) (a' := ?_) #[true, true, true, true, true, true, true, true, true, false] rfl rfl (by kernel_rfl) (fun _ _ _ h => h) (Or.inl ⟨by rfl, ?_⟩) ?_ ?_; rotate_left
    · intro w'
      go_simp; (try simp only [zac, zbc, zcc, zdc, if_false]); (with_reducible rfl)
    rotate_left
    · simp only [Act.put, sa_, sz_, ss_, i64_w, i32_w]
      rfl
    refine pure_ (i := 9) (N := some 2) (v := ?_) (a' := ?_) #[true, true, true, true, true, true, true, true, true, true] rfl rfl (by kernel_rfl) (fun _ _ _ h => h) (Or.inl ⟨by rfl, ?_⟩) ?_ ?_; rotate_left
    · intro w'
      go_simp; (with_reducible rfl)
    rotate_left
    · simp only [Act.put, sa_, sz_, ss_, i64_w, i32_w]
      rfl
    refine done_ (by kernel_rfl) ?_
    go_wp2
    go_ret
    exact ⟨rfl, below_step HL2.out X4.out⟩
theorem expr_step {k : Nat} (hE : ExprOK k) : ExprOK (k + 1) := by
  intro x A c s w hx hc HT h hs
  rw [prE] at h
  by_cases c12 : x.f0 = 12
  · rw [if_pos c12] at h
    obtain ⟨a, ha, h⟩ := Option.bind_eq_some_iff.1 h
    obtain rfl := Option.some.inj h
    exact ex12 hE x A c hx hc HT c12 ha hs
  rw [if_neg c12] at h
  by_cases c13 : x.f0 = 13
  · rw [if_pos c13] at h
    obtain ⟨a, ha, h⟩ := Option.bind_eq_some_iff.1 h
    obtain rfl := Option.some.inj h
    exact ex13 hE x A c hx hc HT c13 ha hs
  rw [if_neg c13] at h
  by_cases c14 : x.f0 = 14
  · rw [if_pos c14] at h
    obtain ⟨a, ha, h⟩ := Option.bind_eq_some_iff.1 h
    obtain rfl := Option.some.inj h
    exact ex14 hE x A c hx hc HT c14 ha hs
  rw [if_neg c14] at h
  by_cases c15 : x.f0 = 15
  · rw [if_pos c15] at h
    by_cases t : x.f1 = ⟨#[]⟩
    · rw [if_pos t] at h
      obtain rfl := Option.some.inj h
      exact ex15a hE x A c hx hc HT c15 t
    · rw [if_neg t] at h
      obtain rfl := Option.some.inj h
      exact ex15b hE x A c hx hc HT c15 t hs
  rw [if_neg c15] at h
  by_cases c16 : x.f0 = 16
  · rw [if_pos c16] at h
    exact ex16 hE x A c hx hc HT c16 h
  rw [if_neg c16] at h
  by_cases c17 : x.f0 = 17
  · rw [if_pos c17] at h
    obtain rfl := Option.some.inj h
    exact ex17 hE x A c hx hc HT c17
  rw [if_neg c17] at h
  by_cases c18 : x.f0 = 18 ∨ x.f0 = 19 ∨ x.f0 = 20 ∨ x.f0 = 21
  · rw [if_pos c18] at h
    obtain ⟨a, ha, h⟩ := Option.bind_eq_some_iff.1 h
    obtain rfl := Option.some.inj h
    exact exsum hE x A c hx hc HT c18 ha hs
  rw [if_neg c18] at h
  by_cases c1 : 1 ≤ x.f0 ∧ x.f0 ≤ 11
  · rw [if_pos c1] at h
    obtain ⟨a, ha, h⟩ := Option.bind_eq_some_iff.1 h
    obtain ⟨b, hb, h⟩ := Option.bind_eq_some_iff.1 h
    obtain rfl := Option.some.inj h
    exact exop hE x A c hx hc HT c1 ha hb hs
  rw [if_neg c1] at h
  obtain rfl := Option.some.inj h
  exact exno hE x A c hx hc HT (by omega)
theorem expr_all : ∀ k, ExprOK k
  | 0 => fun x A c s w _ _ _ h _ => by cases h
  | k + 1 => expr_step (expr_all k)
end Go.Proofs.YthlepdjjdbpmoaaDoor.PPrintExprs
namespace Go.Proofs.YthlepdjjdbpmoaaDoor.PPrintExprs
open Go.RowKit Go.Proofs.YthlepdjjdbpmoaaDoorW.PrintWords Go.Proofs.YthlepdjjdbpmoaaDoorW.PrintLast Go.Proofs.YthlepdjjdbpmoaaDoorW.PrintMore
attribute [local go_sem] max2_int min2_int max_two min_two max_three min_three max_four min_four
set_option linter.unusedVariables false
set_option linter.unusedSimpArgs false
set_option maxRecDepth 100000
set_option maxHeartbeats 4000000
def bNull : List UInt8 := [110, 117, 108, 108]
def bNot : List UInt8 := [110, 111, 116]
def bIs : List UInt8 := [105, 115]
def tNull : TK := (2, ⟨#[110, 117, 108, 108]⟩, 0)
def tNot : TK := (2, ⟨#[110, 111, 116]⟩, 0)
def tIs : TK := (2, ⟨#[105, 115]⟩, 0)
def tOp : TK := (5, ⟨#[40]⟩, 0)
def tShut : TK := (5, ⟨#[41]⟩, 0)
def tDot : TK := (5, ⟨#[46]⟩, 0)
def opB (o : Int) : List UInt8 := (opW o).data.toList
def opT (o : Int) : TK := (if o = 10 ∨ o = 11 then 2 else 5, opW o, 0)
def atB (b : List UInt8) (l n : Int) : List UInt8 := if l < n then 40 :: (b ++ [41]) else b
def atT (t : List TK) (l n : Int) : List TK := if l < n then tOp :: (t ++ [tShut]) else t
def atD (m : Nat) (l n : Int) : Nat := if l < n then m + 1 else m
inductive Pd : S26 → List UInt8 → List TK → Nat → Prop
  | null : Pd (valP 0 0 ⟨#[]⟩) bNull [tNull] 0
  | int (l : List UInt8) (h0 : l ≠ []) (hl : ∀ b ∈ l, dgt (b.toNat : Int) = true) (hm : dvl l 0 ≤ 9223372036854775807) (hi : Lib.itoa (dvl l 0) = l) : Pd (valP 1 (dvl l 0) ⟨#[]⟩) l [((3, ⟨l.toArray⟩, dvl l 0) : TK)] 0
  | text (l : List UInt8) (hl : l.length ≤ 65536) : Pd (valP 2 0 ⟨l.toArray⟩) (39 :: (qd l ++ [39])) [((4, ⟨l.toArray⟩, 0) : TK)] 0
  | name (w : List UInt8) (hw : nmB w = true) (hr : wrd ⟨w.toArray⟩ = false) : Pd (colP ⟨#[]⟩ ⟨w.toArray⟩) w [((1, ⟨w.toArray⟩, 0) : TK)] 0
  | dot (v w : List UInt8) (hv : nmB v = true) (hr : wrd ⟨v.toArray⟩ = false) (hw : nmB w = true) (hs : wrd ⟨w.toArray⟩ = false) : Pd (colP ⟨v.toArray⟩ ⟨w.toArray⟩) (v ++ [46] ++ w) [((1, ⟨v.toArray⟩, 0) : TK), tDot, ((1, ⟨w.toArray⟩, 0) : TK)] 0
  | not (x : S26) (b : List UInt8) (ts : List TK) (m : Nat) (h : Pd x b ts m) : Pd (ofP 12 [x]) (bNot ++ [32] ++ atB b (levP x.f0) 3) (tNot :: atT ts (levP x.f0) 3) (atD m (levP x.f0) 3 + 1)
  | isn (x : S26) (b : List UInt8) (ts : List TK) (m : Nat) (h : Pd x b ts m) : Pd (ofP 13 [x]) (atB b (levP x.f0) 5 ++ [32] ++ (bIs ++ [32] ++ bNull)) (atT ts (levP x.f0) 5 ++ [tIs, tNull]) (atD m (levP x.f0) 5)
  | isnn (x : S26) (b : List UInt8) (ts : List TK) (m : Nat) (h : Pd x b ts m) : Pd (ofP 14 [x]) (atB b (levP x.f0) 5 ++ [32] ++ (bIs ++ [32] ++ (bNot ++ [32] ++ bNull))) (atT ts (levP x.f0) 5 ++ [tIs, tNot, tNull]) (atD m (levP x.f0) 5)
  | op (o : Int) (h1 : 1 ≤ o) (h2 : o ≤ 11) (x y : S26) (b c : List UInt8) (ts us : List TK) (m n : Nat) (h : Pd x b ts m) (k : Pd y c us n) : Pd (ofP o [x, y]) (atB b (levP x.f0) (lefP o) ++ [32] ++ (opB o ++ [32] ++ atB c (levP y.f0) (rigP o))) (atT ts (levP x.f0) (lefP o) ++ (opT o :: atT us (levP y.f0) (rigP o))) (max (atD m (levP x.f0) (lefP o)) (atD n (levP y.f0) (rigP o)))
theorem pc_kw {w : List UInt8} (h : nmB w = true) (k : wrd ⟨w.toArray⟩ = true) : Pc w (2, ⟨w.toArray⟩, 0) := by
  have := pc_word h
  rw [if_pos k] at this
  exact this
theorem pc_nm {w : List UInt8} (h : nmB w = true) (k : wrd ⟨w.toArray⟩ = false) : Pc w (1, ⟨w.toArray⟩, 0) := by
  have := pc_word h
  rw [if_neg (by rw [k]; decide)] at this
  exact this
theorem pc_null : Pc bNull tNull := pc_kw (by decide) (by decide)
theorem pc_not : Pc bNot tNot := pc_kw (by decide) (by decide)
theorem pc_is : Pc bIs tIs := pc_kw (by decide) (by decide)
theorem at_lx {b : List UInt8} {t : List TK} (h : Lx b t) (l n : Int) : Lx (atB b l n) (atT t l n) := by
  unfold atB atT
  split
  · exact h.paren
  · exact h
theorem op_pc (o : Int) (h1 : 1 ≤ o) (h2 : o ≤ 11) : Pc (opB o) (opT o) := by
  have ho : o = 1 ∨ o = 2 ∨ o = 3 ∨ o = 4 ∨ o = 5 ∨ o = 6 ∨ o = 7 ∨ o = 8 ∨ o = 9 ∨ o = 10 ∨ o = 11 := by omega
  rcases ho with h | h | h | h | h | h | h | h | h | h | h <;> subst h
  · exact pc_one (b := 61) (by decide)
  · exact pc_two (b := 60) (c := 62) (.inl ⟨rfl, rfl⟩)
  · exact pc_lt (b := 60) (.inl rfl)
  · exact pc_two (b := 60) (c := 61) (.inr (.inl ⟨rfl, rfl⟩))
  · exact pc_lt (b := 62) (.inr rfl)
  · exact pc_two (b := 62) (c := 61) (.inr (.inr ⟨rfl, rfl⟩))
  · exact pc_one (b := 43) (by decide)
  · exact pc_one (b := 45) (by decide)
  · exact pc_one (b := 42) (by decide)
  · exact pc_kw (w := [97, 110, 100]) (by decide) (by decide)
  · exact pc_kw (w := [111, 114]) (by decide) (by decide)
theorem Pd.lx {x : S26} {b : List UInt8} {ts : List TK} {m : Nat} (h : Pd x b ts m) : Lx b ts := by
  induction h with
  | null => exact pc_null.lx
  | int l h0 hl hm hi => exact (pc_num h0 hl hm).lx
  | text l hl => exact (pc_text hl).lx
  | name w hw hr => exact (pc_nm hw hr).lx
  | dot v w hv hr hw hs => exact Lx.dot (pc_nm hv hr) (pc_nm hw hs)
  | not x b ts m h ih => exact Lx.sp pc_not.lx (at_lx ih _ _)
  | isn x b ts m h ih => exact Lx.sp (at_lx ih _ _) (Lx.sp pc_is.lx pc_null.lx)
  | isnn x b ts m h ih => exact Lx.sp (at_lx ih _ _) (Lx.sp pc_is.lx (Lx.sp pc_not.lx pc_null.lx))
  | op o h1 h2 x y b c ts us m n h k ih jh => exact Lx.sp (at_lx ih _ _) (Lx.sp (op_pc o h1 h2).lx (at_lx jh _ _))
theorem qd_len : ∀ l : List UInt8, (qd l).length ≤ 2 * l.length
  | [] => Nat.le_refl _
  | b :: r => by
    have := qd_len r
    rw [qd_cons]
    split
    · simp only [List.length_cons]; omega
    · simp only [List.length_cons]; omega
theorem nmB_len {w : List UInt8} (h : nmB w = true) : w.length ≤ 32 := (nmB_parts h).choose_spec.choose_spec.2.2.2
theorem atB_len (b : List UInt8) (t : List TK) (l n : Int) (h : b.length ≤ 200000 * t.length) : (atB b l n).length ≤ 200000 * (atT t l n).length := by
  unfold atB atT
  split
  · simp only [List.length_cons, List.length_append, List.length_nil]
    omega
  · exact h
theorem opB_len (o : Int) (h1 : 1 ≤ o) (h2 : o ≤ 11) : (opB o).length ≤ 3 := by
  have ho : o = 1 ∨ o = 2 ∨ o = 3 ∨ o = 4 ∨ o = 5 ∨ o = 6 ∨ o = 7 ∨ o = 8 ∨ o = 9 ∨ o = 10 ∨ o = 11 := by omega
  rcases ho with h | h | h | h | h | h | h | h | h | h | h <;> subst h <;> decide
theorem Pd.len {x : S26} {b : List UInt8} {ts : List TK} {m : Nat} (h : Pd x b ts m) : b.length ≤ 200000 * ts.length := by
  induction h with
  | null => decide
  | int l h0 hl hm hi =>
    have h0' := dvl_ge l hl 0 (Int.le_refl _)
    have e := Lib.itoa_length_le (dvl l 0) (by omega) (by omega)
    rw [hi] at e
    simp only [List.length_cons, List.length_nil]
    omega
  | text l hl =>
    have := qd_len l
    simp only [List.length_cons, List.length_append, List.length_nil]
    omega
  | name w hw hr =>
    have := nmB_len hw
    simp only [List.length_cons, List.length_nil]
    omega
  | dot v w hv hr hw hs =>
    have := nmB_len hw
    have := nmB_len hv
    simp only [List.length_cons, List.length_append, List.length_nil]
    omega
  | not x b ts m h ih =>
    have := atB_len b ts (levP x.f0) 3 ih
    simp only [List.length_cons, List.length_append, List.length_nil, bNot]
    omega
  | isn x b ts m h ih =>
    have := atB_len b ts (levP x.f0) 5 ih
    simp only [List.length_cons, List.length_append, List.length_nil, bNot, bIs, bNull]
    omega
  | isnn x b ts m h ih =>
    have := atB_len b ts (levP x.f0) 5 ih
    simp only [List.length_cons, List.length_append, List.length_nil, bNot, bIs, bNull]
    omega
  | op o h1 h2 x y b c ts us m n h k ih jh =>
    have := atB_len b ts (levP x.f0) (lefP o) ih
    have := atB_len c us (levP y.f0) (rigP o) jh
    have := opB_len o h1 h2
    simp only [List.length_cons, List.length_append, List.length_nil]
    omega
def baL (l : List UInt8) : ByteArray := ⟨l.toArray⟩
theorem baL_app (a b : List UInt8) : baL a ++ baL b = baL (a ++ b) := by
  apply ByteArray.ext
  rw [ByteArray.data_append]
  unfold baL
  simp
theorem quote_l0 (l : List UInt8) (hl : l.length ≤ 65536) (d : Nat) : ∀ (j k : Nat) (acc : List Int), l.length - j = d → j ≤ l.length → acc.length ≤ 2 * j + 1 → d < k → token_Quote.l0 k (baL l) acc (l.length : Int) (j : Int) = some (strOfNums (acc ++ nmsI (qd (l.drop j)) ++ [39])) := by
  induction d with
  | zero =>
    intro j k acc hd hj ha hk
    obtain ⟨k, rfl⟩ : ∃ m, k = m + 1 := ⟨k - 1, by omega⟩
    rw [token_Quote.l0, if_neg (show ¬ (j : Int) < (l.length : Int) by omega), if_pos (by omega), List.drop_of_length_le (by omega)]
    simp [qd, nmsI]
  | succ d ih =>
    intro j k acc hd hj ha hk
    obtain ⟨k, rfl⟩ : ∃ m, k = m + 1 := ⟨k - 1, by omega⟩
    have hjl : j < l.length := by omega
    have hsz : (baL l).size = l.length := by show l.toArray.size = _; simp
    have hb : bt (baL l) (j : Int) = ((l[j]).toNat : Int) := by
      have e := (has_self (baL l)).2 j (by show j < l.toArray.toList.length; simpa using hjl)
      rw [Nat.zero_add] at e
      rw [e]
      congr 2
    have hw : wrap64 ((j : Int) + 1) = ((j + 1 : Nat) : Int) := by rw [wt64 (by omega) (by omega)]; omega
    rw [token_Quote.l0, if_pos (show (j : Int) < (l.length : Int) by omega), if_pos (show (0 : Int) ≤ (j : Int) by omega), hsz, if_pos (show (j : Int) < (l.length : Int) by omega), hb, List.drop_eq_getElem_cons hjl, qd_cons]
    by_cases c : l[j] = 39
    · have c' : ((l[j]).toNat : Int) = 39 := by rw [c]; rfl
      rw [if_pos c', if_pos (by omega), bs, if_pos (by rw [List.length_append]; simp only [List.length_cons, List.length_nil]; omega), c', hw, ih (j + 1) k _ (by omega) (by omega) (by simp only [List.length_append, List.length_cons, List.length_nil]; omega) (by omega), if_pos c]
      simp [nmsI]
    · have c' : ¬ ((l[j]).toNat : Int) = 39 := by
        intro q
        apply c
        apply UInt8.toNat_inj.mp
        have : (39 : UInt8).toNat = 39 := rfl
        omega
      rw [if_neg c', if_pos (by omega), hw, ih (j + 1) k _ (by omega) (by omega) (by simp only [List.length_append, List.length_cons, List.length_nil]; omega) (by omega), if_neg c]
      simp [nmsI]
theorem quote_is (l : List UInt8) (hl : l.length ≤ 65536) (k : Nat) (hk : 65536 < k) : token_Quote.f k (baL l) = some (baL (39 :: (qd l ++ [39]))) := by
  have hsz : (baL l).size = l.length := by show l.toArray.size = _; simp
  have := quote_l0 l hl l.length 0 k [39] (by omega) (by omega) (by simp) (by omega)
  unfold token_Quote.f
  rw [hsz]
  refine this.trans ?_
  rw [List.drop_zero]
  have e : ([39] : List Int) ++ nmsI (qd l) ++ [39] = nmsI (39 :: (qd l ++ [39])) := by simp [nmsI]
  rw [e, nms_str]
  rfl
theorem atP_baL (b : List UInt8) (l n : Int) : atP (baL b) l n = baL (atB b l n) := by
  unfold atP atB
  split
  · show baL [40] ++ baL b ++ baL [41] = _
    rw [baL_app, baL_app]
    rfl
  · rfl
theorem partP_0 (x : S26) (o : Int) (r : List S26) : partP (ofP o (x :: r)) 0 = x := if_pos (show (0 : Int) < ((x :: r).length : Int) by rw [List.length_cons]; omega)
theorem partP_1 (x y : S26) (o : Int) : partP (ofP o [x, y]) 1 = y := rfl
theorem Pd.pr {x : S26} {b : List UInt8} {ts : List TK} {m : Nat} (h : Pd x b ts m) : ∃ K, ∀ k, K ≤ k → prE k x = some (baL b) := by
  induction h with
  | null =>
    refine ⟨2, fun k hk => ?_⟩
    obtain ⟨k, rfl⟩ : ∃ m, k = m + 1 := ⟨k - 1, by omega⟩
    rfl
  | int l h0 hl hm hi =>
    refine ⟨2, fun k hk => ?_⟩
    obtain ⟨k, rfl⟩ : ∃ m, k = m + 1 := ⟨k - 1, by omega⟩
    have h0' := dvl_ge l hl 0 (Int.le_refl _)
    show print_Val.f k 1 (dvl l 0) ⟨#[]⟩ = _
    unfold print_Val.f strconv_Itoa.f
    rw [if_neg (by decide), if_pos rfl, if_pos ⟨by omega, hm⟩, bs, hi]
    rfl
  | text l hl =>
    refine ⟨65540, fun k hk => ?_⟩
    obtain ⟨k, rfl⟩ : ∃ m, k = m + 1 := ⟨k - 1, by omega⟩
    show print_Val.f k 2 0 (baL l) = _
    unfold print_Val.f
    rw [if_neg (by decide), if_neg (by decide), if_pos rfl, quote_is l hl k (by omega), bs]
  | name w hw hr =>
    refine ⟨2, fun k hk => ?_⟩
    obtain ⟨k, rfl⟩ : ∃ m, k = m + 1 := ⟨k - 1, by omega⟩
    rfl
  | dot v w hv hr hw hs =>
    refine ⟨2, fun k hk => ?_⟩
    obtain ⟨k, rfl⟩ : ∃ m, k = m + 1 := ⟨k - 1, by omega⟩
    obtain ⟨c, r, rfl, _⟩ := nmB_parts hv
    have hne : ¬ (⟨(c :: r).toArray⟩ : ByteArray) = ⟨#[]⟩ := fun q => by
      have := congrArg (fun z : ByteArray => z.data.toList) q
      simp at this
    rw [prE]
    show (if (⟨(c :: r).toArray⟩ : ByteArray) = ⟨#[]⟩ then some (⟨w.toArray⟩ : ByteArray) else some ((⟨(c :: r).toArray⟩ : ByteArray) ++ (⟨#[46]⟩ : ByteArray) ++ ⟨w.toArray⟩)) = _
    rw [if_neg hne]
    show some (baL (c :: r) ++ baL [46] ++ baL w) = _
    rw [baL_app, baL_app]
  | not x b ts m h ih =>
    obtain ⟨K, hK⟩ := ih
    refine ⟨K + 1, fun k hk => ?_⟩
    obtain ⟨k, rfl⟩ : ∃ m, k = m + 1 := ⟨k - 1, by omega⟩
    rw [prE, if_pos (show (ofP 12 [x]).f0 = 12 from rfl), partP_0, hK k (by omega), bs, atP_baL]
    show some (baL [110, 111, 116, 32] ++ _) = _
    rw [baL_app]
    rfl
  | isn x b ts m h ih =>
    obtain ⟨K, hK⟩ := ih
    refine ⟨K + 1, fun k hk => ?_⟩
    obtain ⟨k, rfl⟩ : ∃ m, k = m + 1 := ⟨k - 1, by omega⟩
    rw [prE, if_neg (show ¬ (ofP 13 [x]).f0 = 12 from (show ¬ (13 : Int) = 12 by decide)), if_pos (show (ofP 13 [x]).f0 = 13 from rfl), partP_0, hK k (by omega), bs, atP_baL]
    show some (_ ++ baL [32, 105, 115, 32, 110, 117, 108, 108]) = _
    rw [baL_app]
    simp [bIs, bNull]
  | isnn x b ts m h ih =>
    obtain ⟨K, hK⟩ := ih
    refine ⟨K + 1, fun k hk => ?_⟩
    obtain ⟨k, rfl⟩ : ∃ m, k = m + 1 := ⟨k - 1, by omega⟩
    rw [prE, if_neg (show ¬ (ofP 14 [x]).f0 = 12 from (show ¬ (14 : Int) = 12 by decide)), if_neg (show ¬ (ofP 14 [x]).f0 = 13 from (show ¬ (14 : Int) = 13 by decide)), if_pos (show (ofP 14 [x]).f0 = 14 from rfl), partP_0, hK k (by omega), bs, atP_baL]
    show some (_ ++ baL [32, 105, 115, 32, 110, 111, 116, 32, 110, 117, 108, 108]) = _
    rw [baL_app]
    simp [bIs, bNot, bNull]
  | op o h1 h2 x y b c ts us m n h k ih jh =>
    obtain ⟨K, hK⟩ := ih
    obtain ⟨J, hJ⟩ := jh
    refine ⟨K + J + 1, fun k hk => ?_⟩
    obtain ⟨k, rfl⟩ : ∃ m, k = m + 1 := ⟨k - 1, by omega⟩
    have e : (ofP o [x, y]).f0 = o := rfl
    have ew : opW o = baL (opB o) := rfl
    rw [prE, e, if_neg (by omega), if_neg (by omega), if_neg (by omega), if_neg (by omega), if_neg (by omega), if_neg (by omega), if_neg (by omega), if_pos ⟨h1, h2⟩, partP_0, partP_1, hK k (by omega), bs, hJ k (by omega), bs, atP_baL, atP_baL, ew]
    show some (_ ++ baL [32] ++ _ ++ baL [32] ++ _) = _
    rw [baL_app, baL_app, baL_app, baL_app]
    simp
end Go.Proofs.YthlepdjjdbpmoaaDoor.PPrintExprs
namespace Go.Proofs.YthlepdjjdbpmoaaDoor.PPrintExprs
open Go.RowKit Go.Proofs.YthlepdjjdbpmoaaDoorW.PrintWords Go.Proofs.YthlepdjjdbpmoaaDoorW.PrintLast Go.Proofs.YthlepdjjdbpmoaaDoorW.PrintMore
attribute [local go_sem] max2_int min2_int max_two min_two max_three min_three max_four min_four
set_option linter.unusedVariables false
set_option linter.unusedSimpArgs false
set_option maxRecDepth 100000
set_option maxHeartbeats 4000000
theorem pr_mono (l : List S142) (k : Nat) : ∀ (p : Go) (i d e : Int) (r : Re), pr l k p i d e = some r → pr l (k + 1) p i d e = some r := by
  induction k with
  | zero => intro p i d e r h; simp [pr] at h
  | succ k ih =>
    intro p i d e r h
    cases p with
    | ch p ss x =>
      simp only [pr] at h
      rw [pr]
      by_cases he : e = 0
      · rw [if_pos he] at h ⊢
        cases hf : ss.find? (fun s => isP l i e s) with
        | none => rw [hf] at h; exact h
        | some s =>
          rw [hf] at h
          obtain ⟨q, hq, h⟩ := Option.bind_eq_some_iff.1 h
          show Option.bind _ _ = _
          rw [ih _ _ _ _ _ hq, Option.bind_some]
          exact ih _ _ _ _ _ h
      · rw [if_neg he] at h ⊢
        exact h
    | f p =>
      cases p
      case or | and | sum | prod =>
        simp only [pr] at h
        rw [pr]
        obtain ⟨q, hq, h⟩ := Option.bind_eq_some_iff.1 h
        rw [ih _ _ _ _ _ hq, Option.bind_some]
        exact ih _ _ _ _ _ h
      case not =>
        simp only [pr] at h
        rw [pr]
        by_cases g : isP l i e wNot = true
        · rw [if_pos g] at h ⊢
          by_cases hd : 0 ≤ d ∧ d ≤ 100
          · rw [if_pos hd] at h ⊢
            obtain ⟨q, hq, h⟩ := Option.bind_eq_some_iff.1 h
            rw [ih _ _ _ _ _ hq, Option.bind_some]
            exact h
          · rw [if_neg hd] at h; exact absurd h (by simp)
        · rw [if_neg g] at h ⊢
          exact ih _ _ _ _ _ h
      case test =>
        simp only [pr] at h
        rw [pr]
        obtain ⟨q, hq, h⟩ := Option.bind_eq_some_iff.1 h
        rw [ih _ _ _ _ _ hq, Option.bind_some]
        cases hf : six.find? (fun s => isP l q.i q.e s) with
        | none => rw [hf] at h; exact h
        | some s =>
          rw [hf] at h
          obtain ⟨q2, hq2, h⟩ := Option.bind_eq_some_iff.1 h
          show Option.bind _ _ = _
          rw [ih _ _ _ _ _ hq2, Option.bind_some]
          exact h
      case atom =>
        simp only [pr] at h
        rw [pr]
        by_cases g1 : (tokP l i e).f0 = 3
        · rw [if_pos g1] at h ⊢; exact h
        rw [if_neg g1] at h ⊢
        by_cases g2 : (tokP l i e).f0 = 4
        · rw [if_pos g2] at h ⊢; exact h
        rw [if_neg g2] at h ⊢
        by_cases g3 : isP l i e wNull = true
        · rw [if_pos g3] at h ⊢; exact h
        rw [if_neg g3] at h ⊢
        by_cases g4 : isP l i e wOpen = true
        · rw [if_pos g4] at h ⊢
          by_cases hd : 0 ≤ d ∧ d ≤ 100
          · rw [if_pos hd] at h ⊢
            obtain ⟨q, hq, h⟩ := Option.bind_eq_some_iff.1 h
            rw [ih _ _ _ _ _ hq, Option.bind_some]
            exact h
          · rw [if_neg hd] at h; exact absurd h (by simp)
        · rw [if_neg g4] at h ⊢; exact h
theorem pr_le {l : List S142} {k k' : Nat} {p : Go} {i d e : Int} {r : Re} (h : pr l k p i d e = some r) (hk : k ≤ k') : pr l k' p i d e = some r := by
  obtain ⟨m, rfl⟩ : ∃ m, k' = k + m := ⟨k' - k, by omega⟩
  clear hk
  induction m with
  | zero => exact h
  | succ m ih => exact pr_mono _ _ _ _ _ _ _ ih
def Ans (l : List S142) (p : Go) (i d e : Int) (r : Re) : Prop := ∃ k, pr l k p i d e = some r
mutual
def nodes : S26 → Nat
  | ⟨_, _, _, _, _, _, l⟩ => nodesL l + 1
def nodesL : List S26 → Nat
  | [] => 0
  | x :: l => nodes x + nodesL l
end
end Go.Proofs.YthlepdjjdbpmoaaDoor.PPrintExprs
namespace Go.Proofs.YthlepdjjdbpmoaaDoor.PPrintExprs
open Go.RowKit Go.Proofs.YthlepdjjdbpmoaaDoorW.PrintWords Go.Proofs.YthlepdjjdbpmoaaDoorW.PrintLast Go.Proofs.YthlepdjjdbpmoaaDoorW.PrintMore
attribute [local go_sem] max2_int min2_int max_two min_two max_three min_three max_four min_four
set_option linter.unusedVariables false
set_option linter.unusedSimpArgs false
set_option maxRecDepth 100000
set_option maxHeartbeats 4000000
def Gd (l : List S142) (i d e : Int) : Prop := 0 ≤ i ∧ i ≤ l.length ∧ 0 ≤ d ∧ d ≤ 51 ∧ (e = 0 → d ≤ 50) ∧ (e = 0 ∨ e = 1 ∨ e = 4)
def ms (l : List S142) (i e : Int) : Nat := if e = 0 then (l.length - i).toNat + 1 else 0
def Rs (l : List S142) (i d e : Int) (r : Re) (b : Nat) : Prop := Gd l r.i r.d r.e ∧ r.d = d ∧ i ≤ r.i ∧ (e ≠ 0 → r.e = e ∧ r.i = i) ∧ (r.e = 0 → (nodes r.x : Int) + i ≤ r.i + b)
theorem ms_le {l : List S142} {i e i' e' : Int} (h : i ≤ i') (he : e ≠ 0 → e' ≠ 0) : ms l i' e' ≤ ms l i e := by
  unfold ms
  by_cases c : e' = 0
  · rw [if_pos c, if_pos (Decidable.byContradiction fun q => he q c)]
    omega
  · rw [if_neg c]
    omega
theorem Rs.ms {l : List S142} {i d e : Int} {r : Re} {b : Nat} (h : Rs l i d e r b) : ms l r.i r.e ≤ ms l i e := ms_le h.2.2.1 fun q c => q ((h.2.2.2.1 q).1 ▸ c)
theorem ms_lt {l : List S142} {i : Int} (h : i < l.length) : Go.Proofs.YthlepdjjdbpmoaaDoor.PPrintExprs.ms l (i + 1) 0 < Go.Proofs.YthlepdjjdbpmoaaDoor.PPrintExprs.ms l i 0 := by
  unfold Go.Proofs.YthlepdjjdbpmoaaDoor.PPrintExprs.ms
  rw [if_pos rfl, if_pos rfl]
  omega
def OKf (l : List S142) (M : Nat) (p : Gr) : Prop := ∀ i d e, ms l i e ≤ M → Gd l i d e → ∃ r, Ans l (.f p) i d e r ∧ Rs l i d e r 0
def OKc (l : List S142) (M : Nat) (p : Gr) (ss : List ByteArray) : Prop := ∀ i d e x, ms l i e ≤ M → Gd l i d e → ∃ r, Ans l (.ch p ss x) i d e r ∧ Rs l i d e r (nodes x)
theorem nodes_of2 (op : Int) (x y : S26) : nodes (ofP op [x, y]) = nodes x + nodes y + 1 := by simp [ofP, nodes, nodesL]
theorem nodes_of1 (op : Int) (x : S26) : nodes (ofP op [x]) = nodes x + 1 := by simp [ofP, nodes, nodesL]
theorem chain_an (l : List S142) (p : Gr) (ss : List ByteArray) (M : Nat) (hp : ∀ M', M' < M → OKf l M' p) : OKc l M p ss := by
  induction M with
  | zero =>
    intro i d e x hm hg
    have he : e ≠ 0 := fun q => by subst q; unfold ms at hm; rw [if_pos rfl] at hm; omega
    exact ⟨⟨i, d, e, x⟩, ⟨1, by simp only [pr]; rw [if_neg he]⟩, hg, rfl, Int.le_refl i, fun _ => ⟨rfl, rfl⟩, fun q => absurd q he⟩
  | succ M ih =>
    intro i d e x hm hg
    by_cases he : e = 0
    · subst he
      cases hf : ss.find? (fun s => isP l i 0 s) with
      | none => exact ⟨⟨i, d, 0, x⟩, ⟨1, by simp only [pr]; rw [if_pos trivial, hf]⟩, hg, rfl, Int.le_refl i, fun q => absurd rfl q, fun _ => by simp only; omega⟩
      | some s =>
        have hs : isP l i 0 s = true := by have := List.find?_some hf; simpa using this
        have hi := (isP_le l i 0 s hs).2
        have hlt := ms_lt hi
        obtain ⟨g1, g2, g3, g4, g5, g6⟩ := hg
        obtain ⟨r1, ⟨k1, a1⟩, q1⟩ := hp M (Nat.lt_succ_self M) (i + 1) d 0 (by omega) ⟨by omega, by omega, g3, g4, g5, g6⟩
        have m1 := q1.ms
        obtain ⟨r2, ⟨k2, a2⟩, q2⟩ := ih (fun M' h => hp M' (by omega)) r1.i r1.d r1.e (ofP (opP s) [x, r1.x]) (by omega) q1.1
        refine ⟨r2, ⟨max k1 k2 + 1, ?_⟩, ?_⟩
        · simp only [pr]
          rw [if_pos trivial, hf]
          show Option.bind _ _ = _
          rw [pr_le a1 (Nat.le_max_left k1 k2), Option.bind_some]
          exact pr_le a2 (Nat.le_max_right k1 k2)
        · obtain ⟨u1, u2, u3, u4, u5⟩ := q1
          obtain ⟨v1, v2, v3, v4, v5⟩ := q2
          refine ⟨v1, by omega, by omega, fun q => absurd rfl q, fun c => ?_⟩
          have c1 : r1.e = 0 := Decidable.byContradiction fun q => q ((v4 q).1 ▸ c)
          have w1 := u5 c1; have w2 := v5 c
          rw [nodes_of2] at w2
          omega
    · exact ⟨⟨i, d, e, x⟩, ⟨1, by simp only [pr]; rw [if_neg he]⟩, hg, rfl, Int.le_refl i, fun _ => ⟨rfl, rfl⟩, fun q => absurd q he⟩
theorem link_an {l : List S142} {p : Gr} {ss : List ByteArray} {M : Nat} (h1 : OKf l M p) (h2 : OKc l M p ss) {i d e : Int} (hm : ms l i e ≤ M) (hg : Gd l i d e) : ∃ k r0 r, pr l k (.f p) i d e = some r0 ∧ pr l k (.ch p ss r0.x) r0.i r0.d r0.e = some r ∧ Rs l i d e r 0 := by
  obtain ⟨r0, ⟨k1, a1⟩, q1⟩ := h1 i d e hm hg
  have m1 := q1.ms
  obtain ⟨r, ⟨k2, a2⟩, q2⟩ := h2 r0.i r0.d r0.e r0.x (by omega) q1.1
  refine ⟨max k1 k2, r0, r, pr_le a1 (Nat.le_max_left k1 k2), pr_le a2 (Nat.le_max_right k1 k2), ?_⟩
  obtain ⟨u1, u2, u3, u4, u5⟩ := q1
  obtain ⟨v1, v2, v3, v4, v5⟩ := q2
  refine ⟨v1, by omega, by omega, fun q => ?_, fun c => ?_⟩
  · have w := u4 q
    have w2 := v4 (by rw [w.1]; exact q)
    exact ⟨w2.1.trans w.1, w2.2.trans w.2⟩
  · have c1 : r0.e = 0 := Decidable.byContradiction fun q => q ((v4 q).1 ▸ c)
    have w1 := u5 c1; have w2 := v5 c
    omega
end Go.Proofs.YthlepdjjdbpmoaaDoor.PPrintExprs
namespace Go.Proofs.YthlepdjjdbpmoaaDoor.PPrintExprs
open Go.RowKit Go.Proofs.YthlepdjjdbpmoaaDoorW.PrintWords Go.Proofs.YthlepdjjdbpmoaaDoorW.PrintLast Go.Proofs.YthlepdjjdbpmoaaDoorW.PrintMore
attribute [local go_sem] max2_int min2_int max_two min_two max_three min_three max_four min_four
set_option linter.unusedVariables false
set_option linter.unusedSimpArgs false
set_option maxRecDepth 100000
set_option maxHeartbeats 4000000
theorem fl_ne (e : Int) : flE e 1 ≠ 0 := by unfold flE; split <;> omega
theorem fl_e {e : Int} (h : e ≠ 0) : flE e 1 = e := by unfold flE; rw [if_neg h]
theorem fl_ok {e : Int} (h : e = 0 ∨ e = 1 ∨ e = 4) : flE e 1 = 0 ∨ flE e 1 = 1 ∨ flE e 1 = 4 := by unfold flE; split <;> omega
theorem tok_off {l : List S142} {i e : Int} (h : e ≠ 0) : (tokP l i e).f0 = 0 := by
  unfold tokP
  rw [if_neg (fun q => h q.1)]
theorem isP_off {l : List S142} {i e : Int} {s : ByteArray} (h : e ≠ 0) : isP l i e s = false := by
  cases c : isP l i e s with
  | false => rfl
  | true => exact absurd (isP_le l i e s c).1 h
theorem mu_rs {l : List S142} {i d e : Int} (s : ByteArray) (hg : Gd l i d e) : Gd l (muI l i e s) d (muE l i e s) ∧ i ≤ muI l i e s ∧ (e ≠ 0 → muE l i e s = e ∧ muI l i e s = i) ∧ (muE l i e s = 0 → e = 0 ∧ muI l i e s = i + 1) := by
  obtain ⟨g1, g2, g3, g4, g5, g6⟩ := hg
  unfold muI muE
  cases c : isP l i e s with
  | true =>
    have q := isP_le l i e s c
    rw [if_pos rfl, if_pos rfl]
    exact ⟨⟨by omega, by omega, g3, g4, g5, g6⟩, by omega, fun h => absurd q.1 h, fun h => ⟨h, rfl⟩⟩
  | false =>
    rw [if_neg (by decide), if_neg (by decide)]
    exact ⟨⟨g1, g2, g3, g4, fun h => absurd h (fl_ne e), fl_ok g6⟩, Int.le_refl i, fun h => ⟨fl_e h, rfl⟩, fun h => absurd h (fl_ne e)⟩
theorem nm_rs {l : List S142} {i d e : Int} (hg : Gd l i d e) : Gd l (nmI l i e) d (nmE l i e) ∧ i ≤ nmI l i e ∧ (e ≠ 0 → nmE l i e = e ∧ nmI l i e = i) ∧ (nmE l i e = 0 → e = 0 ∧ nmI l i e = i + 1) := by
  obtain ⟨g1, g2, g3, g4, g5, g6⟩ := hg
  unfold nmI nmE
  by_cases c : (tokP l i e).f0 = 1
  · have q := tok_le l i e (by rw [c]; decide)
    rw [if_pos c, if_pos c]
    exact ⟨⟨by omega, by omega, g3, g4, g5, g6⟩, by omega, fun h => absurd q.1 h, fun h => ⟨h, rfl⟩⟩
  · rw [if_neg c, if_neg c]
    exact ⟨⟨g1, g2, g3, g4, fun h => absurd h (fl_ne e), fl_ok g6⟩, Int.le_refl i, fun h => ⟨fl_e h, rfl⟩, fun h => absurd h (fl_ne e)⟩
theorem co_rs {l : List S142} {i d e : Int} (hg : Gd l i d e) : Rs l i d e ⟨coI l i e, d, coE l i e, coX l i e⟩ 0 := by
  obtain ⟨a1, a2, a3, a4⟩ := nm_rs hg
  have hn : nodes (coX l i e) = 1 := by unfold coX colP; split <;> simp [nodes, nodesL]
  unfold Rs
  simp only [hn]
  unfold coI coE
  cases c : isP l (nmI l i e) (nmE l i e) ⟨#[46]⟩ with
  | true =>
    have q := isP_le _ _ _ _ c
    rw [if_pos rfl, if_pos rfl]
    obtain ⟨g1, g2, g3, g4, g5, g6⟩ := a1
    obtain ⟨b1, b2, b3, b4⟩ := nm_rs (l := l) (i := nmI l i e + 1) (d := d) (e := nmE l i e) ⟨by omega, by omega, g3, g4, g5, g6⟩
    have e0 := a4 q.1
    exact ⟨b1, trivial, by omega, fun h => absurd e0.1 h, fun h => by have := b4 h; omega⟩
  | false =>
    rw [if_neg (by decide), if_neg (by decide)]
    exact ⟨a1, trivial, a2, a3, fun h => by have := a4 h; omega⟩
theorem leaf_rs {l : List S142} {i d e : Int} {x : S26} (hg : Gd l i d e) (he : e = 0) (hi : i < l.length) (hn : nodes x = 1) : Rs l i d e ⟨i + 1, d, e, x⟩ 0 := by
  obtain ⟨g1, g2, g3, g4, g5, g6⟩ := hg
  exact ⟨⟨by show (0 : Int) ≤ i + 1; omega, by show i + 1 ≤ (l.length : Int); omega, g3, g4, g5, g6⟩, rfl, by show i ≤ i + 1; omega, fun q => absurd he q, fun _ => by simp only [hn]; omega⟩
theorem val_nodes (a b : Int) (s : ByteArray) : nodes (valP a b s) = 1 := by simp [valP, nodes, nodesL]
theorem tx_nodes (s : ByteArray) : nodes (txP s) = 1 := by unfold txP; split <;> exact val_nodes _ _ _
theorem dn_rs {l : List S142} {i d : Int} {s : ByteArray} (hg : Gd l i d 0) (hs : isP l i 0 s = true) : Gd l (isI l i (dnE d 0) s) (d + 1) (dnE d 0) ∧ ms l (isI l i (dnE d 0) s) (dnE d 0) < ms l i 0 ∧ i ≤ isI l i (dnE d 0) s ∧ (dnE d 0 = 0 → isI l i (dnE d 0) s = i + 1) := by
  obtain ⟨g1, g2, g3, g4, g5, g6⟩ := hg
  have q := isP_le l i 0 s hs
  have g5' := g5 rfl
  by_cases c : d + 1 > 50
  · have z : dnE d 0 = 4 := by unfold dnE; rw [if_pos ⟨c, rfl⟩]
    have z2 : isP l i 4 s = false := isP_off (by decide)
    unfold isI
    rw [z, z2, if_neg (by decide)]
    refine ⟨⟨g1, g2, by omega, by omega, fun h => absurd h (by decide), .inr (.inr rfl)⟩, ?_, Int.le_refl i, fun h => absurd h (by decide)⟩
    unfold ms
    rw [if_neg (by decide), if_pos rfl]
    omega
  · have z : dnE d 0 = 0 := by unfold dnE; rw [if_neg (fun q => c q.1)]
    unfold isI
    rw [z, hs, if_pos rfl]
    exact ⟨⟨by omega, by omega, by omega, by omega, fun _ => by omega, .inl rfl⟩, ms_lt q.2, by omega, fun _ => rfl⟩
theorem not_an (l : List S142) (M : Nat) (hn : ∀ M', M' < M → OKf l M' .not) (ht : OKf l M .test) : OKf l M .not := by
  intro i d e hm hg
  cases c : isP l i e wNot with
  | false =>
    obtain ⟨r, ⟨k, a⟩, q⟩ := ht i d e hm hg
    exact ⟨r, ⟨k + 1, by simp only [pr]; rw [c, if_neg (by decide)]; exact a⟩, q⟩
  | true =>
    obtain rfl := (isP_le l i e wNot c).1
    obtain ⟨b1, b2, b3, b4⟩ := dn_rs hg c
    obtain ⟨r, ⟨k, a⟩, q1, q2, q3, q4, q5⟩ := hn (M - 1) (by omega) _ _ _ (by omega) b1
    obtain ⟨g1, g2, g3, g4, g5, g6⟩ := hg
    have g5' := g5 rfl
    obtain ⟨h1, h2, h3, h4, h5, h6⟩ := q1
    refine ⟨⟨r.i, r.d - 1, r.e, ofP 12 [r.x]⟩, ⟨k + 1, ?_⟩, ⟨h1, h2, by simp only; omega, by simp only; omega, fun _ => by simp only; omega, h6⟩, by simp only; omega, by simp only; omega, fun q => absurd rfl q, fun z => ?_⟩
    · simp only [pr]
      rw [c, if_pos rfl, if_pos ⟨g3, by omega⟩, a, Option.bind_some, if_pos ⟨by omega, by omega⟩]
    · have z0 : dnE d 0 = 0 := Decidable.byContradiction fun u => u ((q4 u).1 ▸ z)
      have w1 := q5 z; have w2 := b4 z0
      simp only [nodes_of1]
      omega
theorem atom_an (l : List S142) (M : Nat) (ho : ∀ M', M' < M → OKf l M' .or) : OKf l M .atom := by
  intro i d e hm hg
  by_cases c1 : (tokP l i e).f0 = 3
  · have q := tok_le l i e (by rw [c1]; decide)
    exact ⟨_, ⟨1, by simp only [pr]; rw [if_pos c1]⟩, leaf_rs hg q.1 q.2 (val_nodes _ _ _)⟩
  by_cases c2 : (tokP l i e).f0 = 4
  · have q := tok_le l i e (by rw [c2]; decide)
    exact ⟨_, ⟨1, by simp only [pr]; rw [if_neg c1, if_pos c2]⟩, leaf_rs hg q.1 q.2 (tx_nodes _)⟩
  cases c3 : isP l i e wNull with
  | true =>
    have q := isP_le l i e wNull c3
    exact ⟨_, ⟨1, by simp only [pr]; rw [if_neg c1, if_neg c2, c3, if_pos rfl]⟩, leaf_rs hg q.1 q.2 (val_nodes _ _ _)⟩
  | false =>
    cases c4 : isP l i e wOpen with
    | false => exact ⟨_, ⟨1, by simp only [pr]; rw [if_neg c1, if_neg c2, c3, if_neg (by decide), c4, if_neg (by decide)]⟩, co_rs hg⟩
    | true =>
      obtain rfl := (isP_le l i e wOpen c4).1
      obtain ⟨b1, b2, b3, b4⟩ := dn_rs hg c4
      obtain ⟨r, ⟨k, a⟩, q1, q2, q3, q4, q5⟩ := ho (M - 1) (by omega) _ _ _ (by omega) b1
      obtain ⟨m1, m2, m3, m4⟩ := mu_rs wShut q1
      obtain ⟨g1, g2, g3, g4, g5, g6⟩ := hg
      have g5' := g5 rfl
      obtain ⟨h1, h2, h3, h4, h5, h6⟩ := m1
      refine ⟨⟨muI l r.i r.e wShut, r.d - 1, muE l r.i r.e wShut, r.x⟩, ⟨k + 1, ?_⟩, ⟨h1, h2, by simp only; omega, by simp only; omega, fun _ => by simp only; omega, h6⟩, by simp only; omega, by simp only; omega, fun q => absurd rfl q, fun z => ?_⟩
      · simp only [pr]
        rw [if_neg c1, if_neg c2, c3, if_neg (by decide), c4, if_pos rfl, if_pos ⟨g3, by omega⟩, a, Option.bind_some, if_pos ⟨by omega, by omega⟩]
      · have w0 := m4 z
        have z0 : dnE d 0 = 0 := Decidable.byContradiction fun u => u ((q4 u).1 ▸ w0.1)
        have w1 := q5 w0.1; have w2 := b4 z0
        simp only
        omega
theorem test_an (l : List S142) (M : Nat) (hs : OKf l M .sum) : OKf l M .test := by
  intro i d e hm hg
  obtain ⟨r, ⟨k, a⟩, q⟩ := hs i d e hm hg
  have qm := q.ms
  obtain ⟨q1, q2, q3, q4, q5⟩ := q
  cases hf : six.find? (fun s => isP l r.i r.e s) with
  | some s =>
    have hs1 : isP l r.i r.e s = true := by have := List.find?_some hf; simpa using this
    have hi := isP_le l r.i r.e s hs1
    have hlt := ms_lt hi.2
    obtain ⟨g1, g2, g3, g4, g5, g6⟩ := q1
    rw [hi.1] at qm
    obtain ⟨r2, ⟨k2, a2⟩, v1, v2, v3, v4, v5⟩ := hs (r.i + 1) r.d r.e (by rw [hi.1]; omega) ⟨by omega, by omega, g3, g4, g5, g6⟩
    refine ⟨⟨r2.i, r2.d, r2.e, ofP (opP s) [r.x, r2.x]⟩, ⟨max k k2 + 1, ?_⟩, v1, by simp only; omega, by simp only; omega, fun u => absurd (q4 u).1 (by rw [hi.1]; exact fun h => u h.symm), fun z => ?_⟩
    · simp only [pr]
      rw [pr_le a (Nat.le_max_left k k2), Option.bind_some, hf]
      show Option.bind _ _ = _
      rw [pr_le a2 (Nat.le_max_right k k2), Option.bind_some]
    · have w1 := q5 hi.1; have w2 := v5 z
      simp only [nodes_of2]
      omega
  | none =>
    refine ⟨tst l r, ⟨k + 1, by simp only [pr]; rw [a, Option.bind_some, hf]⟩, ?_⟩
    unfold tst
    cases c1 : isP l r.i r.e wIs with
    | false => rw [if_neg (by decide)]; exact ⟨q1, q2, q3, q4, q5⟩
    | true =>
      rw [if_pos rfl]
      have hi := isP_le l r.i r.e wIs c1
      obtain ⟨g1, g2, g3, g4, g5, g6⟩ := q1
      cases c2 : isP l (r.i + 1) r.e wNot with
      | true =>
        rw [if_pos rfl]
        have hj := isP_le l (r.i + 1) r.e wNot c2
        obtain ⟨m1, m2, m3, m4⟩ := mu_rs (l := l) (i := r.i + 1 + 1) (d := r.d) (e := r.e) wNull ⟨by omega, by omega, g3, g4, g5, g6⟩
        refine ⟨m1, q2, by simp only; omega, fun u => absurd (q4 u).1 (by rw [hi.1]; exact fun h => u h.symm), fun z => ?_⟩
        have w1 := q5 hi.1
        simp only [nodes_of1]
        omega
      | false =>
        rw [if_neg (by decide)]
        obtain ⟨m1, m2, m3, m4⟩ := mu_rs (l := l) (i := r.i + 1) (d := r.d) (e := r.e) wNull ⟨by omega, by omega, g3, g4, g5, g6⟩
        refine ⟨m1, q2, by simp only; omega, fun u => absurd (q4 u).1 (by rw [hi.1]; exact fun h => u h.symm), fun z => ?_⟩
        have w1 := q5 hi.1
        simp only [nodes_of1]
        omega
theorem link_f {l : List S142} {M : Nat} {p q : Gr} {ss : List ByteArray} (hpr : ∀ k i d e, pr l (k + 1) (.f p) i d e = (pr l k (.f q) i d e).bind fun r => pr l k (.ch q ss r.x) r.i r.d r.e) (h : OKf l M q) (hs : ∀ M', M' < M → OKf l M' q) : OKf l M p := by
  intro i d e hm hg
  obtain ⟨k, r0, r, a1, a2, q⟩ := link_an h (chain_an l q ss M hs) hm hg
  exact ⟨r, ⟨k + 1, by rw [hpr, a1, Option.bind_some]; exact a2⟩, q⟩
theorem all_an (l : List S142) (M : Nat) : ∀ M', M' ≤ M → ∀ p, OKf l M' p := by
  induction M using Nat.strongRecOn with
  | ind M ih =>
    intro M' hM
    rcases Nat.lt_or_ge M' M with h | h
    · exact ih M' h M' (Nat.le_refl M')
    · obtain rfl : M' = M := by omega
      have lo : ∀ p, ∀ N, N < M' → OKf l N p := fun p N hN => ih N hN N (Nat.le_refl N) p
      have h1 : OKf l M' .atom := atom_an l M' (lo .or)
      have h2 : OKf l M' .prod := link_f (q := .atom) (ss := [wStar]) (fun k i d e => by simp only [pr]) h1 (lo .atom)
      have h3 : OKf l M' .sum := link_f (q := .prod) (ss := [wPlus, wMinus]) (fun k i d e => by simp only [pr]) h2 (lo .prod)
      have h4 : OKf l M' .test := test_an l M' h3
      have h5 : OKf l M' .not := not_an l M' (lo .not) h4
      have h6 : OKf l M' .and := link_f (q := .not) (ss := [wAnd]) (fun k i d e => by simp only [pr]) h5 (lo .not)
      have h7 : OKf l M' .or := link_f (q := .and) (ss := [wOr]) (fun k i d e => by simp only [pr]) h6 (lo .and)
      intro p
      cases p <;> assumption
theorem pr_an (l : List S142) (e : Int) (he : e = 0 ∨ e = 1 ∨ e = 4) : ∃ r k, pr l k (.f .or) 0 0 e = some r ∧ Rs l 0 0 e r 0 := by
  obtain ⟨r, ⟨k, a⟩, q⟩ := all_an l (ms l 0 e) _ (Nat.le_refl _) .or 0 0 e (Nat.le_refl _) ⟨Int.le_refl 0, Int.natCast_nonneg _, Int.le_refl 0, by decide, fun _ => by decide, he⟩
  exact ⟨r, k, a, q⟩
end Go.Proofs.YthlepdjjdbpmoaaDoor.PPrintExprs
namespace Go.Proofs.YthlepdjjdbpmoaaDoor.PPrintExprs
open Go.RowKit Go.Proofs.YthlepdjjdbpmoaaDoorW.PrintWords Go.Proofs.YthlepdjjdbpmoaaDoorW.PrintLast Go.Proofs.YthlepdjjdbpmoaaDoorW.PrintMore
attribute [local go_sem] max2_int min2_int max_two min_two max_three min_three max_four min_four
set_option linter.unusedVariables false
set_option linter.unusedSimpArgs false
set_option maxRecDepth 100000
set_option maxHeartbeats 4000000
def lv : Gr → Int
  | .or => 1 | .and => 2 | .not => 3 | .test => 4 | .sum => 5 | .prod => 6 | .atom => 7
def GoodT (t : S142) : Prop := (t.f0 = 1 → ∃ w : List UInt8, t.f1 = ⟨w.toArray⟩ ∧ nmB w = true ∧ wrd ⟨w.toArray⟩ = false) ∧ (t.f0 = 3 → 0 ≤ t.f2 ∧ t.f2 ≤ 9223372036854775807)
def Good (l : List S142) : Prop := ∀ t ∈ l, GoodT t
theorem tokP_good {l : List S142} (h : Good l) (i e : Int) (hi : 0 ≤ i) : GoodT (tokP l i e) := by
  unfold tokP
  split
  · rename_i c
    obtain ⟨i, rfl⟩ := Int.eq_ofNat_of_zero_le hi
    have hl : i < l.length := by omega
    refine h _ ?_
    unfold rd_T142
    rw [Int.toNat_natCast, List.getD_eq_getElem?_getD, List.getElem?_eq_getElem hl]
    exact List.getElem_mem hl
  · exact ⟨fun q => absurd q (show ¬ (0 : Int) = 1 by decide), fun q => absurd q (show ¬ (0 : Int) = 3 by decide)⟩
theorem atT_mono (t : List TK) (l a b : Int) (h : a ≤ b) : (atT t l a).length ≤ (atT t l b).length := by
  unfold atT
  by_cases c : l < a
  · rw [if_pos c, if_pos (by omega)]
    exact Nat.le_refl _
  · rw [if_neg c]
    split
    · simp only [List.length_cons, List.length_append, List.length_nil]; omega
    · exact Nat.le_refl _
theorem atT_le (t : List TK) (l a : Int) : (atT t l a).length ≤ t.length + 2 := by
  unfold atT
  split
  · simp only [List.length_cons, List.length_append, List.length_nil]; omega
  · omega
theorem atT_ge (t : List TK) (l a : Int) : t.length ≤ (atT t l a).length := by
  unfold atT
  split
  · simp only [List.length_cons, List.length_append, List.length_nil]; omega
  · omega
theorem atD_mono (m : Nat) (l a b : Int) (h : a ≤ b) : atD m l a ≤ atD m l b := by
  unfold atD
  by_cases c : l < a
  · rw [if_pos c, if_pos (by omega)]
    exact Nat.le_refl _
  · rw [if_neg c]
    split <;> omega
theorem atD_le (m : Nat) (l a : Int) : atD m l a ≤ m + 1 := by
  unfold atD
  split <;> omega
theorem atD_ge (m : Nat) (l a : Int) : m ≤ atD m l a := by
  unfold atD
  split <;> omega
theorem levP_ge (o : Int) : 1 ≤ levP o := by
  unfold levP
  (repeat' split) <;> omega
theorem levP_le (o : Int) : levP o ≤ 7 := by
  unfold levP
  (repeat' split) <;> omega
theorem dec_parts (n : Nat) : Lib.decDigits n ≠ [] ∧ (∀ b ∈ Lib.decDigits n, dgt (b.toNat : Int) = true) ∧ dvl (Lib.decDigits n) 0 = n := by
  have app : ∀ (l m : List UInt8) (v : Int), dvl (l ++ m) v = dvl m (dvl l v) := by
    intro l
    induction l with
    | nil => intro m v; rfl
    | cons b r ih => intro m v; exact ih m _
  have one : ∀ d : Nat, d < 10 → dgt ((UInt8.ofNat (48 + d)).toNat : Int) = true ∧ ((UInt8.ofNat (48 + d)).toNat : Int) - 48 = d := by
    intro d hd
    have e : (UInt8.ofNat (48 + d)).toNat = 48 + d := by
      rw [UInt8.toNat_ofNat']
      exact Nat.mod_eq_of_lt (by omega)
    rw [e]
    refine ⟨?_, by omega⟩
    unfold dgt
    exact decide_eq_true (by omega)
  induction n using Nat.strongRecOn with
  | _ n ih =>
    rw [Lib.decDigits]
    by_cases c : n < 10
    · rw [dif_pos c]
      obtain ⟨o1, o2⟩ := one n c
      refine ⟨by simp, fun b hb => ?_, ?_⟩
      · rw [List.mem_singleton] at hb
        rw [hb]
        exact o1
      · unfold dvl
        rw [o2]
        unfold dvl
        omega
    · rw [dif_neg c]
      obtain ⟨h1, h2, h3⟩ := ih (n / 10) (by omega)
      obtain ⟨o1, o2⟩ := one (n % 10) (by omega)
      refine ⟨by simp, fun b hb => ?_, ?_⟩
      · rw [List.mem_append, List.mem_singleton] at hb
        rcases hb with hb | hb
        · exact h2 b hb
        · rw [hb]; exact o1
      · rw [app, h3]
        unfold dvl
        rw [o2]
        unfold dvl
        omega
theorem pd_int (n : Int) (h0 : 0 ≤ n) (h1 : n ≤ 9223372036854775807) : Pd (valP 1 n ⟨#[]⟩) (Lib.itoa n) [((3, ⟨(Lib.itoa n).toArray⟩, n) : TK)] 0 := by
  obtain ⟨p1, p2, p3⟩ := dec_parts n.toNat
  have e : Lib.itoa n = Lib.decDigits n.toNat := by
    unfold Lib.itoa
    rw [if_neg (by omega)]
  have e3 : dvl (Lib.itoa n) 0 = n := by rw [e, p3]; omega
  have := Pd.int (Lib.itoa n) (by rw [e]; exact p1) (by rw [e]; exact p2) (by omega) (by rw [e3])
  rw [e3] at this
  exact this
def FOK (l : List S142) (p : Gr) (i d e : Int) (r : Re) : Prop := e = 0 ∧ r.d = d ∧ i ≤ r.i ∧ ∃ b ts m, Pd r.x b ts m ∧ i + ((atT ts (levP r.x.f0) (lv p)).length : Int) ≤ r.i ∧ d + (atD m (levP r.x.f0) (lv p) : Int) ≤ 50
def Valid (p : Gr) (ss : List ByteArray) : Prop := ∀ s ∈ ss, 1 ≤ opP s ∧ opP s ≤ 11 ∧ levP (opP s) = lv p - 1 ∧ lefP (opP s) = lv p - 1 ∧ rigP (opP s) = lv p
def COK (l : List S142) (p : Gr) (x : S26) (i d e : Int) (r : Re) : Prop := e = 0 ∧ r.d = d ∧ i ≤ r.i ∧ ∀ b ts m, Pd x b ts m → d + (atD m (levP x.f0) (lv p - 1) : Int) ≤ 50 → ∃ b' ts' m', Pd r.x b' ts' m' ∧ i + ((atT ts' (levP r.x.f0) (lv p - 1)).length : Int) ≤ r.i + (atT ts (levP x.f0) (lv p - 1)).length ∧ d + (atD m' (levP r.x.f0) (lv p - 1) : Int) ≤ 50
def Img (l : List S142) (k : Nat) : Prop := (∀ p i d e r, 0 ≤ i → d ≤ 50 → pr l k (.f p) i d e = some r → r.e = 0 → FOK l p i d e r) ∧ (∀ p ss x i d e r, Valid p ss → 0 ≤ i → d ≤ 50 → pr l k (.ch p ss x) i d e = some r → r.e = 0 → COK l p x i d e r)
theorem val_or : Valid .and [wOr] := by intro s hs; simp only [List.mem_singleton] at hs; subst hs; decide +kernel
theorem val_and : Valid .not [wAnd] := by intro s hs; simp only [List.mem_singleton] at hs; subst hs; decide +kernel
theorem val_sum : Valid .prod [wPlus, wMinus] := by intro s hs; simp only [List.mem_cons, List.not_mem_nil, or_false] at hs; rcases hs with rfl | rfl <;> decide +kernel
theorem val_prod : Valid .atom [wStar] := by intro s hs; simp only [List.mem_singleton] at hs; subst hs; decide +kernel
theorem isP_e {l : List S142} {i e : Int} {s : ByteArray} (h : isP l i e s = true) : e = 0 := by
  unfold isP at h
  rw [Bool.and_eq_true] at h
  exact beq_iff_eq.1 h.1
theorem fl_0 {e : Int} (h : flE e 1 = 0) : False := by
  unfold flE at h
  split at h <;> omega
theorem mu_0 {l : List S142} {i e : Int} {s : ByteArray} (h : muE l i e s = 0) : e = 0 ∧ isP l i e s = true ∧ muI l i e s = i + 1 := by
  unfold muE at h
  unfold muI
  split at h
  · rename_i c
    exact ⟨h, c, by rw [if_pos c]⟩
  · exact (fl_0 h).elim
theorem link_img {l : List S142} {k : Nat} (h : Img l k) {p q : Gr} {ss : List ByteArray} (hv : Valid q ss) (hl : lv q = lv p + 1) {i d e : Int} {r : Re} (hi : 0 ≤ i) (hd : d ≤ 50) (hr : (pr l k (.f q) i d e).bind (fun r => pr l k (.ch q ss r.x) r.i r.d r.e) = some r) (he : r.e = 0) : FOK l p i d e r := by
  obtain ⟨r0, h0, h1⟩ := Option.bind_eq_some_iff.1 hr
  have c0 : r0.e = 0 := by
    have : ∀ (a : Re), pr l k (.f q) i d e = some a → a.e = 0 → 0 ≤ a.i := fun a ha hz => by
      have := (h.1 q i d e a hi hd ha hz).2.2.1
      omega
    cases k with
    | zero => cases h1
    | succ k =>
      rw [pr] at h1
      by_cases c : r0.e = 0
      · exact c
      · rw [if_neg c] at h1
        obtain rfl := Option.some.inj h1
        exact absurd he c
  obtain ⟨e0, d0, i0, b, ts, m, hp, hn, hm⟩ := h.1 q i d e r0 hi hd h0 c0
  rw [d0] at h1
  obtain ⟨_, d1, i1, hc⟩ := h.2 q ss r0.x r0.i d r0.e r hv (by omega) hd h1 he
  have t1 := atT_mono ts (levP r0.x.f0) (lv q - 1) (lv q) (by omega)
  have t2 := atD_mono m (levP r0.x.f0) (lv q - 1) (lv q) (by omega)
  obtain ⟨b', ts', m', hp', hn', hm'⟩ := hc b ts m hp (by omega)
  rw [hl, show lv p + 1 - 1 = lv p by omega] at hn' hm' t1
  exact ⟨e0, d1, by omega, b', ts', m', hp', by rw [hl] at hn; omega, hm'⟩
theorem dn_0 {d e : Int} (h : dnE d e = 0) : e = 0 ∧ d + 1 ≤ 50 := by
  unfold dnE at h
  split at h
  · omega
  · omega
theorem opP_lev (s : ByteArray) (h : s ∈ six) : 1 ≤ opP s ∧ opP s ≤ 6 := by
  unfold six at h
  simp only [List.mem_cons, List.not_mem_nil, or_false] at h
  rcases h with rfl | rfl | rfl | rfl | rfl | rfl <;> decide +kernel
theorem six_lev (o : Int) (h1 : 1 ≤ o) (h6 : o ≤ 6) : levP o = 4 ∧ lefP o = 5 ∧ rigP o = 5 := by
  have ho : o = 1 ∨ o = 2 ∨ o = 3 ∨ o = 4 ∨ o = 5 ∨ o = 6 := by omega
  rcases ho with h | h | h | h | h | h <;> subst h <;> decide
theorem isI_0 {l : List S142} {i e d : Int} {s : ByteArray} (h : isP l i e s = true) (hd : dnE d e = 0) : isI l i (dnE d e) s = i + 1 := by
  have he := isP_e h
  unfold isI
  rw [hd]
  rw [he] at h
  rw [h, if_pos rfl]
theorem sticky (l : List S142) : ∀ k g i d e r, pr l k g i d e = some r → r.e = 0 → e = 0
  | 0, _, _, _, _, _, h, _ => by cases h
  | k + 1, g, i, d, e, r, h, hr => by
    have ih := sticky l k
    have link : ∀ (q : Gr) (ss : List ByteArray), ((pr l k (.f q) i d e).bind fun r => pr l k (.ch q ss r.x) r.i r.d r.e) = some r → e = 0 := by
      intro q ss h
      obtain ⟨r0, h0, h1⟩ := Option.bind_eq_some_iff.1 h
      exact ih _ _ _ _ _ h0 (ih _ _ _ _ _ h1 hr)
    cases g with
    | ch p ss x =>
      rw [pr] at h
      by_cases c : e = 0
      · exact c
      · rw [if_neg c] at h
        obtain rfl := Option.some.inj h
        exact hr
    | f p =>
      cases p with
      | or => exact link .and _ (by rw [pr] at h; exact h)
      | and => exact link .not _ (by rw [pr] at h; exact h)
      | sum => exact link .prod _ (by rw [pr] at h; exact h)
      | prod => exact link .atom _ (by rw [pr] at h; exact h)
      | not =>
        rw [pr] at h
        by_cases c : isP l i e wNot = true
        · exact isP_e c
        · rw [if_neg c] at h
          exact ih _ _ _ _ _ h hr
      | test =>
        rw [pr] at h
        obtain ⟨r0, h0, h1⟩ := Option.bind_eq_some_iff.1 h
        refine ih _ _ _ _ _ h0 ?_
        split at h1
        · obtain ⟨q, hq, h2⟩ := Option.bind_eq_some_iff.1 h1
          obtain rfl := Option.some.inj h2
          exact ih _ _ _ _ _ hq hr
        · obtain rfl := Option.some.inj h1
          unfold tst at hr
          by_cases c : isP l r0.i r0.e wIs = true
          · exact isP_e c
          · rw [if_neg c] at hr
            exact hr
      | atom =>
        by_cases c : e = 0
        · exact c
        · exfalso
          have t0 := tok_off (l := l) (i := i) c
          rw [pr, t0, if_neg (by decide), if_neg (by decide), isP_off c, if_neg (by decide), isP_off c, if_neg (by decide)] at h
          obtain rfl := Option.some.inj h
          have n0 : nmE l i e ≠ 0 := by
            unfold nmE
            rw [t0, if_neg (by decide)]
            exact fl_ne e
          have hr' : coE l i e = 0 := hr
          unfold coE at hr'
          rw [isP_off n0, if_neg (by decide)] at hr'
          exact n0 hr'
theorem img_not {l : List S142} {k : Nat} (h : Img l k) {i d e : Int} {r : Re} (hi : 0 ≤ i) (hd : d ≤ 50) (hr : pr l (k + 1) (.f .not) i d e = some r) (he : r.e = 0) : FOK l .not i d e r := by
  rw [pr] at hr
  by_cases c : isP l i e wNot = true
  · rw [if_pos c] at hr
    split at hr
    · obtain ⟨q, hq, h2⟩ := Option.bind_eq_some_iff.1 hr
      split at h2
      · obtain rfl := Option.some.inj h2
        have hq0 : q.e = 0 := he
        by_cases z : dnE d e = 0
        · obtain ⟨e0, d1⟩ := dn_0 z
          rw [isI_0 c z, z] at hq
          obtain ⟨_, dq, iq, b, ts, m, hp, hn, hm⟩ := h.1 .not (i + 1) (d + 1) 0 q (by omega) (by omega) hq hq0
          have e3 : lv .not = 3 := rfl
          rw [e3] at hn hm
          have el : levP (ofP 12 [q.x]).f0 = 3 := rfl
          refine ⟨e0, by show q.d - 1 = d; omega, by show i ≤ q.i; omega, _, _, _, Pd.not q.x b ts m hp, ?_, ?_⟩
          · show i + ((atT (tNot :: atT ts (levP q.x.f0) 3) (levP (ofP 12 [q.x]).f0) (lv .not)).length : Int) ≤ q.i
            rw [el, e3]
            unfold atT
            rw [if_neg (show ¬ (3 : Int) < 3 by omega)]
            rw [List.length_cons]
            have : ((atT ts (levP q.x.f0) 3).length : Int) + (i + 1) ≤ q.i := by omega
            unfold atT at this
            omega
          · rw [show levP ({ i := q.i, d := q.d - 1, e := q.e, x := ofP 12 [q.x] } : Re).x.f0 = 3 from rfl, e3]
            unfold atD
            rw [if_neg (show ¬ (3 : Int) < 3 by omega)]
            unfold atD at hm
            omega
        · exfalso
          exact z (sticky l k _ _ _ _ _ hq hq0)
      · cases h2
    · cases hr
  · rw [if_neg c] at hr
    obtain ⟨e0, d0, i0, b, ts, m, hp, hn, hm⟩ := h.1 .test i d e r hi hd hr he
    have t1 := atT_mono ts (levP r.x.f0) 3 4 (by omega)
    have t2 := atD_mono m (levP r.x.f0) 3 4 (by omega)
    exact ⟨e0, d0, i0, b, ts, m, hp, by show i + ((atT ts (levP r.x.f0) 3).length : Int) ≤ r.i; have : i + ((atT ts (levP r.x.f0) 4).length : Int) ≤ r.i := hn; omega, by show d + (atD m (levP r.x.f0) 3 : Int) ≤ 50; have : d + (atD m (levP r.x.f0) 4 : Int) ≤ 50 := hm; omega⟩
end Go.Proofs.YthlepdjjdbpmoaaDoor.PPrintExprs
namespace Go.Proofs.YthlepdjjdbpmoaaDoor.PPrintExprs
open Go.RowKit Go.Proofs.YthlepdjjdbpmoaaDoorW.PrintWords Go.Proofs.YthlepdjjdbpmoaaDoorW.PrintLast Go.Proofs.YthlepdjjdbpmoaaDoorW.PrintMore
attribute [local go_sem] max2_int min2_int max_two min_two max_three min_three max_four min_four
set_option linter.unusedVariables false
set_option linter.unusedSimpArgs false
set_option maxRecDepth 100000
set_option maxHeartbeats 4000000
theorem pd_txt (s : ByteArray) : ∃ b ts, Pd (txP s) b ts 0 ∧ ts.length = 1 := by
  unfold txP
  split
  · exact ⟨_, _, Pd.null, rfl⟩
  · rename_i c
    have e : (⟨s.data.toList.toArray⟩ : ByteArray) = s := by
      apply ByteArray.ext
      simp
    have hl : s.data.toList.length ≤ 65536 := by
      rw [Array.length_toList]
      have : s.data.size = s.size := rfl
      omega
    have := Pd.text s.data.toList hl
    rw [e] at this
    exact ⟨_, _, this, rfl⟩
theorem leaf_img {l : List S142} {p : Gr} {i d : Int} {x : S26} {b : List UInt8} {ts : List TK} {j : Int} (hp : Pd x b ts 0) (h7 : levP x.f0 = 7) (hd : d ≤ 50) (hj : i + (ts.length : Int) ≤ j) : FOK l .atom i d 0 ⟨j, d, 0, x⟩ := by
  refine ⟨rfl, rfl, by show i ≤ j; omega, b, ts, 0, hp, ?_, ?_⟩
  · show i + ((atT ts (levP x.f0) 7).length : Int) ≤ j
    rw [h7]
    unfold atT
    rw [if_neg (by omega)]
    exact hj
  · show d + ((atD 0 (levP x.f0) 7 : Nat) : Int) ≤ 50
    rw [h7]
    unfold atD
    rw [if_neg (by omega)]
    omega
theorem nm_0 {l : List S142} (hl : Good l) {i e : Int} (hi : 0 ≤ i) (h : nmE l i e = 0) : e = 0 ∧ nmI l i e = i + 1 ∧ ∃ w : List UInt8, nmS l i e = ⟨w.toArray⟩ ∧ nmB w = true ∧ wrd ⟨w.toArray⟩ = false := by
  unfold nmE at h
  unfold nmI nmS
  by_cases c : (tokP l i e).f0 = 1
  · rw [if_pos c] at h ⊢
    rw [if_pos c]
    exact ⟨h, rfl, (tokP_good hl i e hi).1 c⟩
  · rw [if_neg c] at h
    exact (fl_0 h).elim
theorem col_img {l : List S142} (hl : Good l) {i d e : Int} (hi : 0 ≤ i) (hd : d ≤ 50) (he : coE l i e = 0) : FOK l .atom i d e ⟨coI l i e, d, coE l i e, coX l i e⟩ := by
  unfold coE at he
  unfold coI coX coE
  by_cases c : isP l (nmI l i e) (nmE l i e) ⟨#[46]⟩ = true
  · rw [if_pos c] at he ⊢
    rw [if_pos c, if_pos c]
    have n1 := isP_e c
    obtain ⟨e0, i1, v, hv, v1, v2⟩ := nm_0 hl hi n1
    obtain ⟨_, i2, w, hw, w1, w2⟩ := nm_0 hl (by omega) he
    rw [i2, hv, hw, he, e0]
    exact leaf_img (p := .atom) (Pd.dot v w v1 v2 w1 w2) rfl hd (by rw [e0] at i1; rw [i1]; simp only [List.length_cons, List.length_nil]; omega)
  · rw [if_neg c] at he ⊢
    rw [if_neg c, if_neg c]
    obtain ⟨e0, i1, v, hv, v1, v2⟩ := nm_0 hl hi he
    rw [i1, hv, he, e0]
    exact leaf_img (p := .atom) (Pd.name v v1 v2) rfl hd (by simp only [List.length_cons, List.length_nil]; omega)
theorem img_atom {l : List S142} (hl : Good l) {k : Nat} (h : Img l k) {i d e : Int} {r : Re} (hi : 0 ≤ i) (hd : d ≤ 50) (hr : pr l (k + 1) (.f .atom) i d e = some r) (he : r.e = 0) : FOK l .atom i d e r := by
  have e0 := sticky l (k + 1) _ _ _ _ _ hr he
  subst e0
  rw [pr] at hr
  by_cases c3 : (tokP l i 0).f0 = 3
  · rw [if_pos c3] at hr
    obtain rfl := Option.some.inj hr
    have g := (tokP_good hl i 0 hi).2 c3
    exact leaf_img (p := .atom) (pd_int _ g.1 g.2) rfl hd (by simp only [List.length_cons, List.length_nil]; omega)
  rw [if_neg c3] at hr
  by_cases c4 : (tokP l i 0).f0 = 4
  · rw [if_pos c4] at hr
    obtain rfl := Option.some.inj hr
    obtain ⟨b, ts, hp, h1⟩ := pd_txt (tokP l i 0).f1
    have e7 : levP (txP (tokP l i 0).f1).f0 = 7 := by
      unfold txP
      split <;> rfl
    exact leaf_img (p := .atom) hp e7 hd (by omega)
  rw [if_neg c4] at hr
  by_cases cn : isP l i 0 wNull = true
  · rw [if_pos cn] at hr
    obtain rfl := Option.some.inj hr
    exact leaf_img (p := .atom) Pd.null rfl hd (by simp only [List.length_cons, List.length_nil]; omega)
  rw [if_neg cn] at hr
  by_cases co : isP l i 0 wOpen = true
  · rw [if_pos co] at hr
    split at hr
    · obtain ⟨q, hq, h2⟩ := Option.bind_eq_some_iff.1 hr
      split at h2
      · obtain rfl := Option.some.inj h2
        have he' : muE l q.i q.e wShut = 0 := he
        obtain ⟨q0, _, qi⟩ := mu_0 he'
        have z := sticky l k _ _ _ _ _ hq q0
        obtain ⟨_, d1⟩ := dn_0 z
        rw [isI_0 co z, z] at hq
        obtain ⟨_, dq, iq, b, ts, m, hp, hn, hm⟩ := h.1 .or (i + 1) (d + 1) 0 q (by omega) (by omega) hq q0
        have h1 := atT_ge ts (levP q.x.f0) (lv .or)
        have h2' := atD_ge m (levP q.x.f0) (lv .or)
        have h3 := atT_le ts (levP q.x.f0) (lv .atom)
        have h4 := atD_le m (levP q.x.f0) (lv .atom)
        refine ⟨rfl, by show q.d - 1 = d; omega, by show i ≤ muI l q.i q.e wShut; omega, b, ts, m, hp, ?_, ?_⟩
        · show i + ((atT ts (levP q.x.f0) (lv .atom)).length : Int) ≤ muI l q.i q.e wShut
          omega
        · show d + ((atD m (levP q.x.f0) (lv .atom) : Nat) : Int) ≤ 50
          omega
      · cases h2
    · cases hr
  rw [if_neg co] at hr
  obtain rfl := Option.some.inj hr
  exact col_img hl hi hd he
theorem img_test {l : List S142} {k : Nat} (h : Img l k) {i d e : Int} {r : Re} (hi : 0 ≤ i) (hd : d ≤ 50) (hr : pr l (k + 1) (.f .test) i d e = some r) (he : r.e = 0) : FOK l .test i d e r := by
  have e0 := sticky l (k + 1) _ _ _ _ _ hr he
  rw [pr] at hr
  obtain ⟨r0, h0, h1⟩ := Option.bind_eq_some_iff.1 hr
  cases hf : six.find? (fun s => isP l r0.i r0.e s) with
  | some s =>
    rw [hf] at h1
    obtain ⟨q, hq, h2⟩ := Option.bind_eq_some_iff.1 h1
    obtain rfl := Option.some.inj h2
    have q0 : q.e = 0 := he
    have r00 := sticky l k _ _ _ _ _ hq q0
    obtain ⟨_, d0, i0, b, ts, m, hp, hn, hm⟩ := h.1 .sum i d e r0 hi hd h0 r00
    rw [d0] at hq
    obtain ⟨_, d1, i1, c, us, n, kp, kn, km⟩ := h.1 .sum (r0.i + 1) d r0.e q (by omega) hd hq q0
    obtain ⟨o1, o6⟩ := opP_lev s (List.mem_of_find?_eq_some hf)
    obtain ⟨l4, l5, l5'⟩ := six_lev (opP s) o1 o6
    refine ⟨e0, d1, by show i ≤ q.i; omega, _, _, _, Pd.op (opP s) o1 (by omega) r0.x q.x b c ts us m n hp kp, ?_, ?_⟩
    · show i + ((atT (atT ts (levP r0.x.f0) (lefP (opP s)) ++ opT (opP s) :: atT us (levP q.x.f0) (rigP (opP s))) (levP (opP s)) 4).length : Int) ≤ q.i
      rw [l4, l5, l5']
      have e5 : lv .sum = 5 := rfl
      rw [e5] at hn kn
      generalize hA : atT ts (levP r0.x.f0) 5 = A at *
      generalize hB : atT us (levP q.x.f0) 5 = B at *
      unfold atT
      rw [if_neg (by omega), List.length_append, List.length_cons]
      omega
    · show d + ((atD (max (atD m (levP r0.x.f0) (lefP (opP s))) (atD n (levP q.x.f0) (rigP (opP s)))) (levP (opP s)) 4 : Nat) : Int) ≤ 50
      rw [l4, l5, l5']
      have e5 : lv .sum = 5 := rfl
      rw [e5] at hm km
      generalize hA : atD m (levP r0.x.f0) 5 = A at *
      generalize hB : atD n (levP q.x.f0) 5 = B at *
      unfold atD
      rw [if_neg (by omega)]
      omega
  | none =>
    rw [hf] at h1
    obtain rfl := Option.some.inj h1
    have e5 : lv .sum = 5 := rfl
    have e4 : lv .test = 4 := rfl
    unfold tst at he ⊢
    by_cases ci : isP l r0.i r0.e wIs = true
    · rw [if_pos ci] at he ⊢
      have r00 := isP_e ci
      obtain ⟨_, d0, i0, b, ts, m, hp, hn, hm⟩ := h.1 .sum i d e r0 hi hd h0 r00
      rw [e5] at hn hm
      by_cases cn : isP l (r0.i + 1) r0.e wNot = true
      · rw [if_pos cn] at he ⊢
        obtain ⟨_, _, j1⟩ := mu_0 he
        refine ⟨e0, d0, by show i ≤ muI l (r0.i + 1 + 1) r0.e wNull; omega, _, _, _, Pd.isnn r0.x b ts m hp, ?_, ?_⟩
        · show i + ((atT (atT ts (levP r0.x.f0) 5 ++ [tIs, tNot, tNull]) 4 4).length : Int) ≤ muI l (r0.i + 1 + 1) r0.e wNull
          generalize hA : atT ts (levP r0.x.f0) 5 = A at *
          unfold atT
          rw [if_neg (by omega), List.length_append]
          simp only [List.length_cons, List.length_nil]
          omega
        · show d + ((atD (atD m (levP r0.x.f0) 5) 4 4 : Nat) : Int) ≤ 50
          generalize hA : atD m (levP r0.x.f0) 5 = A at *
          unfold atD
          rw [if_neg (by omega)]
          omega
      · rw [if_neg cn] at he ⊢
        obtain ⟨_, _, j1⟩ := mu_0 he
        refine ⟨e0, d0, by show i ≤ muI l (r0.i + 1) r0.e wNull; omega, _, _, _, Pd.isn r0.x b ts m hp, ?_, ?_⟩
        · show i + ((atT (atT ts (levP r0.x.f0) 5 ++ [tIs, tNull]) 4 4).length : Int) ≤ muI l (r0.i + 1) r0.e wNull
          generalize hA : atT ts (levP r0.x.f0) 5 = A at *
          unfold atT
          rw [if_neg (by omega), List.length_append]
          simp only [List.length_cons, List.length_nil]
          omega
        · show d + ((atD (atD m (levP r0.x.f0) 5) 4 4 : Nat) : Int) ≤ 50
          generalize hA : atD m (levP r0.x.f0) 5 = A at *
          unfold atD
          rw [if_neg (by omega)]
          omega
    · rw [if_neg ci] at he ⊢
      obtain ⟨_, d0, i0, b, ts, m, hp, hn, hm⟩ := h.1 .sum i d e r0 hi hd h0 he
      have t1 := atT_mono ts (levP r0.x.f0) 4 5 (by omega)
      have t2 := atD_mono m (levP r0.x.f0) 4 5 (by omega)
      rw [e5] at hn hm
      exact ⟨e0, d0, i0, b, ts, m, hp, by rw [e4]; omega, by rw [e4]; omega⟩
theorem img_ch {l : List S142} {k : Nat} (h : Img l k) {p : Gr} {ss : List ByteArray} {x : S26} (hv : Valid p ss) {i d e : Int} {r : Re} (hi : 0 ≤ i) (hd : d ≤ 50) (hr : pr l (k + 1) (.ch p ss x) i d e = some r) (he : r.e = 0) : COK l p x i d e r := by
  have e0 := sticky l (k + 1) _ _ _ _ _ hr he
  rw [pr, if_pos e0] at hr
  cases hf : ss.find? (fun s => isP l i e s) with
  | none =>
    rw [hf] at hr
    obtain rfl := Option.some.inj hr
    exact ⟨e0, rfl, Int.le_refl _, fun b ts m hp hm => ⟨b, ts, m, hp, Int.le_refl _, hm⟩⟩
  | some s =>
    rw [hf] at hr
    obtain ⟨q, hq, h2⟩ := Option.bind_eq_some_iff.1 hr
    have q0 := sticky l k _ _ _ _ _ h2 he
    obtain ⟨_, dq, iq, c, us, n, kp, kn, km⟩ := h.1 p (i + 1) d e q (by omega) hd hq q0
    rw [dq] at h2
    obtain ⟨_, d1, i1, hc⟩ := h.2 p ss (ofP (opP s) [x, q.x]) q.i d q.e r hv (by omega) hd h2 he
    obtain ⟨o1, o11, ol, of, og⟩ := hv s (List.mem_of_find?_eq_some hf)
    refine ⟨e0, d1, by omega, fun b ts m hp hm => ?_⟩
    have P := Pd.op (opP s) o1 o11 x q.x b c ts us m n hp kp
    rw [of, og] at P
    generalize hA : atT ts (levP x.f0) (lv p - 1) = A at *
    generalize hB : atT us (levP q.x.f0) (lv p) = B at *
    generalize hC : atD m (levP x.f0) (lv p - 1) = C at *
    generalize hD : atD n (levP q.x.f0) (lv p) = D at *
    have eo : levP (ofP (opP s) [x, q.x]).f0 = lv p - 1 := ol
    obtain ⟨b', ts', m', hp', hn', hm'⟩ := hc _ _ _ P (by
      rw [eo]
      unfold atD
      rw [if_neg (by omega)]
      omega)
    refine ⟨b', ts', m', hp', ?_, hm'⟩
    rw [eo] at hn'
    have eA : atT (A ++ opT (opP s) :: B) (lv p - 1) (lv p - 1) = A ++ opT (opP s) :: B := by
      unfold atT
      rw [if_neg (by omega)]
    rw [eA, List.length_append, List.length_cons] at hn'
    omega
theorem img_all {l : List S142} (hl : Good l) : ∀ k, Img l k
  | 0 => ⟨fun p i d e r _ _ h _ => (by cases h), fun p ss x i d e r _ _ _ h _ => (by cases h)⟩
  | k + 1 => by
    have ih := img_all hl k
    refine ⟨fun p i d e r hi hd hr he => ?_, fun p ss x i d e r hv hi hd hr he => img_ch ih hv hi hd hr he⟩
    cases p with
    | or => exact link_img ih val_or rfl hi hd (by rw [pr] at hr; exact hr) he
    | and => exact link_img ih val_and rfl hi hd (by rw [pr] at hr; exact hr) he
    | not => exact img_not ih hi hd hr he
    | test => exact img_test ih hi hd hr he
    | sum => exact link_img ih val_sum rfl hi hd (by rw [pr] at hr; exact hr) he
    | prod => exact link_img ih val_prod rfl hi hd (by rw [pr] at hr; exact hr) he
    | atom => exact img_atom hl ih hi hd hr he
end Go.Proofs.YthlepdjjdbpmoaaDoor.PPrintExprs
namespace Go.Proofs.YthlepdjjdbpmoaaDoor.PPrintExprs
open Go.RowKit Go.Proofs.YthlepdjjdbpmoaaDoorW.PrintWords Go.Proofs.YthlepdjjdbpmoaaDoorW.PrintLast Go.Proofs.YthlepdjjdbpmoaaDoorW.PrintMore
attribute [local go_sem] max2_int min2_int max_two min_two max_three min_three max_four min_four
set_option linter.unusedVariables false
set_option linter.unusedSimpArgs false
set_option maxRecDepth 100000
set_option maxHeartbeats 4000000
def Mt (l : List S142) (i : Nat) (ts : List TK) : Prop := i + ts.length ≤ l.length ∧ ∀ (q : Nat) (h : q < ts.length) (h' : i + q < l.length), ky (l[i + q]) = ts[q]
theorem Mt.left {l : List S142} {i : Nat} {a b : List TK} (h : Mt l i (a ++ b)) : Mt l i a := by
  have h1 := h.1
  rw [List.length_append] at h1
  refine ⟨by omega, fun q hq hq' => ?_⟩
  rw [h.2 q (by rw [List.length_append]; omega) hq', List.getElem_append_left hq]
theorem Mt.right {l : List S142} {i : Nat} {a b : List TK} (h : Mt l i (a ++ b)) : Mt l (i + a.length) b := by
  have h1 := h.1
  rw [List.length_append] at h1
  refine ⟨by omega, fun q hq hq' => ?_⟩
  have := h.2 (a.length + q) (by rw [List.length_append]; omega) (by omega)
  rw [List.getElem_append_right (by omega)] at this
  simp only [Nat.add_sub_cancel_left] at this
  rw [← this]
  congr 2
  omega
theorem Mt.tail {l : List S142} {i : Nat} {t : TK} {b : List TK} (h : Mt l i (t :: b)) : Mt l (i + 1) b := Mt.right (a := [t]) h
theorem Mt.tok {l : List S142} {i : Nat} {t : TK} {b : List TK} (h : Mt l i (t :: b)) : ky (tokP l (i : Int) 0) = t := by
  have h1 := h.1
  rw [List.length_cons] at h1
  have hl : i < l.length := by omega
  have := h.2 0 (by simp) hl
  unfold tokP
  rw [if_pos ⟨rfl, by omega⟩]
  unfold rd_T142
  rw [Int.toNat_natCast, List.getD_eq_getElem?_getD, List.getElem?_eq_getElem hl]
  exact this
def isK (t : TK) (s : ByteArray) : Bool := (t.1 == 2 || t.1 == 5) && (t.2.1.toList == s.toList)
theorem isP_ky (l : List S142) (i : Int) (s : ByteArray) : isP l i 0 s = isK (ky (tokP l i 0)) s := by
  unfold isP isT isK ky
  simp
theorem Mt.isP {l : List S142} {i : Nat} {t : TK} {b : List TK} (h : Mt l i (t :: b)) (s : ByteArray) : isP l (i : Int) 0 s = isK t s := by rw [isP_ky, h.tok]
def NK (t : TK) (L : Int) : Prop := (L ≤ 1 → isK t wOr = false) ∧ (L ≤ 2 → isK t wAnd = false) ∧ (L ≤ 4 → (∀ s ∈ six, isK t s = false) ∧ isK t wIs = false) ∧ (L ≤ 5 → isK t wPlus = false ∧ isK t wMinus = false) ∧ (L ≤ 6 → isK t wStar = false) ∧ isK t ⟨#[46]⟩ = false
def NC (l : List S142) (j : Nat) (L : Int) : Prop := NK (ky (tokP l (j : Int) 0)) L
theorem NC.mono {l : List S142} {j : Nat} {a b : Int} (h : NC l j a) (hab : a ≤ b) : NC l j b :=
  ⟨fun q => h.1 (by omega), fun q => h.2.1 (by omega), fun q => h.2.2.1 (by omega), fun q => h.2.2.2.1 (by omega), fun q => h.2.2.2.2.1 (by omega), h.2.2.2.2.2⟩
theorem Mt.nc {l : List S142} {j : Nat} {t : TK} {b : List TK} {L : Int} (h : Mt l j (t :: b)) (k : NK t L) : NC l j L := by
  unfold NC
  rw [h.tok]
  exact k
def Rx (j : Nat) (d : Int) (x : S26) : Re := ⟨(j : Int), d, 0, x⟩
theorem ans_link {l : List S142} {p q : Gr} {ss : List ByteArray} (hp : ∀ k i d e, pr l (k + 1) (.f p) i d e = (pr l k (.f q) i d e).bind fun r => pr l k (.ch q ss r.x) r.i r.d r.e) {i d e : Int} {r0 r : Re} (h : Ans l (.f q) i d e r0) (k : Ans l (.ch q ss r0.x) r0.i r0.d r0.e r) : Ans l (.f p) i d e r := by
  obtain ⟨k1, h1⟩ := h
  obtain ⟨k2, h2⟩ := k
  refine ⟨k1 + k2 + 1, ?_⟩
  rw [hp, pr_le h1 (show k1 ≤ k1 + k2 by omega), Option.bind_some]
  exact pr_le h2 (by omega)
theorem ch_stop {l : List S142} {p : Gr} {ss : List ByteArray} {x : S26} {j : Nat} {d : Int} (h : ∀ s ∈ ss, isP l (j : Int) 0 s = false) : Ans l (.ch p ss x) (j : Int) d 0 (Rx j d x) := by
  refine ⟨1, ?_⟩
  rw [pr, if_pos rfl]
  have : ss.find? (fun s => isP l (j : Int) 0 s) = none := by
    rw [List.find?_eq_none]
    intro s hs
    rw [h s hs]
    decide
  rw [this]
  rfl
def dn : Gr → Gr
  | .atom => .prod | .prod => .sum | .sum => .test | .test => .not | .not => .and | .and => .or | .or => .or
theorem lower1 {l : List S142} {i j : Nat} {d : Int} {x : S26} (p : Gr) (hp : 2 ≤ lv p) (hn : lv p = 4 → isP l (i : Int) 0 wNot = false) (h : Ans l (.f p) (i : Int) d 0 (Rx j d x)) (hc : NC l j (lv p - 1)) : Ans l (.f (dn p)) (i : Int) d 0 (Rx j d x) := by
  obtain ⟨c1, c2, c4, c5, c6, c7⟩ := hc
  simp only [← isP_ky] at c1 c2 c4 c5 c6 c7
  cases p with
  | or => exact absurd hp (by decide)
  | and => exact ans_link (p := .or) (fun k i d e => by rw [pr]) h (ch_stop (fun s hs => by rw [List.mem_singleton] at hs; rw [hs]; exact c1 (by decide)))
  | not => exact ans_link (p := .and) (fun k i d e => by rw [pr]) h (ch_stop (fun s hs => by rw [List.mem_singleton] at hs; rw [hs]; exact c2 (by decide)))
  | prod => exact ans_link (p := .sum) (fun k i d e => by rw [pr]) h (ch_stop (fun s hs => by
      have := c5 (by decide)
      rw [List.mem_cons, List.mem_singleton] at hs
      rcases hs with hs | hs
      · rw [hs]; exact this.1
      · rw [hs]; exact this.2))
  | atom => exact ans_link (p := .prod) (fun k i d e => by rw [pr]) h (ch_stop (fun s hs => by rw [List.mem_singleton] at hs; rw [hs]; exact c6 (by decide)))
  | test =>
    obtain ⟨k, hk⟩ := h
    refine ⟨k + 1, ?_⟩
    show pr l (k + 1) (.f .not) _ _ _ = _
    rw [pr, hn rfl, if_neg (by decide)]
    exact hk
  | sum =>
    obtain ⟨k, hk⟩ := h
    refine ⟨k + 1, ?_⟩
    show pr l (k + 1) (.f .test) _ _ _ = _
    rw [pr, hk, Option.bind_some]
    have := c4 (by decide)
    have e : six.find? (fun s => isP l (Rx j d x).i (Rx j d x).e s) = none := by
      rw [List.find?_eq_none]
      intro s hs
      show ¬ isP l (j : Int) 0 s = true
      rw [this.1 s hs]
      decide
    rw [e]
    show some (tst l (Rx j d x)) = _
    unfold tst
    rw [show isP l (Rx j d x).i (Rx j d x).e wIs = false from this.2, if_neg (by decide)]
theorem lv_dn (p : Gr) (h : 2 ≤ lv p) : lv (dn p) = lv p - 1 := by
  cases p <;> first | rfl | exact absurd h (by decide)
theorem lv_inj (p q : Gr) (h : lv p = lv q) : p = q := by
  cases p <;> cases q <;> first | rfl | exact absurd h (by decide)
theorem lv_ge (p : Gr) : 1 ≤ lv p := by cases p <;> decide
theorem lower {l : List S142} {i j : Nat} {d : Int} {x : S26} (n : Nat) : ∀ (p q : Gr), lv p = lv q + n → (4 ≤ lv p → isP l (i : Int) 0 wNot = false) → Ans l (.f p) (i : Int) d 0 (Rx j d x) → NC l j (lv q) → Ans l (.f q) (i : Int) d 0 (Rx j d x) := by
  induction n with
  | zero =>
    intro p q h _ ha _
    rw [← lv_inj p q (by omega)]
    exact ha
  | succ n ih =>
    intro p q h hn ha hc
    have hq := lv_ge q
    have hd := lv_dn p (by omega)
    exact ih (dn p) q (by omega) (fun z => hn (by omega)) (lower1 p (by omega) (fun z => hn (by omega)) ha (hc.mono (by omega))) hc
end Go.Proofs.YthlepdjjdbpmoaaDoor.PPrintExprs
namespace Go.Proofs.YthlepdjjdbpmoaaDoor.PPrintExprs
open Go.RowKit Go.Proofs.YthlepdjjdbpmoaaDoorW.PrintWords Go.Proofs.YthlepdjjdbpmoaaDoorW.PrintLast Go.Proofs.YthlepdjjdbpmoaaDoorW.PrintMore
attribute [local go_sem] max2_int min2_int max_two min_two max_three min_three max_four min_four
set_option linter.unusedVariables false
set_option linter.unusedSimpArgs false
set_option maxRecDepth 100000
set_option maxHeartbeats 4000000
def FirstOK (x : S26) (ts : List TK) : Prop := ∃ t r, ts = t :: r ∧ (4 ≤ levP x.f0 → isK t wNot = false)
theorem at_first {ts : List TK} {l n : Int} (h : ∃ t r, ts = t :: r ∧ (4 ≤ l → isK t wNot = false)) : ∃ t r, atT ts l n = t :: r ∧ (4 ≤ n → isK t wNot = false) := by
  obtain ⟨t, r, e, k⟩ := h
  unfold atT
  by_cases c : l < n
  · rw [if_pos c]
    exact ⟨_, _, rfl, fun _ => by decide +kernel⟩
  · rw [if_neg c]
    exact ⟨t, r, e, fun q => k (by omega)⟩
theorem isK_other {t : TK} {s : ByteArray} (h : t.1 ≠ 2) (k : t.1 ≠ 5) : isK t s = false := by
  unfold isK
  rw [beq_eq_false_iff_ne.2 h, beq_eq_false_iff_ne.2 k]
  rfl
theorem Pd.first {x : S26} {b : List UInt8} {ts : List TK} {m : Nat} (h : Pd x b ts m) : FirstOK x ts := by
  induction h with
  | null => exact ⟨_, _, rfl, fun _ => by decide +kernel⟩
  | int l h0 hl hm hi => exact ⟨_, _, rfl, fun _ => isK_other (show (3 : Int) ≠ 2 by decide) (show (3 : Int) ≠ 5 by decide)⟩
  | text l hl => exact ⟨_, _, rfl, fun _ => isK_other (show (4 : Int) ≠ 2 by decide) (show (4 : Int) ≠ 5 by decide)⟩
  | name w hw hr => exact ⟨_, _, rfl, fun _ => isK_other (show (1 : Int) ≠ 2 by decide) (show (1 : Int) ≠ 5 by decide)⟩
  | dot v w hv hr hw hs => exact ⟨_, _, rfl, fun _ => isK_other (show (1 : Int) ≠ 2 by decide) (show (1 : Int) ≠ 5 by decide)⟩
  | not x b ts m h ih => exact ⟨_, _, rfl, fun q => absurd q (show ¬ (4 : Int) ≤ 3 by decide)⟩
  | isn x b ts m h ih =>
    obtain ⟨t, r, e, k⟩ := at_first (n := 5) ih
    exact ⟨t, _, by rw [e, List.cons_append], fun _ => k (by decide)⟩
  | isnn x b ts m h ih =>
    obtain ⟨t, r, e, k⟩ := at_first (n := 5) ih
    exact ⟨t, _, by rw [e, List.cons_append], fun _ => k (by decide)⟩
  | op o h1 h2 x y b c ts us m n h k ih jh =>
    obtain ⟨t, r, e, k⟩ := at_first (n := lefP o) ih
    refine ⟨t, _, by rw [e, List.cons_append], fun q => k ?_⟩
    have q' : 4 ≤ levP o := q
    have ho : o = 1 ∨ o = 2 ∨ o = 3 ∨ o = 4 ∨ o = 5 ∨ o = 6 ∨ o = 7 ∨ o = 8 ∨ o = 9 ∨ o = 10 ∨ o = 11 := by omega
    rcases ho with h | h | h | h | h | h | h | h | h | h | h <;> subst h <;> revert q' <;> decide
theorem lv_surj (n : Int) (h1 : 1 ≤ n) (h7 : n ≤ 7) : ∃ q, lv q = n := by
  have hn : n = 1 ∨ n = 2 ∨ n = 3 ∨ n = 4 ∨ n = 5 ∨ n = 6 ∨ n = 7 := by omega
  rcases hn with h | h | h | h | h | h | h <;> subst h
  · exact ⟨.or, rfl⟩
  · exact ⟨.and, rfl⟩
  · exact ⟨.not, rfl⟩
  · exact ⟨.test, rfl⟩
  · exact ⟨.sum, rfl⟩
  · exact ⟨.prod, rfl⟩
  · exact ⟨.atom, rfl⟩
theorem lv_le (p : Gr) : lv p ≤ 7 := by cases p <;> decide
def Dir (l : List S142) (x : S26) (ts : List TK) (m : Nat) : Prop := ∀ (q : Gr) (i : Nat) (d : Int), lv q = levP x.f0 → Mt l i ts → 0 ≤ d → d + (m : Int) ≤ 50 → NC l (i + ts.length) (lv q) → Ans l (.f q) (i : Int) d 0 (Rx (i + ts.length) d x)
def Mn (l : List S142) (x : S26) (ts : List TK) (m : Nat) : Prop := ∀ (p : Gr) (i : Nat) (d : Int), Mt l i (atT ts (levP x.f0) (lv p)) → 0 ≤ d → d + (atD m (levP x.f0) (lv p) : Int) ≤ 50 → NC l (i + (atT ts (levP x.f0) (lv p)).length) (lv p) → Ans l (.f p) (i : Int) d 0 (Rx (i + (atT ts (levP x.f0) (lv p)).length) d x)
theorem nk_shut (L : Int) : NK tShut L := by
  refine ⟨fun _ => by decide +kernel, fun _ => by decide +kernel, fun _ => ⟨fun s hs => ?_, by decide +kernel⟩, fun _ => ⟨by decide +kernel, by decide +kernel⟩, fun _ => by decide +kernel, by decide +kernel⟩
  unfold six at hs
  simp only [List.mem_cons, List.not_mem_nil, or_false] at hs
  rcases hs with rfl | rfl | rfl | rfl | rfl | rfl <;> decide +kernel
theorem ky_f0 {t : S142} {k : TK} (h : ky t = k) : t.f0 = k.1 := by rw [← h]; rfl
theorem dnE_0 {d : Int} (h : d + 1 ≤ 50) : dnE d 0 = 0 := by
  unfold dnE
  rw [if_neg (by omega)]
theorem mn_of {l : List S142} {x : S26} {ts : List TK} {m : Nat} (hD : Dir l x ts m) (hf : FirstOK x ts) : Mn l x ts m := by
  intro p i d hM h0 hm hc
  obtain ⟨t, r, ef, kf⟩ := hf
  obtain ⟨q, hq⟩ := lv_surj (levP x.f0) (levP_ge _) (levP_le _)
  by_cases c : levP x.f0 < lv p
  · unfold atT at hM hc ⊢
    unfold atD at hm
    rw [if_pos c] at hM hc hm ⊢
    have hM1 : Mt l (i + 1) (ts ++ [tShut]) := hM.tail
    have hM2 := hM1.right
    have inner := hD q (i + 1) (d + 1) hq hM1.left (by omega) (by omega) (hM2.nc (nk_shut _))
    have inner2 := lower (lv q - lv .or).toNat q .or (by have := lv_ge q; show lv q = 1 + _; have e1 : lv .or = 1 := rfl; rw [e1]; omega) (fun z => by
      have := hM1.left
      rw [ef] at this
      rw [this.isP]
      exact kf (by omega)) inner (hM2.nc (nk_shut _))
    obtain ⟨k, hk⟩ := inner2
    have e0 : (tokP l (i : Int) 0).f0 = 5 := ky_f0 hM.tok
    have en : isP l (i : Int) 0 wNull = false := by rw [hM.isP]; decide +kernel
    have eo : isP l (i : Int) 0 wOpen = true := by rw [hM.isP]; decide +kernel
    have es : isP l ((i + 1 + ts.length : Nat) : Int) 0 wShut = true := by rw [hM2.isP]; decide +kernel
    have hdn := dnE_0 (show d + 1 ≤ 50 by omega)
    have at_ : Ans l (.f .atom) (i : Int) d 0 (Rx (i + 1 + ts.length + 1) d x) := by
      refine ⟨k + 1, ?_⟩
      rw [pr, e0, if_neg (by decide), if_neg (by decide), en, if_neg (by decide), eo, if_pos rfl, if_pos ⟨h0, by omega⟩, hdn]
      have ei : isI l (i : Int) 0 wOpen = ((i + 1 : Nat) : Int) := by
        unfold isI
        rw [eo, if_pos rfl]
        omega
      rw [ei, hk, Option.bind_some, if_pos (show 0 ≤ (Rx (i + 1 + ts.length) (d + 1) x).d ∧ (Rx (i + 1 + ts.length) (d + 1) x).d ≤ 200 from ⟨by show 0 ≤ d + 1; omega, by show d + 1 ≤ 200; omega⟩)]
      have mi : muI l (Rx (i + 1 + ts.length) (d + 1) x).i (Rx (i + 1 + ts.length) (d + 1) x).e wShut = ((i + 1 + ts.length + 1 : Nat) : Int) := by
        show muI l ((i + 1 + ts.length : Nat) : Int) 0 wShut = _
        unfold muI
        rw [es, if_pos rfl]
        omega
      have me : muE l (Rx (i + 1 + ts.length) (d + 1) x).i (Rx (i + 1 + ts.length) (d + 1) x).e wShut = 0 := by
        show muE l ((i + 1 + ts.length : Nat) : Int) 0 wShut = _
        unfold muE
        rw [es, if_pos rfl]
      rw [mi, me]
      show some (⟨_, d + 1 - 1, 0, x⟩ : Re) = some ⟨_, d, 0, x⟩
      rw [show d + 1 - 1 = d by omega]
    have eL : i + (tOp :: (ts ++ [tShut])).length = i + 1 + ts.length + 1 := by simp only [List.length_cons, List.length_append, List.length_nil]; omega
    rw [eL] at hc ⊢
    have e7 : lv .atom = 7 := rfl
    exact lower (7 - lv p).toNat .atom p (by have := lv_le p; omega) (fun _ => by rw [hM.isP]; decide +kernel) at_ hc
  · unfold atT at hM hc ⊢
    unfold atD at hm
    rw [if_neg c] at hM hc hm ⊢
    have := hD q i d hq hM h0 hm (hc.mono (by omega))
    refine lower (lv q - lv p).toNat q p (by omega) (fun z => ?_) this hc
    rw [ef] at hM
    rw [hM.isP]
    exact kf (by omega)
end Go.Proofs.YthlepdjjdbpmoaaDoor.PPrintExprs
namespace Go.Proofs.YthlepdjjdbpmoaaDoor.PPrintExprs
open Go.RowKit Go.Proofs.YthlepdjjdbpmoaaDoorW.PrintWords Go.Proofs.YthlepdjjdbpmoaaDoorW.PrintLast Go.Proofs.YthlepdjjdbpmoaaDoorW.PrintMore
attribute [local go_sem] max2_int min2_int max_two min_two max_three min_three max_four min_four
set_option linter.unusedVariables false
set_option linter.unusedSimpArgs false
set_option maxRecDepth 100000
set_option maxHeartbeats 4000000
def Cv (p : Gr) (ss : List ByteArray) : Prop := (p = .and ∧ ss = [wOr]) ∨ (p = .not ∧ ss = [wAnd]) ∨ (p = .prod ∧ ss = [wPlus, wMinus]) ∨ (p = .atom ∧ ss = [wStar])
theorem Cv.link {l : List S142} {p : Gr} {ss : List ByteArray} (h : Cv p ss) {i d e : Int} {r0 r : Re} (a : Ans l (.f p) i d e r0) (k : Ans l (.ch p ss r0.x) r0.i r0.d r0.e r) : Ans l (.f (dn p)) i d e r := by
  rcases h with ⟨rfl, rfl⟩ | ⟨rfl, rfl⟩ | ⟨rfl, rfl⟩ | ⟨rfl, rfl⟩
  · exact ans_link (p := .or) (fun k i d e => by rw [pr]) a k
  · exact ans_link (p := .and) (fun k i d e => by rw [pr]) a k
  · exact ans_link (p := .sum) (fun k i d e => by rw [pr]) a k
  · exact ans_link (p := .prod) (fun k i d e => by rw [pr]) a k
theorem Cv.lv2 {p : Gr} {ss : List ByteArray} (h : Cv p ss) : 2 ≤ lv p ∧ lv p ≠ 4 ∧ lv p ≠ 5 := by
  rcases h with ⟨rfl, rfl⟩ | ⟨rfl, rfl⟩ | ⟨rfl, rfl⟩ | ⟨rfl, rfl⟩ <;> decide
theorem Cv.same {p : Gr} {ss tt : List ByteArray} (h : Cv p ss) (k : Cv p tt) : ss = tt := by
  rcases h with ⟨rfl, rfl⟩ | ⟨rfl, rfl⟩ | ⟨rfl, rfl⟩ | ⟨rfl, rfl⟩ <;> rcases k with ⟨q, rfl⟩ | ⟨q, rfl⟩ | ⟨q, rfl⟩ | ⟨q, rfl⟩ <;> first | rfl | cases q
def Cn (l : List S142) (x : S26) (ts : List TK) (m : Nat) : Prop := ∀ (p : Gr) (ss : List ByteArray) (i : Nat) (d : Int) (r : Re), Cv p ss → Mt l i (atT ts (levP x.f0) (lv p - 1)) → 0 ≤ d → d + (atD m (levP x.f0) (lv p - 1) : Int) ≤ 50 → NC l (i + (atT ts (levP x.f0) (lv p - 1)).length) (lv p) → Ans l (.ch p ss x) ((i + (atT ts (levP x.f0) (lv p - 1)).length : Nat) : Int) d 0 r → Ans l (.f (dn p)) (i : Int) d 0 r
theorem at_same (ts : List TK) (m : Nat) (a n : Int) (h : a ≠ n - 1) : atT ts a (n - 1) = atT ts a n ∧ atD m a (n - 1) = atD m a n := by
  unfold atT atD
  by_cases c : a < n - 1
  · rw [if_pos c, if_pos (show a < n by omega), if_pos c, if_pos (show a < n by omega)]
    exact ⟨rfl, rfl⟩
  · rw [if_neg c, if_neg (show ¬ a < n by omega), if_neg c, if_neg (show ¬ a < n by omega)]
    exact ⟨rfl, rfl⟩
theorem cn_of {l : List S142} {x : S26} {ts : List TK} {m : Nat} (hM : Mn l x ts m) {p : Gr} {ss : List ByteArray} {i : Nat} {d : Int} {r : Re} (hv : Cv p ss) (hn : levP x.f0 ≠ lv p - 1) (ht : Mt l i (atT ts (levP x.f0) (lv p - 1))) (h0 : 0 ≤ d) (hm : d + (atD m (levP x.f0) (lv p - 1) : Int) ≤ 50) (hc : NC l (i + (atT ts (levP x.f0) (lv p - 1)).length) (lv p)) (ha : Ans l (.ch p ss x) ((i + (atT ts (levP x.f0) (lv p - 1)).length : Nat) : Int) d 0 r) : Ans l (.f (dn p)) (i : Int) d 0 r := by
  obtain ⟨e1, e2⟩ := at_same ts m (levP x.f0) (lv p) hn
  rw [e1] at ht hc ha
  rw [e2] at hm
  exact hv.link (hM p i d ht h0 hm hc) ha
theorem op_info (o : Int) (h7 : 7 ≤ o) (h11 : o ≤ 11) : ∃ p ss s, Cv p ss ∧ lv p - 1 = levP o ∧ lefP o = lv p - 1 ∧ rigP o = lv p ∧ opP s = o ∧ NK (opT o) (lv p) ∧ ss.find? (fun z => isK (opT o) z) = some s := by
  have nk : ∀ o : Int, ∀ L : Int, (L ≤ 1 → isK (opT o) wOr = false) → (L ≤ 2 → isK (opT o) wAnd = false) → (L ≤ 4 → (∀ s ∈ six, isK (opT o) s = false) ∧ isK (opT o) wIs = false) → (L ≤ 5 → isK (opT o) wPlus = false ∧ isK (opT o) wMinus = false) → (L ≤ 6 → isK (opT o) wStar = false) → isK (opT o) ⟨#[46]⟩ = false → NK (opT o) L := fun o L a b c d e f => ⟨a, b, c, d, e, f⟩
  have s6 : ∀ o : Int, (six.all fun s => !isK (opT o) s) = true → ∀ s ∈ six, isK (opT o) s = false := fun o h s hs => by
    have := List.all_eq_true.1 h s hs
    simpa using this
  have ho : o = 7 ∨ o = 8 ∨ o = 9 ∨ o = 10 ∨ o = 11 := by omega
  rcases ho with h | h | h | h | h <;> subst h
  · exact ⟨.prod, [wPlus, wMinus], wPlus, .inr (.inr (.inl ⟨rfl, rfl⟩)), by decide, by decide, by decide, by decide +kernel, nk _ _ (fun q => absurd q (by decide)) (fun q => absurd q (by decide)) (fun q => absurd q (by decide)) (fun q => absurd q (by decide)) (fun _ => by decide +kernel) (by decide +kernel), by decide +kernel⟩
  · exact ⟨.prod, [wPlus, wMinus], wMinus, .inr (.inr (.inl ⟨rfl, rfl⟩)), by decide, by decide, by decide, by decide +kernel, nk _ _ (fun q => absurd q (by decide)) (fun q => absurd q (by decide)) (fun q => absurd q (by decide)) (fun q => absurd q (by decide)) (fun _ => by decide +kernel) (by decide +kernel), by decide +kernel⟩
  · exact ⟨.atom, [wStar], wStar, .inr (.inr (.inr ⟨rfl, rfl⟩)), by decide, by decide, by decide, by decide +kernel, nk _ _ (fun q => absurd q (by decide)) (fun q => absurd q (by decide)) (fun q => absurd q (by decide)) (fun q => absurd q (by decide)) (fun q => absurd q (by decide)) (by decide +kernel), by decide +kernel⟩
  · exact ⟨.not, [wAnd], wAnd, .inr (.inl ⟨rfl, rfl⟩), by decide, by decide, by decide, by decide +kernel, nk _ _ (fun q => absurd q (by decide)) (fun q => absurd q (by decide)) (fun _ => ⟨s6 10 (by decide +kernel), by decide +kernel⟩) (fun _ => ⟨by decide +kernel, by decide +kernel⟩) (fun _ => by decide +kernel) (by decide +kernel), by decide +kernel⟩
  · exact ⟨.and, [wOr], wOr, .inl ⟨rfl, rfl⟩, by decide, by decide, by decide, by decide +kernel, nk _ _ (fun q => absurd q (by decide)) (fun _ => by decide +kernel) (fun _ => ⟨s6 11 (by decide +kernel), by decide +kernel⟩) (fun _ => ⟨by decide +kernel, by decide +kernel⟩) (fun _ => by decide +kernel) (by decide +kernel), by decide +kernel⟩
theorem cmp_info (o : Int) (h1 : 1 ≤ o) (h6 : o ≤ 6) : ∃ s, opP s = o ∧ NK (opT o) 5 ∧ six.find? (fun z => isK (opT o) z) = some s := by
  have ho : o = 1 ∨ o = 2 ∨ o = 3 ∨ o = 4 ∨ o = 5 ∨ o = 6 := by omega
  have nk : ∀ o : Int, isK (opT o) wPlus = false ∧ isK (opT o) wMinus = false → isK (opT o) wStar = false → isK (opT o) ⟨#[46]⟩ = false → NK (opT o) 5 := fun o d e f => ⟨fun q => absurd q (by decide), fun q => absurd q (by decide), fun q => absurd q (by decide), fun _ => d, fun _ => e, f⟩
  rcases ho with h | h | h | h | h | h <;> subst h
  · exact ⟨⟨#[61]⟩, by decide +kernel, nk _ ⟨by decide +kernel, by decide +kernel⟩ (by decide +kernel) (by decide +kernel), by decide +kernel⟩
  · exact ⟨⟨#[60, 62]⟩, by decide +kernel, nk _ ⟨by decide +kernel, by decide +kernel⟩ (by decide +kernel) (by decide +kernel), by decide +kernel⟩
  · exact ⟨⟨#[60]⟩, by decide +kernel, nk _ ⟨by decide +kernel, by decide +kernel⟩ (by decide +kernel) (by decide +kernel), by decide +kernel⟩
  · exact ⟨⟨#[60, 61]⟩, by decide +kernel, nk _ ⟨by decide +kernel, by decide +kernel⟩ (by decide +kernel) (by decide +kernel), by decide +kernel⟩
  · exact ⟨⟨#[62]⟩, by decide +kernel, nk _ ⟨by decide +kernel, by decide +kernel⟩ (by decide +kernel) (by decide +kernel), by decide +kernel⟩
  · exact ⟨⟨#[62, 61]⟩, by decide +kernel, nk _ ⟨by decide +kernel, by decide +kernel⟩ (by decide +kernel) (by decide +kernel), by decide +kernel⟩
theorem find_ky {l : List S142} {i : Nat} {t : TK} {b : List TK} (h : Mt l i (t :: b)) (ss : List ByteArray) : ss.find? (fun s => isP l (i : Int) 0 s) = ss.find? (fun z => isK t z) := by
  congr 1
  funext s
  exact h.isP s
theorem ch_more {l : List S142} {p : Gr} {ss : List ByteArray} {s : ByteArray} {x y : S26} {j j2 : Nat} {d : Int} {r : Re} (hf : ss.find? (fun s => isP l (j : Int) 0 s) = some s) (hy : Ans l (.f p) ((j + 1 : Nat) : Int) d 0 (Rx j2 d y)) (hr : Ans l (.ch p ss (ofP (opP s) [x, y])) (j2 : Int) d 0 r) : Ans l (.ch p ss x) (j : Int) d 0 r := by
  obtain ⟨k1, h1⟩ := hy
  obtain ⟨k2, h2⟩ := hr
  refine ⟨k1 + k2 + 1, ?_⟩
  rw [pr, if_pos rfl, hf]
  have e : ((j : Int) + 1) = ((j + 1 : Nat) : Int) := by omega
  show ((pr l (k1 + k2) (.f p) ((j : Int) + 1) d 0).bind _) = _
  rw [e, pr_le h1 (show k1 ≤ k1 + k2 by omega), Option.bind_some]
  exact pr_le h2 (by omega)
theorem leaf_dir {l : List S142} {x : S26} {ts : List TK} {m : Nat} (h7 : levP x.f0 = 7) (h : ∀ (i : Nat) (d : Int), Mt l i ts → 0 ≤ d → d + (m : Int) ≤ 50 → NC l (i + ts.length) 7 → Ans l (.f .atom) (i : Int) d 0 (Rx (i + ts.length) d x)) : Dir l x ts m := by
  intro q i d hq ht h0 hm hc
  have : q = .atom := lv_inj q .atom (by rw [hq, h7]; rfl)
  subst this
  exact h i d ht h0 hm hc
theorem txP_ok (l : List UInt8) (h : l.length ≤ 65536) : txP ⟨l.toArray⟩ = valP 2 0 ⟨l.toArray⟩ := by
  unfold txP
  have e : (⟨l.toArray⟩ : ByteArray).size = l.length := by show l.toArray.size = _; simp
  rw [e, if_neg (by omega)]
end Go.Proofs.YthlepdjjdbpmoaaDoor.PPrintExprs
namespace Go.Proofs.YthlepdjjdbpmoaaDoor.PPrintExprs
open Go.RowKit Go.Proofs.YthlepdjjdbpmoaaDoorW.PrintWords Go.Proofs.YthlepdjjdbpmoaaDoorW.PrintLast Go.Proofs.YthlepdjjdbpmoaaDoorW.PrintMore
attribute [local go_sem] max2_int min2_int max_two min_two max_three min_three max_four min_four
set_option linter.unusedVariables false
set_option linter.unusedSimpArgs false
set_option maxRecDepth 100000
set_option maxHeartbeats 4000000
theorem nm_at {l : List S142} {i : Nat} {w : ByteArray} {r : List TK} (h : Mt l i (((1, w, 0) : TK) :: r)) : nmI l (i : Int) 0 = ((i + 1 : Nat) : Int) ∧ nmE l (i : Int) 0 = 0 ∧ nmS l (i : Int) 0 = w := by
  have e := h.tok
  have e0 : (tokP l (i : Int) 0).f0 = 1 := ky_f0 e
  have e1 : (tokP l (i : Int) 0).f1 = w := by
    have := congrArg (fun z : TK => z.2.1) e
    exact this
  unfold nmI nmE nmS
  rw [e0, if_pos rfl, if_pos rfl, if_pos rfl, e1]
  exact ⟨by omega, rfl, rfl⟩
theorem back {x : S26} {b : List UInt8} {ts : List TK} {m : Nat} (h : Pd x b ts m) (l : List S142) : Dir l x ts m ∧ Cn l x ts m := by
  have noch : ∀ {x : S26} {b : List UInt8} {ts : List TK} {m : Nat}, Pd x b ts m → Dir l x ts m → (levP x.f0 = 3 ∨ levP x.f0 = 4 ∨ levP x.f0 = 7) → Dir l x ts m ∧ Cn l x ts m := by
    intro x b ts m hp hD hl
    refine ⟨hD, fun p ss i d r hv ht h0 hm hc ha => ?_⟩
    have := hv.lv2
    have h7 := lv_le p
    exact cn_of (mn_of hD hp.first) hv (by omega) ht h0 hm hc ha
  induction h with
  | null =>
    refine noch Pd.null (leaf_dir rfl fun i d ht h0 hm hc => ⟨1, ?_⟩) (.inr (.inr rfl))
    have e0 : (tokP l (i : Int) 0).f0 = 2 := ky_f0 ht.tok
    have en : isP l (i : Int) 0 wNull = true := by rw [ht.isP]; decide +kernel
    rw [pr, e0, if_neg (by decide), if_neg (by decide), en, if_pos rfl]
    show some (⟨(i : Int) + 1, d, 0, _⟩ : Re) = some ⟨((i + 1 : Nat) : Int), d, 0, _⟩
    rw [show (i : Int) + 1 = ((i + 1 : Nat) : Int) by omega]
  | int l' h0' hl hm' hi =>
    refine noch (Pd.int l' h0' hl hm' hi) (leaf_dir rfl fun i d ht h0 hm hc => ⟨1, ?_⟩) (.inr (.inr rfl))
    have e0 : (tokP l (i : Int) 0).f0 = 3 := ky_f0 ht.tok
    have e2 : (tokP l (i : Int) 0).f2 = dvl l' 0 := congrArg (fun z : TK => z.2.2) ht.tok
    rw [pr, e0, if_pos rfl, e2]
    show some (⟨(i : Int) + 1, d, 0, _⟩ : Re) = some ⟨((i + 1 : Nat) : Int), d, 0, _⟩
    rw [show (i : Int) + 1 = ((i + 1 : Nat) : Int) by omega]
  | text l' hl =>
    refine noch (Pd.text l' hl) (leaf_dir rfl fun i d ht h0 hm hc => ⟨1, ?_⟩) (.inr (.inr rfl))
    have e0 : (tokP l (i : Int) 0).f0 = 4 := ky_f0 ht.tok
    have e1 : (tokP l (i : Int) 0).f1 = ⟨l'.toArray⟩ := congrArg (fun z : TK => z.2.1) ht.tok
    rw [pr, e0, if_neg (by decide), if_pos rfl, e1, txP_ok l' hl]
    show some (⟨(i : Int) + 1, d, 0, _⟩ : Re) = some ⟨((i + 1 : Nat) : Int), d, 0, _⟩
    rw [show (i : Int) + 1 = ((i + 1 : Nat) : Int) by omega]
  | name w hw hr =>
    refine noch (Pd.name w hw hr) (leaf_dir rfl fun i d ht h0 hm hc => ⟨1, ?_⟩) (.inr (.inr rfl))
    have e0 : (tokP l (i : Int) 0).f0 = 1 := ky_f0 ht.tok
    have en : ∀ s, isP l (i : Int) 0 s = false := fun s => by rw [ht.isP]; exact isK_other (show (1 : Int) ≠ 2 by decide) (show (1 : Int) ≠ 5 by decide)
    obtain ⟨n1, n2, n3⟩ := nm_at ht
    have nd : isP l ((i + 1 : Nat) : Int) 0 ⟨#[46]⟩ = false := by rw [isP_ky]; exact hc.2.2.2.2.2
    rw [pr, e0, if_neg (by decide), if_neg (by decide), en, if_neg (by decide), en, if_neg (by decide)]
    unfold coI coE coX
    rw [n1, n2, n3, nd, if_neg (by decide), if_neg (by decide), if_neg (by decide)]
    rfl
  | dot v w hv hr hw hs =>
    refine noch (Pd.dot v w hv hr hw hs) (leaf_dir rfl fun i d ht h0 hm hc => ⟨1, ?_⟩) (.inr (.inr rfl))
    have e0 : (tokP l (i : Int) 0).f0 = 1 := ky_f0 ht.tok
    have en : ∀ s, isP l (i : Int) 0 s = false := fun s => by rw [ht.isP]; exact isK_other (show (1 : Int) ≠ 2 by decide) (show (1 : Int) ≠ 5 by decide)
    obtain ⟨n1, n2, n3⟩ := nm_at ht
    have nd : isP l ((i + 1 : Nat) : Int) 0 ⟨#[46]⟩ = true := by rw [ht.tail.isP]; decide +kernel
    obtain ⟨o1, o2, o3⟩ := nm_at ht.tail.tail
    have ei : ((i + 1 : Nat) : Int) + 1 = ((i + 1 + 1 : Nat) : Int) := by omega
    rw [pr, e0, if_neg (by decide), if_neg (by decide), en, if_neg (by decide), en, if_neg (by decide)]
    unfold coI coE coX
    rw [n1, n2, n3, nd, if_pos rfl, if_pos rfl, if_pos rfl, ei, o1, o2, o3]
    rfl
  | not x b ts m h ih =>
    have M := mn_of ih.1 h.first
    refine noch (Pd.not x b ts m h) ?_ (.inl rfl)
    intro q i d hq ht h0 hm hc
    have : q = .not := lv_inj q .not hq
    subst this
    have e3 : lv .not = 3 := rfl
    have ew : isP l (i : Int) 0 wNot = true := by rw [ht.isP]; decide +kernel
    have hL : i + (tNot :: atT ts (levP x.f0) 3).length = i + 1 + (atT ts (levP x.f0) 3).length := by rw [List.length_cons]; omega
    rw [hL] at hc ⊢
    obtain ⟨k, hk⟩ := M .not (i + 1) (d + 1) ht.tail (by omega) (by rw [e3]; omega) hc
    rw [e3] at hk
    refine ⟨k + 1, ?_⟩
    have ei : isI l (i : Int) 0 wNot = ((i + 1 : Nat) : Int) := by
      unfold isI
      rw [ew, if_pos rfl]
      omega
    rw [pr, ew, if_pos rfl, if_pos ⟨h0, by omega⟩, dnE_0 (by omega), ei, hk, Option.bind_some, if_pos (show 0 ≤ (Rx (i + 1 + (atT ts (levP x.f0) 3).length) (d + 1) x).d ∧ (Rx (i + 1 + (atT ts (levP x.f0) 3).length) (d + 1) x).d ≤ 200 from ⟨by show 0 ≤ d + 1; omega, by show d + 1 ≤ 200; omega⟩)]
    show some (⟨_, d + 1 - 1, 0, _⟩ : Re) = some ⟨_, d, 0, _⟩
    rw [show d + 1 - 1 = d by omega]
    rfl
  | isn x b ts m h ih =>
    have M := mn_of ih.1 h.first
    refine noch (Pd.isn x b ts m h) ?_ (.inr (.inl rfl))
    intro q i d hq ht h0 hm hc
    have : q = .test := lv_inj q .test hq
    subst this
    have e5 : lv .sum = 5 := rfl
    have ht2 := ht.right
    have nk : NK tIs 5 := ⟨fun q => absurd q (by decide), fun q => absurd q (by decide), fun q => absurd q (by decide), fun _ => ⟨by decide +kernel, by decide +kernel⟩, fun _ => by decide +kernel, by decide +kernel⟩
    obtain ⟨k, hk⟩ := M .sum i d ht.left h0 hm (ht2.nc nk)
    rw [e5] at hk
    refine ⟨k + 1, ?_⟩
    have n6 : six.find? (fun s => isP l (Rx (i + (atT ts (levP x.f0) 5).length) d x).i (Rx (i + (atT ts (levP x.f0) 5).length) d x).e s) = none := (find_ky ht2 six).trans (by decide +kernel)
    have w1 : isP l (Rx (i + (atT ts (levP x.f0) 5).length) d x).i (Rx (i + (atT ts (levP x.f0) 5).length) d x).e wIs = true := (ht2.isP _).trans (by decide +kernel)
    have ej : (Rx (i + (atT ts (levP x.f0) 5).length) d x).i + 1 = ((i + (atT ts (levP x.f0) 5).length + 1 : Nat) : Int) := by show ((i + (atT ts (levP x.f0) 5).length : Nat) : Int) + 1 = _; omega
    have w2 : isP l ((i + (atT ts (levP x.f0) 5).length + 1 : Nat) : Int) 0 wNot = false := (ht2.tail.isP _).trans (by decide +kernel)
    have w3 : isP l ((i + (atT ts (levP x.f0) 5).length + 1 : Nat) : Int) 0 wNull = true := (ht2.tail.isP _).trans (by decide +kernel)
    have ee : (Rx (i + (atT ts (levP x.f0) 5).length) d x).e = 0 := rfl
    rw [pr, hk, Option.bind_some, n6]
    show some (tst l _) = _
    unfold tst
    rw [w1, if_pos rfl, ej, ee, w2, if_neg (by decide)]
    unfold muI muE
    rw [w3, if_pos rfl, if_pos rfl]
    show some (⟨((i + (atT ts (levP x.f0) 5).length + 1 : Nat) : Int) + 1, d, 0, _⟩ : Re) = some ⟨((i + (atT ts (levP x.f0) 5 ++ [tIs, tNull]).length : Nat) : Int), d, 0, _⟩
    rw [show ((i + (atT ts (levP x.f0) 5).length + 1 : Nat) : Int) + 1 = ((i + (atT ts (levP x.f0) 5 ++ [tIs, tNull]).length : Nat) : Int) by rw [List.length_append]; simp only [List.length_cons, List.length_nil]; omega]
    rfl
  | isnn x b ts m h ih =>
    have M := mn_of ih.1 h.first
    refine noch (Pd.isnn x b ts m h) ?_ (.inr (.inl rfl))
    intro q i d hq ht h0 hm hc
    have : q = .test := lv_inj q .test hq
    subst this
    have e5 : lv .sum = 5 := rfl
    have ht2 := ht.right
    have nk : NK tIs 5 := ⟨fun q => absurd q (by decide), fun q => absurd q (by decide), fun q => absurd q (by decide), fun _ => ⟨by decide +kernel, by decide +kernel⟩, fun _ => by decide +kernel, by decide +kernel⟩
    obtain ⟨k, hk⟩ := M .sum i d ht.left h0 hm (ht2.nc nk)
    rw [e5] at hk
    refine ⟨k + 1, ?_⟩
    have n6 : six.find? (fun s => isP l (Rx (i + (atT ts (levP x.f0) 5).length) d x).i (Rx (i + (atT ts (levP x.f0) 5).length) d x).e s) = none := (find_ky ht2 six).trans (by decide +kernel)
    have w1 : isP l (Rx (i + (atT ts (levP x.f0) 5).length) d x).i (Rx (i + (atT ts (levP x.f0) 5).length) d x).e wIs = true := (ht2.isP _).trans (by decide +kernel)
    have ej : (Rx (i + (atT ts (levP x.f0) 5).length) d x).i + 1 = ((i + (atT ts (levP x.f0) 5).length + 1 : Nat) : Int) := by show ((i + (atT ts (levP x.f0) 5).length : Nat) : Int) + 1 = _; omega
    have ej2 : ((i + (atT ts (levP x.f0) 5).length + 1 : Nat) : Int) + 1 = ((i + (atT ts (levP x.f0) 5).length + 1 + 1 : Nat) : Int) := by omega
    have w2 : isP l ((i + (atT ts (levP x.f0) 5).length + 1 : Nat) : Int) 0 wNot = true := (ht2.tail.isP _).trans (by decide +kernel)
    have w3 : isP l ((i + (atT ts (levP x.f0) 5).length + 1 + 1 : Nat) : Int) 0 wNull = true := (ht2.tail.tail.isP _).trans (by decide +kernel)
    have ee : (Rx (i + (atT ts (levP x.f0) 5).length) d x).e = 0 := rfl
    rw [pr, hk, Option.bind_some, n6]
    show some (tst l _) = _
    unfold tst
    rw [w1, if_pos rfl, ej, ee, w2, if_pos rfl, ej2]
    unfold muI muE
    rw [w3, if_pos rfl, if_pos rfl]
    show some (⟨((i + (atT ts (levP x.f0) 5).length + 1 + 1 : Nat) : Int) + 1, d, 0, _⟩ : Re) = some ⟨((i + (atT ts (levP x.f0) 5 ++ [tIs, tNot, tNull]).length : Nat) : Int), d, 0, _⟩
    rw [show ((i + (atT ts (levP x.f0) 5).length + 1 + 1 : Nat) : Int) + 1 = ((i + (atT ts (levP x.f0) 5 ++ [tIs, tNot, tNull]).length : Nat) : Int) by rw [List.length_append]; simp only [List.length_cons, List.length_nil]; omega]
    rfl
  | op o h1 h2 x y b c ts us m n h k ih jh =>
    have Mx := mn_of ih.1 h.first
    have My := mn_of jh.1 k.first
    have P := Pd.op o h1 h2 x y b c ts us m n h k
    by_cases h6 : o ≤ 6
    · obtain ⟨l4, l5, l5'⟩ := six_lev o h1 h6
      obtain ⟨s, hs, nk, hf⟩ := cmp_info o h1 h6
      refine noch P ?_ (.inr (.inl l4))
      intro q i d hq ht h0 hm hc
      have : q = .test := lv_inj q .test (by rw [hq]; exact l4)
      subst this
      rw [l5, l5'] at ht hm hc ⊢
      have e5 : lv .sum = 5 := rfl
      have ht2 := ht.right
      obtain ⟨k1, hk1⟩ := Mx .sum i d ht.left h0 (by rw [e5]; omega) (ht2.nc nk)
      rw [e5] at hk1
      have hL : i + (atT ts (levP x.f0) 5 ++ opT o :: atT us (levP y.f0) 5).length = i + (atT ts (levP x.f0) 5).length + 1 + (atT us (levP y.f0) 5).length := by rw [List.length_append, List.length_cons]; omega
      rw [hL] at hc ⊢
      obtain ⟨k2, hk2⟩ := My .sum (i + (atT ts (levP x.f0) 5).length + 1) d ht2.tail h0 (by rw [e5]; omega) (hc.mono (by decide))
      rw [e5] at hk2
      refine ⟨k1 + k2 + 1, ?_⟩
      have n6 : six.find? (fun s => isP l (Rx (i + (atT ts (levP x.f0) 5).length) d x).i (Rx (i + (atT ts (levP x.f0) 5).length) d x).e s) = some s := (find_ky ht2 six).trans hf
      have ej : (Rx (i + (atT ts (levP x.f0) 5).length) d x).i + 1 = ((i + (atT ts (levP x.f0) 5).length + 1 : Nat) : Int) := by show ((i + (atT ts (levP x.f0) 5).length : Nat) : Int) + 1 = _; omega
      rw [pr, pr_le hk1 (show k1 ≤ k1 + k2 by omega), Option.bind_some, n6]
      show ((pr l (k1 + k2) (.f .sum) ((Rx (i + (atT ts (levP x.f0) 5).length) d x).i + 1) d 0).bind _) = _
      rw [ej, pr_le hk2 (show k2 ≤ k1 + k2 by omega), Option.bind_some, hs]
      rfl
    · obtain ⟨p, ss, s, hv, ol, of, og, os, nk, hf⟩ := op_info o (by omega) h2
      have eo : levP (ofP o [x, y]).f0 = lv p - 1 := ol.symm
      have Cp : ∀ (p' : Gr) (ss' : List ByteArray) (i : Nat) (d : Int) (r : Re), p' = p → Cv p' ss' → Mt l i (atT (atT ts (levP x.f0) (lefP o) ++ (opT o :: atT us (levP y.f0) (rigP o))) (levP (ofP o [x, y]).f0) (lv p' - 1)) → 0 ≤ d → d + (atD (max (atD m (levP x.f0) (lefP o)) (atD n (levP y.f0) (rigP o))) (levP (ofP o [x, y]).f0) (lv p' - 1) : Int) ≤ 50 → NC l (i + (atT (atT ts (levP x.f0) (lefP o) ++ (opT o :: atT us (levP y.f0) (rigP o))) (levP (ofP o [x, y]).f0) (lv p' - 1)).length) (lv p') → Ans l (.ch p' ss' (ofP o [x, y])) ((i + (atT (atT ts (levP x.f0) (lefP o) ++ (opT o :: atT us (levP y.f0) (rigP o))) (levP (ofP o [x, y]).f0) (lv p' - 1)).length : Nat) : Int) d 0 r → Ans l (.f (dn p')) (i : Int) d 0 r := by
          intro p' ss' i d r hp hv' ht h0 hm hc ha
          subst hp
          obtain rfl := hv'.same hv
          rw [of, og] at ht hm hc ha
          have ep : ∀ t : List TK, atT t (levP (ofP o [x, y]).f0) (lv p' - 1) = t := fun t => by unfold atT; rw [eo, if_neg (by omega)]
          have ed : ∀ t : Nat, atD t (levP (ofP o [x, y]).f0) (lv p' - 1) = t := fun t => by unfold atD; rw [eo, if_neg (by omega)]
          rw [ep] at ht hc ha
          rw [ed] at hm
          have hL : i + (atT ts (levP x.f0) (lv p' - 1) ++ opT o :: atT us (levP y.f0) (lv p')).length = i + (atT ts (levP x.f0) (lv p' - 1)).length + 1 + (atT us (levP y.f0) (lv p')).length := by rw [List.length_append, List.length_cons]; omega
          rw [hL] at hc ha
          have ht2 := ht.right
          refine ih.2 p' ss' i d r hv' ht.left h0 (by omega) (ht2.nc nk) ?_
          refine ch_more (s := s) (y := y) (j2 := i + (atT ts (levP x.f0) (lv p' - 1)).length + 1 + (atT us (levP y.f0) (lv p')).length) ((find_ky ht2 ss').trans hf) ?_ (by rw [os]; exact ha)
          exact My p' (i + (atT ts (levP x.f0) (lv p' - 1)).length + 1) d ht2.tail h0 (by omega) hc
      have D : Dir l (ofP o [x, y]) (atT ts (levP x.f0) (lefP o) ++ (opT o :: atT us (levP y.f0) (rigP o))) (max (atD m (levP x.f0) (lefP o)) (atD n (levP y.f0) (rigP o))) := by
       intro q i d hq ht h0 hm hc
       have hq' : q = dn p := lv_inj q (dn p) (by rw [lv_dn p hv.lv2.1, hq, eo])
       have ep : ∀ t : List TK, atT t (levP (ofP o [x, y]).f0) (lv p - 1) = t := fun t => by unfold atT; rw [eo, if_neg (by omega)]
       have ed : ∀ t : Nat, atD t (levP (ofP o [x, y]).f0) (lv p - 1) = t := fun t => by unfold atD; rw [eo, if_neg (by omega)]
       rw [hq, eo] at hc
       rw [hq']
       refine Cp p ss i d _ rfl hv (by rw [ep]; exact ht) h0 (by rw [ed]; exact hm) (by rw [ep]; exact hc.mono (by omega)) ?_
       rw [ep]
       refine ch_stop fun z hz => ?_
       rw [isP_ky]
       obtain ⟨c1, c2, _, c5, c6, _⟩ := hc
       rcases hv with ⟨rfl, rfl⟩ | ⟨rfl, rfl⟩ | ⟨rfl, rfl⟩ | ⟨rfl, rfl⟩
       · rw [List.mem_singleton] at hz; rw [hz]; exact c1 (by decide)
       · rw [List.mem_singleton] at hz; rw [hz]; exact c2 (by decide)
       · rw [List.mem_cons, List.mem_singleton] at hz
         rcases hz with hz | hz
         · rw [hz]; exact (c5 (by decide)).1
         · rw [hz]; exact (c5 (by decide)).2
       · rw [List.mem_singleton] at hz; rw [hz]; exact c6 (by decide)
      refine ⟨D, fun p' ss' i d r hv' ht h0 hm hc ha => ?_⟩
      by_cases hp : p' = p
      · exact Cp p' ss' i d r hp hv' ht h0 hm hc ha
      · exact cn_of (mn_of D P.first) hv' (fun q => hp (lv_inj p' p (by omega))) ht h0 hm hc ha
end Go.Proofs.YthlepdjjdbpmoaaDoor.PPrintExprs
namespace Go.Proofs.YthlepdjjdbpmoaaDoor.PPrintExprs
open Go.RowKit Go.Proofs.YthlepdjjdbpmoaaDoorW.PrintWords Go.Proofs.YthlepdjjdbpmoaaDoorW.PrintLast Go.Proofs.YthlepdjjdbpmoaaDoorW.PrintMore
attribute [local go_sem] max2_int min2_int max_two min_two max_three min_three max_four min_four
set_option linter.unusedVariables false
set_option linter.unusedSimpArgs false
set_option maxRecDepth 100000
set_option maxHeartbeats 4000000
theorem isP_lt {l : List S142} {N : Int} (hz : ∀ j : Int, N ≤ j → (tokP l j 0).f0 = 0) {i e : Int} {s : ByteArray} (h : isP l i e s = true) : i < N := by
  have he := isP_e h
  subst he
  rw [isP_ky] at h
  rcases Int.lt_or_le i N with q | q
  · exact q
  · have := hz i q
    rw [isK_other (t := ky (tokP l i 0)) (by show (tokP l i 0).f0 ≠ 2; omega) (by show (tokP l i 0).f0 ≠ 5; omega)] at h
    cases h
theorem stay {l : List S142} {N : Int} (hz : ∀ j : Int, N ≤ j → (tokP l j 0).f0 = 0) : ∀ k g i d e r, pr l k g i d e = some r → r.e = 0 → i ≤ N → r.i ≤ N
  | 0, _, _, _, _, _, h, _, _ => by cases h
  | k + 1, g, i, d, e, r, h, hr, hi => by
    have ih := stay hz k
    have link : ∀ (q : Gr) (ss : List ByteArray), ((pr l k (.f q) i d e).bind fun r => pr l k (.ch q ss r.x) r.i r.d r.e) = some r → r.i ≤ N := by
      intro q ss h
      obtain ⟨r0, h0, h1⟩ := Option.bind_eq_some_iff.1 h
      have s0 := sticky l k _ _ _ _ _ h1 hr
      exact ih _ _ _ _ _ h1 hr (ih _ _ _ _ _ h0 s0 hi)
    have e0 := sticky l (k + 1) _ _ _ _ _ h hr
    have mu : ∀ j s, muE l j 0 s = 0 → muI l j 0 s ≤ N := by
      intro j s q
      obtain ⟨_, q1, q2⟩ := mu_0 q
      have := isP_lt hz q1
      omega
    cases g with
    | ch p ss x =>
      rw [pr, if_pos e0] at h
      cases hf : ss.find? (fun s => isP l i e s) with
      | none =>
        rw [hf] at h
        obtain rfl := Option.some.inj h
        exact hi
      | some s =>
        rw [hf] at h
        have := isP_lt hz (List.find?_some hf)
        obtain ⟨q, hq, h2⟩ := Option.bind_eq_some_iff.1 h
        have s0 := sticky l k _ _ _ _ _ h2 hr
        exact ih _ _ _ _ _ h2 hr (ih _ _ _ _ _ hq s0 (by omega))
    | f p =>
      cases p with
      | or => exact link .and _ (by rw [pr] at h; exact h)
      | and => exact link .not _ (by rw [pr] at h; exact h)
      | sum => exact link .prod _ (by rw [pr] at h; exact h)
      | prod => exact link .atom _ (by rw [pr] at h; exact h)
      | not =>
        rw [pr] at h
        by_cases c : isP l i e wNot = true
        · rw [if_pos c] at h
          split at h
          · obtain ⟨q, hq, h2⟩ := Option.bind_eq_some_iff.1 h
            split at h2
            · obtain rfl := Option.some.inj h2
              have z := sticky l k _ _ _ _ _ hq hr
              have := isP_lt hz c
              show q.i ≤ N
              exact ih _ _ _ _ q hq hr (by rw [isI_0 c z]; omega)
            · cases h2
          · cases h
        · rw [if_neg c] at h
          exact ih _ _ _ _ _ h hr hi
      | test =>
        rw [pr] at h
        obtain ⟨r0, h0, h1⟩ := Option.bind_eq_some_iff.1 h
        cases hf : six.find? (fun s => isP l r0.i r0.e s) with
        | some s =>
          rw [hf] at h1
          obtain ⟨q, hq, h2⟩ := Option.bind_eq_some_iff.1 h1
          obtain rfl := Option.some.inj h2
          have := isP_lt hz (List.find?_some hf)
          show q.i ≤ N
          exact ih _ _ _ _ q hq hr (by omega)
        | none =>
          rw [hf] at h1
          obtain rfl := Option.some.inj h1
          unfold tst at hr ⊢
          by_cases c : isP l r0.i r0.e wIs = true
          · rw [if_pos c] at hr ⊢
            have z := isP_e c
            rw [z] at hr ⊢
            by_cases cn : isP l (r0.i + 1) 0 wNot = true
            · rw [if_pos cn] at hr ⊢
              exact mu _ _ hr
            · rw [if_neg cn] at hr ⊢
              exact mu _ _ hr
          · rw [if_neg c] at hr ⊢
            exact ih _ _ _ _ _ h0 hr hi
      | atom =>
        subst e0
        have lt : (tokP l i 0).f0 ≠ 0 → i < N := fun q => by
          rcases Int.lt_or_le i N with z | z
          · exact z
          · exact absurd (hz i z) q
        rw [pr] at h
        by_cases c3 : (tokP l i 0).f0 = 3
        · rw [if_pos c3] at h
          obtain rfl := Option.some.inj h
          have := lt (by omega)
          show i + 1 ≤ N
          omega
        rw [if_neg c3] at h
        by_cases c4 : (tokP l i 0).f0 = 4
        · rw [if_pos c4] at h
          obtain rfl := Option.some.inj h
          have := lt (by omega)
          show i + 1 ≤ N
          omega
        rw [if_neg c4] at h
        by_cases cn : isP l i 0 wNull = true
        · rw [if_pos cn] at h
          obtain rfl := Option.some.inj h
          have := isP_lt hz cn
          show i + 1 ≤ N
          omega
        rw [if_neg cn] at h
        by_cases co : isP l i 0 wOpen = true
        · rw [if_pos co] at h
          split at h
          · obtain ⟨q, hq, h2⟩ := Option.bind_eq_some_iff.1 h
            split at h2
            · obtain rfl := Option.some.inj h2
              have he' : muE l q.i q.e wShut = 0 := hr
              obtain ⟨q0, qs, qi⟩ := mu_0 he'
              have := isP_lt hz qs
              show muI l q.i q.e wShut ≤ N
              omega
            · cases h2
          · cases h
        rw [if_neg co] at h
        obtain rfl := Option.some.inj h
        have nm : ∀ j, nmE l j 0 = 0 → nmI l j 0 ≤ N := by
          intro j q
          unfold nmE at q
          unfold nmI
          by_cases c : (tokP l j 0).f0 = 1
          · rw [if_pos c]
            rcases Int.lt_or_le j N with z | z
            · omega
            · have := hz j z
              omega
          · rw [if_neg c] at q
            exact (fl_0 q).elim
        have hr' : coE l i 0 = 0 := hr
        show coI l i 0 ≤ N
        unfold coE at hr'
        unfold coI
        by_cases c : isP l (nmI l i 0) (nmE l i 0) ⟨#[46]⟩ = true
        · rw [if_pos c] at hr' ⊢
          have z := isP_e c
          rw [z] at hr' ⊢
          exact nm _ hr'
        · rw [if_neg c] at hr' ⊢
          exact nm _ hr'
theorem ba_eta (x : ByteArray) : (⟨x.data.toList.toArray⟩ : ByteArray) = x := by
  apply ByteArray.ext
  exact Array.toArray_toList
theorem nv_rng (s : ByteArray) (d : Nat) : ∀ (i : Nat) (v n : Int), 0 ≤ v → v ≤ 9223372036854775807 → (∀ q, i ≤ q → q < i + d → dgt (bt s (q : Int)) = true) → nv s d i v = some n → 0 ≤ n ∧ n ≤ 9223372036854775807 := by
  induction d with
  | zero =>
    intro i v n h0 h1 _ h
    obtain rfl := Option.some.inj h
    exact ⟨h0, h1⟩
  | succ d ih =>
    intro i v n h0 h1 hd h
    rw [nv_succ] at h
    split at h
    · cases h
    · have g := dgt_range (hd i (Nat.le_refl _) (by omega))
      exact ih (i + 1) _ n (by omega) (by omega) (fun q hq hl => hd q (by omega) (by omega)) h
theorem tokR_good (s : ByteArray) (a : Int) (i : Nat) (hi : i ≤ s.size) : GoodT (mkT (tokR s a i)) := by
  have no : ∀ t : S142, t.f0 ≠ 1 → t.f0 ≠ 3 → GoodT t := fun t h1 h3 => ⟨fun q => absurd q h1, fun q => absurd q h3⟩
  unfold tokR
  by_cases c0 : i = s.size
  · rw [if_pos c0]
    exact no _ (show (0 : Int) ≠ 1 by decide) (show (0 : Int) ≠ 3 by decide)
  rw [if_neg c0]
  by_cases c1 : ltr (bt s (i : Int)) = true
  · rw [if_pos c1]
    unfold nameR
    generalize he : stp nmb s (s.size - i) i = e
    have hge := stp_ge nmb s (s.size - i) i
    have hle := stp_le nmb s (s.size - i) i
    rw [he] at hge hle
    split
    · exact no _ (show (0 : Int) ≠ 1 by decide) (show (0 : Int) ≠ 3 by decide)
    · rename_i c32
      split
      · exact no _ (show (2 : Int) ≠ 1 by decide) (show (2 : Int) ≠ 3 by decide)
      · rename_i cw
        refine ⟨fun _ => ⟨(s.extract i e).data.toList, ?_, ?_, ?_⟩, fun q => absurd q (show ¬ (1 : Int) = 3 by decide)⟩
        · exact (ba_eta _).symm
        · have hb : ∀ j, (hj : j < (s.extract i e).data.toList.length) → ((((s.extract i e).data.toList)[j]'hj).toNat : Int) = bt s ((i + j : Nat) : Int) := by
            intro j hj
            have hj2 : i + j < s.size := by
              simp only [Array.length_toList, ByteArray.data_extract, Array.size_extract] at hj
              have : s.data.size = s.size := rfl
              omega
            rw [bt_get s (i + j) hj2]
            simp only [ByteArray.data_extract, Array.getElem_toList, Array.getElem_extract]
            rfl
          have hlen : (s.extract i e).data.toList.length = e - i := by
            simp only [Array.length_toList, ByteArray.data_extract, Array.size_extract]
            have : s.data.size = s.size := rfl
            omega
          have hie : i < e := by
            obtain ⟨d, hd⟩ : ∃ d, s.size - i = d + 1 := ⟨s.size - i - 1, by omega⟩
            rw [hd, stp_succ] at he
            have : nmb (bt s (i : Int)) = true := by unfold nmb; rw [c1]; rfl
            rw [this, if_pos rfl] at he
            have := stp_ge nmb s d (i + 1)
            omega
          unfold nmB
          rw [Bool.and_eq_true, Bool.and_eq_true]
          refine ⟨⟨?_, ?_⟩, ?_⟩
          · cases q : (s.extract i e).data.toList with
            | nil => rw [q] at hlen; simp at hlen; omega
            | cons b r =>
              have := hb 0 (by rw [hlen]; omega)
              simp only [q, List.getElem_cons_zero, Nat.add_zero] at this
              show ltr (b.toNat : Int) = true
              rw [this]
              exact c1
          · rw [List.all_eq_true]
            intro b hbm
            obtain ⟨j, hj, rfl⟩ := List.getElem_of_mem hbm
            rw [hb j hj]
            have hj' : j < e - i := by rw [hlen] at hj; exact hj
            exact stp_all nmb s (s.size - i) i (i + j) (by omega) (by rw [he]; omega)
          · rw [hlen]
            exact decide_eq_true (by omega)
        · rw [ba_eta]
          simpa using cw
  rw [if_neg c1]
  by_cases c2 : dgt (bt s (i : Int)) = true
  · rw [if_pos c2]
    unfold numR
    cases hn : nv s (stp dgt s (s.size - i) i - i) i 0 with
    | none => exact no _ (show (0 : Int) ≠ 1 by decide) (show (0 : Int) ≠ 3 by decide)
    | some n =>
      unfold numE
      simp only
      split
      · exact no _ (show (0 : Int) ≠ 1 by decide) (show (0 : Int) ≠ 3 by decide)
      · have hge := stp_ge dgt s (s.size - i) i
        have := nv_rng s _ i 0 n (by omega) (by omega) (fun q hq hl => stp_all dgt s (s.size - i) i q hq (by omega)) hn
        exact ⟨fun q => absurd q (show ¬ (3 : Int) = 1 by decide), fun _ => this⟩
  rw [if_neg c2]
  split
  · unfold txR
    split
    · exact no _ (show (4 : Int) ≠ 1 by decide) (show (4 : Int) ≠ 3 by decide)
    · exact no _ (show (0 : Int) ≠ 1 by decide) (show (0 : Int) ≠ 3 by decide)
  · split
    · exact no _ (show (0 : Int) ≠ 1 by decide) (show (0 : Int) ≠ 3 by decide)
    · exact no _ (show (5 : Int) ≠ 1 by decide) (show (5 : Int) ≠ 3 by decide)
theorem oneR_good (s : ByteArray) (a : Int) : GoodT (mkT (oneR s a)) := by
  unfold oneR
  have h1 := clamp_le s a
  have h2 := stp_le blk s (s.size - clamp s a) (clamp s a)
  exact tokR_good s _ _ (by omega)
theorem allR_good (s : ByteArray) (n : Nat) : ∀ (acc : List S142) (a : Int), Good acc → Good (allR s n acc a).1 := by
  induction n with
  | zero => intro acc a _ t ht; cases ht
  | succ n ih =>
    intro acc a h
    have h2 : Good (acc ++ [mkT (oneR s a)]) := by
      intro t ht
      rw [List.mem_append, List.mem_singleton] at ht
      rcases ht with ht | ht
      · exact h t ht
      · rw [ht]; exact oneR_good s a
    rw [allR_succ]
    split
    · split
      · exact h2
      · exact ih _ _ h2
    · intro t ht; cases ht
theorem allR_last (s : ByteArray) (n : Nat) : ∀ (acc : List S142) (a : Int), (allR s n acc a).2 = 0 → ∃ L z, (allR s n acc a).1 = L ++ [z] ∧ z.f0 = 0 := by
  induction n with
  | zero => intro acc a h; exact absurd h (show ¬ (4 : Int) = 0 by decide)
  | succ n ih =>
    intro acc a h
    rw [allR_succ] at h ⊢
    by_cases c : (oneR s a).2.2.2.2.2 = 0
    · rw [if_pos c] at h ⊢
      by_cases d : (oneR s a).1 = 0
      · rw [if_pos d]
        exact ⟨acc, _, rfl, d⟩
      · rw [if_neg d] at h ⊢
        exact ih _ _ h
    · rw [if_neg c] at h
      exact absurd h c
end Go.Proofs.YthlepdjjdbpmoaaDoor.PPrintExprs
namespace Go.Proofs.YthlepdjjdbpmoaaDoor.PPrintExprs
open Go.RowKit Go.Proofs.YthlepdjjdbpmoaaDoorW.PrintWords Go.Proofs.YthlepdjjdbpmoaaDoorW.PrintLast Go.Proofs.YthlepdjjdbpmoaaDoorW.PrintMore
attribute [local go_sem] max2_int min2_int max_two min_two max_three min_three max_four min_four
set_option linter.unusedVariables false
set_option linter.unusedSimpArgs false
set_option maxRecDepth 100000
set_option maxHeartbeats 4000000
def liveS : ByteArray := ⟨#[40, 40, 97, 46, 120, 41, 32, 43, 32, 49, 41, 32, 42, 32, 50]⟩
def liveO : ByteArray := ⟨#[40, 97, 46, 120, 32, 43, 32, 49, 41, 32, 42, 32, 50]⟩
def liveT : List S142 := ((token_All.f 200 liveS).getD ([], 7)).1
theorem liveT_eq : token_All.f 200 liveS = some (liveT, 0) := by
  have h : ((token_All.f 200 liveS).map (·.2)) = some 0 := by decide +kernel
  unfold liveT
  cases q : token_All.f 200 liveS with
  | none => rw [q] at h; exact absurd h (by simp)
  | some p =>
    rw [q] at h
    obtain ⟨a, b⟩ := p
    simp only [Option.map_some, Option.some.injEq] at h
    rw [h]
    rfl
def liveR : Re := (pr liveT 200 (.f .or) 0 0 0).getD ⟨0, 0, 7, zx27⟩
theorem liveR_eq : pr liveT 200 (.f .or) 0 0 0 = some liveR := by
  have h : (pr liveT 200 (.f .or) 0 0 0).isSome = true := by decide +kernel
  unfold liveR
  cases q : pr liveT 200 (.f .or) 0 0 0 with
  | none => rw [q] at h; exact absurd h (by simp)
  | some p => rfl
theorem live_1 : enE liveT liveR.i liveR.e = 0 := by decide +kernel
theorem live_p : prE 10 liveR.x = some liveO := by decide +kernel
theorem live_6 : liveT.length ≤ 1000000 := by decide +kernel
theorem own_w {w w1 w2 w3 : World} {g5 vc : Nat} {vA : Option Addr} {x : S26} {o0 o1 o2 o3 o4 o5 o6 o7 o8 : Value} (b1 : Below w.heap.size w w1) (t1 : Tr w1 (fun k => w.heap.size ≤ k) x vA vc) (hg : w1.heap.size ≤ g5) (l2 : Below w1.heap.size w1 w2) (b5 : w2.heap[g5]? = some (.cells #[o0, o1, o2, o3, o4, o5, o6, o7, o8] 26 (0, 0)))
    (hd : Drawn0 (((((((((w2.setCell ⟨g5, 0, none⟩ (.int .i64 x.f0)).setCell ⟨g5, 1, none⟩ (.string x.f1)).setCell ⟨g5, 2, none⟩ (.string x.f2)).setCell ⟨g5, 3, none⟩ (.int .i64 x.f3)).setCell ⟨g5, 4, none⟩ (.int .i64 x.f4)).setCell ⟨g5, 5, none⟩ (.int .i64 x.f5.f0)).setCell ⟨g5, 6, none⟩ (.int .i64 x.f5.f1)).setCell ⟨g5, 7, none⟩ (.string x.f5.f2)).setCell ⟨g5, 8, none⟩ (.slice vA x.f6.length vc)) w3) : w3.heap[g5]? = some (.cells (cl27 x vA vc) 26 (0, 0)) ∧ Tr w3 (fun q => w.heap.size ≤ q ∧ q ≠ g5) x vA vc ∧ Below w.heap.size w w3 := by
  obtain ⟨nd, rfl⟩ := hd
  have h1 := below_size b1
  refine ⟨blk_drewN (put9_ b5) nd, ?_, pw_below_drewN ((b1.trans (l2.mono h1)).trans (chg9_.1.mono (by omega))) nd⟩
  have t2 := (t1.mono fun q hl hq => (⟨hq, by omega⟩ : w.heap.size ≤ q ∧ q ≠ g5)).below l2
  exact (t2.chg chg9_ (fun q => q.2 rfl)).below (pw_below_drewN (Below.refl _ _) nd)
theorem live_any (w : World) (HT : Aside0 (TabOK w)) : Calls Tryd.prog 12 #[] w fun r w' => r = .returned (.bool true) ∧ Below w.heap.size w w' := by
  obtain ⟨x, hx⟩ : ∃ x, x = liveR.x := ⟨_, rfl⟩
  have HE := Lib.hid (expr_ok 200 liveS liveT 0 liveR w live_6 liveT_eq 200 liveR_eq live_1)
  have h2 := live_p
  rw [← hx] at HE h2
  clear hx
  have G2 := Lib.hid h2; clear h2
  have e1 : (liveO.toList == [40, 97, 46, 120, 32, 43, 32, 49, 41, 32, 42, 32, 50]) = true := by decide +kernel
  have GE := Lib.hid e1; clear e1
  go_enter Tryd.func12, Tryd.ntmps12
  go_wp2_with (first
    | ((with_reducible refine gate_callee (f := 21) rfl ?_); refine goesL_ (some 4) rfl rfl Tryd.func21 (by kernel_rfl) rfl #[.string liveS] rfl (by (try simp only [List.map_toArray, List.map_cons, List.map_nil]); first | done | rfl) ?_; refine (HE.out).mono ?_; rintro r' w1 ⟨vA, vc, rfl, t1, b1⟩; refine ⟨_, rfl, ?_⟩; simp only [Act.put, sa_, sz_, ss_]; simp only [exV]; have T1 := Lib.hid t1; have B1 := Lib.hid b1; clear t1 b1)
    | ((with_reducible refine gate_dst (N := 1) rfl ?_); refine box_event ?hg (N := 1) ?hd (cs := #[.int .i64 0, .string (⟨#[]⟩ : ByteArray), .string (⟨#[]⟩ : ByteArray), .int .i64 0, .int .i64 0, .int .i64 0, .int .i64 0, .string (⟨#[]⟩ : ByteArray), .slice none 0 0]) (t := 26) ?hr ?_; (case hd => rfl); (case hg => rfl); (case hr => first | (go_simp; done) | (go_simp; rfl)); intro gb1 hg_ w2 hb_ hl_; have BKgb1 := am_ hb_; have HLgb1 := am_ hl_; have HGgb1 := am_ (Nat.le_of_eq hg_.symm); obtain ⟨zgb1_0, zgb1_1, zgb1_2, zgb1_3, zgb1_4, zgb1_5, zgb1_6, zgb1_7, zgb1_8, ygb1_0, ygb1_1, ygb1_2, ygb1_3, ygb1_4, ygb1_5, ygb1_6, ygb1_7, ygb1_8⟩ := bw9_ hb_; clear hb_ hl_ hg_; simp only [Act.put, sa_, sz_, ss_])
    | ((with_reducible refine gate_callee (f := 22) rfl ?_); refine goesL_ (some 8) rfl rfl Tryd.func22 (by kernel_rfl) rfl #[.int .i64 0] rfl (by (try simp only [List.map_toArray, List.map_cons, List.map_nil]); first | done | rfl) ?_; refine (w10_code.calls 0 0 _ rfl).mono ?_; rintro r' w3 ⟨rfl, hd⟩; refine ⟨_, rfl, ?_⟩; simp only [Act.put, sa_, sz_, ss_]; obtain ⟨k3, t3, b3⟩ := own_w B1.out T1.out HGgb1.out HLgb1.out BKgb1.out hd; clear hd zgb1_0 zgb1_1 zgb1_2 zgb1_3 zgb1_4 zgb1_5 zgb1_6 zgb1_7 zgb1_8 ygb1_0 ygb1_1 ygb1_2 ygb1_3 ygb1_4 ygb1_5 ygb1_6 ygb1_7 ygb1_8; have B3 := Lib.hid b3; have T3 := Lib.hid t3; clear b3 t3; obtain ⟨p0, p1, p2, p3, p4, p5, p6, p7, p8, q0, q1, q2, q3, q4, q5, q6, q7, q8⟩ := bw9_ k3; clear k3 T1 B1)
    | ((with_reducible refine gate_callee (f := 13) rfl ?_); (refine gate_guard (by rfl) ?_; dsimp only); refine goesL_ (some 12) rfl rfl Tryd.func13 (by kernel_rfl) rfl #[.agg #[.int .i64 x.f0, .string x.f1, .string x.f2, .int .i64 x.f3, .int .i64 x.f4, .int .i64 x.f5.f0, .int .i64 x.f5.f1, .string x.f5.f2, .slice vA x.f6.length vc]] rfl (by (try simp only [List.map_toArray, List.map_cons, List.map_nil]); first | done | rfl) ?_; refine (expr_all 10 x vA vc liveO w3 (Kd.F_now T3.out.2) T3.out.1 ⟨TabOK.below HT.out B3.out⟩ G2.out (by decide +kernel)).mono ?_; rintro r' w4 ⟨rfl, b4⟩; refine ⟨_, rfl, ?_⟩; simp only [Act.put, sa_, sz_, ss_]; have B4 := Lib.hid (below_step B3.out b4); have ge := GE.out; clear b4 p0 p1 p2 p3 p4 p5 p6 p7 p8 q0 q1 q2 q3 q4 q5 q6 q7 q8))
  go_ret
  exact ⟨rfl, B4.out⟩
end Go.Proofs.YthlepdjjdbpmoaaDoor.PPrintExprs
namespace Go.Proofs.YthlepdjjdbpmoaaDoor.PPrintExprs
open Go.RowKit Go.Proofs.YthlepdjjdbpmoaaDoorW.PrintWords Go.Proofs.YthlepdjjdbpmoaaDoorW.PrintLast Go.Proofs.YthlepdjjdbpmoaaDoorW.PrintMore
attribute [local go_sem] max2_int min2_int max_two min_two max_three min_three max_four min_four
set_option linter.unusedVariables false
set_option linter.unusedSimpArgs false
set_option maxRecDepth 100000
set_option maxHeartbeats 4000000
theorem law_big (s : ByteArray) (hs : 3000 < (s.size : Int)) (w : World) (HT : Aside0 (TabOK w)) : Calls Tryd.prog 4 #[.string s] w fun r w' => r = .returned (.bool true) ∧ Below w.heap.size w w' := by
  have h1 : decide ((s.size : Int) > 3000) = true := decide_eq_true hs
  have HL := Lib.hid (live_any w HT); clear hs
  go_enter Tryd.func4, Tryd.ntmps4
  go_wp2_with (first
    | ((with_reducible refine gate_callee (f := 12) rfl ?_); refine goesL_ (some 10) rfl rfl Tryd.func12 (by kernel_rfl) rfl #[] rfl (by (try simp only [List.map_toArray, List.map_cons, List.map_nil]); first | done | rfl) ?_; refine (HL.out).mono ?_; rintro r' w1 ⟨rfl, b1⟩; refine ⟨_, rfl, ?_⟩; simp only [Act.put, sa_, sz_, ss_]; have B1 := Lib.hid b1; clear b1))
  go_ret
  exact ⟨rfl, B1.out⟩
theorem law_no (s : ByteArray) (hs : ¬ 3000 < (s.size : Int)) (x : S26) (e1 : Int) (he : e1 ≠ 0) (hE : ∀ w, Calls Tryd.prog 21 #[.string s] w (Ends w x e1)) (w : World) (HT : Aside0 (TabOK w)) : Calls Tryd.prog 4 #[.string s] w fun r w' => r = .returned (.bool true) ∧ Below w.heap.size w w' := by
  have h1 : decide ((s.size : Int) > 3000) = false := decide_eq_false hs
  have h2 : (e1 != 0) = true := bne_iff_ne.2 he
  have HE := Lib.hid hE; clear hs hE he
  go_enter Tryd.func4, Tryd.ntmps4
  go_wp2_with (first
    | ((with_reducible refine gate_callee (f := 21) rfl ?_); refine goesL_ (some 13) rfl rfl Tryd.func21 (by kernel_rfl) rfl #[.string s] rfl (by (try simp only [List.map_toArray, List.map_cons, List.map_nil]); first | done | rfl) ?_; refine (HE.out _).mono ?_; rintro r' w1 ⟨vA, vc, rfl, t1, b1⟩; refine ⟨_, rfl, ?_⟩; simp only [Act.put, sa_, sz_, ss_]; simp only [exV]; have T1 := Lib.hid t1; have B1 := Lib.hid b1; clear t1 b1)
    | ((with_reducible refine gate_dst (N := 3) rfl ?_); refine box_event ?hg (N := 3) ?hd (cs := #[.int .i64 0, .string (⟨#[]⟩ : ByteArray), .string (⟨#[]⟩ : ByteArray), .int .i64 0, .int .i64 0, .int .i64 0, .int .i64 0, .string (⟨#[]⟩ : ByteArray), .slice none 0 0]) (t := 26) ?hr ?_; (case hd => rfl); (case hg => rfl); (case hr => first | (go_simp; done) | (go_simp; rfl)); intro gb1 hg_ w2 hb_ hl_; have BKgb1 := am_ hb_; have HLgb1 := am_ hl_; have HGgb1 := am_ (Nat.le_of_eq hg_.symm); obtain ⟨zgb1_0, zgb1_1, zgb1_2, zgb1_3, zgb1_4, zgb1_5, zgb1_6, zgb1_7, zgb1_8, ygb1_0, ygb1_1, ygb1_2, ygb1_3, ygb1_4, ygb1_5, ygb1_6, ygb1_7, ygb1_8⟩ := bw9_ hb_; clear hb_ hl_ hg_; simp only [Act.put, sa_, sz_, ss_])
    | ((with_reducible refine gate_callee (f := 22) rfl ?_); refine goesL_ (some 17) rfl rfl Tryd.func22 (by kernel_rfl) rfl #[.int .i64 e1] rfl (by (try simp only [List.map_toArray, List.map_cons, List.map_nil]); first | done | rfl) ?_; refine (w10_code.calls e1 e1 _ rfl).mono ?_; rintro r' w3 ⟨rfl, hd⟩; refine ⟨_, rfl, ?_⟩; simp only [Act.put, sa_, sz_, ss_]; obtain ⟨k3, t3, b3⟩ := own_w B1.out T1.out HGgb1.out HLgb1.out BKgb1.out hd; clear hd zgb1_0 ygb1_0 zgb1_1 ygb1_1 zgb1_2 ygb1_2 zgb1_3 ygb1_3 zgb1_4 ygb1_4 zgb1_5 ygb1_5 zgb1_6 ygb1_6 zgb1_7 ygb1_7 zgb1_8 ygb1_8; have B3 := Lib.hid b3; have T3 := Lib.hid t3; have K3 := Lib.hid k3; clear b3 t3 k3; obtain ⟨p0, p1, p2, p3, p4, p5, p6, p7, p8, q0, q1, q2, q3, q4, q5, q6, q7, q8⟩ := bw9_ K3.out; clear T1 B1)
    | ((with_reducible refine gate_callee (f := 12) rfl ?_); refine goesL_ (some 19) rfl rfl Tryd.func12 (by kernel_rfl) rfl #[] rfl (by (try simp only [List.map_toArray, List.map_cons, List.map_nil]); first | done | rfl) ?_; refine (live_any w3 ⟨TabOK.below HT.out B3.out⟩).mono ?_; rintro r' w4 ⟨rfl, b4⟩; refine ⟨_, rfl, ?_⟩; simp only [Act.put, sa_, sz_, ss_]; have B4 := Lib.hid (below_step B3.out b4); clear b4))
  go_ret
  exact ⟨rfl, B4.out⟩
theorem law_yes (s : ByteArray) (hs : ¬ 3000 < (s.size : Int)) (x : S26) (u : ByteArray) (K K2 : Nat) (hE1 : ∀ w, Calls Tryd.prog 21 #[.string s] w (Ends w x 0)) (hp : prE K x = some u) (hu : u.size ≤ 1000000000000) (hE2 : ∀ w, Calls Tryd.prog 21 #[.string u] w (Ends w x 0))
    (hS : r08_Same.f K2 x.f0 x.f1 x.f2 x.f3 x.f4 x.f5.f0 x.f5.f1 x.f5.f2 x.f6 x.f0 x.f1 x.f2 x.f3 x.f4 x.f5.f0 x.f5.f1 x.f5.f2 x.f6 = some true) (w : World) (HT : Aside0 (TabOK w)) : Calls Tryd.prog 4 #[.string s] w fun r w' => r = .returned (.bool true) ∧ Below w.heap.size w w' := by
  have h1 : decide ((s.size : Int) > 3000) = false := decide_eq_false hs
  have HE1 := Lib.hid hE1; have HE2 := Lib.hid hE2; have HP := Lib.hid (And.intro hp hu); have HS := Lib.hid hS; clear hs hE1 hE2 hp hu hS
  go_enter Tryd.func4, Tryd.ntmps4
  go_wp2_with (first
    | ((with_reducible refine gate_callee (f := 21) rfl ?_); refine goesL_ (some 13) rfl rfl Tryd.func21 (by kernel_rfl) rfl #[.string s] rfl (by (try simp only [List.map_toArray, List.map_cons, List.map_nil]); first | done | rfl) ?_; refine (HE1.out _).mono ?_; rintro r' w1 ⟨vA, vc, rfl, t1, b1⟩; refine ⟨_, rfl, ?_⟩; simp only [Act.put, sa_, sz_, ss_]; simp only [exV]; have T1 := Lib.hid t1; have B1 := Lib.hid b1; clear t1 b1)
    | ((with_reducible refine gate_dst (N := 3) rfl ?_); refine box_event ?hg (N := 3) ?hd (cs := #[.int .i64 0, .string (⟨#[]⟩ : ByteArray), .string (⟨#[]⟩ : ByteArray), .int .i64 0, .int .i64 0, .int .i64 0, .int .i64 0, .string (⟨#[]⟩ : ByteArray), .slice none 0 0]) (t := 26) ?hr ?_; (case hd => rfl); (case hg => rfl); (case hr => first | (go_simp; done) | (go_simp; rfl)); intro gb1 hg_ w2 hb_ hl_; have BKgb1 := am_ hb_; have HLgb1 := am_ hl_; have HGgb1 := am_ (Nat.le_of_eq hg_.symm); obtain ⟨zgb1_0, zgb1_1, zgb1_2, zgb1_3, zgb1_4, zgb1_5, zgb1_6, zgb1_7, zgb1_8, ygb1_0, ygb1_1, ygb1_2, ygb1_3, ygb1_4, ygb1_5, ygb1_6, ygb1_7, ygb1_8⟩ := bw9_ hb_; clear hb_ hl_ hg_; simp only [Act.put, sa_, sz_, ss_])
    | ((with_reducible refine gate_callee (f := 22) rfl ?_); refine goesL_ (some 17) rfl rfl Tryd.func22 (by kernel_rfl) rfl #[.int .i64 0] rfl (by (try simp only [List.map_toArray, List.map_cons, List.map_nil]); first | done | rfl) ?_; refine (w10_code.calls 0 0 _ rfl).mono ?_; rintro r' w3 ⟨rfl, hd⟩; refine ⟨_, rfl, ?_⟩; simp only [Act.put, sa_, sz_, ss_]; obtain ⟨k3, t3, b3⟩ := own_w B1.out T1.out HGgb1.out HLgb1.out BKgb1.out hd; clear hd zgb1_0 ygb1_0 zgb1_1 ygb1_1 zgb1_2 ygb1_2 zgb1_3 ygb1_3 zgb1_4 ygb1_4 zgb1_5 ygb1_5 zgb1_6 ygb1_6 zgb1_7 ygb1_7 zgb1_8 ygb1_8; have B3 := Lib.hid b3; have T3 := Lib.hid t3; have K3 := Lib.hid k3; clear b3 t3 k3; obtain ⟨p0, p1, p2, p3, p4, p5, p6, p7, p8, q0, q1, q2, q3, q4, q5, q6, q7, q8⟩ := bw9_ K3.out; clear T1 B1)
    | ((with_reducible refine gate_callee (f := 13) rfl ?_); refine goesL_ (some 22) rfl rfl Tryd.func13 (by kernel_rfl) rfl #[.agg #[.int .i64 x.f0, .string x.f1, .string x.f2, .int .i64 x.f3, .int .i64 x.f4, .int .i64 x.f5.f0, .int .i64 x.f5.f1, .string x.f5.f2, .slice vA x.f6.length vc]] rfl (by (try simp only [List.map_toArray, List.map_cons, List.map_nil]); first | done | rfl) ?_; refine (expr_all K x vA vc u w3 (Kd.F_now T3.out.2) T3.out.1 ⟨TabOK.below HT.out B3.out⟩ HP.out.1 HP.out.2).mono ?_; rintro r' w4 ⟨rfl, b4⟩; refine ⟨_, rfl, ?_⟩; simp only [Act.put, sa_, sz_, ss_]; have T4 := Lib.hid (T3.out.below b4); have K4 := Lib.hid (blk_below K3.out b4); have B4 := Lib.hid (below_step B3.out b4); clear b4 p0 p1 p2 p3 p4 p5 p6 p7 p8 q0 q1 q2 q3 q4 q5 q6 q7 q8 T3 K3 B3)
    | ((with_reducible refine gate_callee (f := 21) rfl ?_); refine goesL_ (some 23) rfl rfl Tryd.func21 (by kernel_rfl) rfl #[.string u] rfl (by (try simp only [List.map_toArray, List.map_cons, List.map_nil]); first | done | rfl) ?_; refine (HE2.out _).mono ?_; rintro r' w5 ⟨yA, yc, rfl, t5, b5⟩; refine ⟨_, rfl, ?_⟩; simp only [Act.put, sa_, sz_, ss_]; simp only [exV]; have T5 := Lib.hid t5; have B5 := Lib.hid b5; clear t5 b5)
    | ((with_reducible refine gate_dst (N := 5) rfl ?_); refine box_event ?hg (N := 5) ?hd (cs := #[.int .i64 0, .string (⟨#[]⟩ : ByteArray), .string (⟨#[]⟩ : ByteArray), .int .i64 0, .int .i64 0, .int .i64 0, .int .i64 0, .string (⟨#[]⟩ : ByteArray), .slice none 0 0]) (t := 26) ?hr ?_; (case hd => rfl); (case hg => rfl); (case hr => first | (go_simp; done) | (go_simp; rfl)); intro gb2 hg_ w6 hb_ hl_; have BKgb2 := am_ hb_; have HLgb2 := am_ hl_; have HGgb2 := am_ (Nat.le_of_eq hg_.symm); obtain ⟨zgb2_0, zgb2_1, zgb2_2, zgb2_3, zgb2_4, zgb2_5, zgb2_6, zgb2_7, zgb2_8, ygb2_0, ygb2_1, ygb2_2, ygb2_3, ygb2_4, ygb2_5, ygb2_6, ygb2_7, ygb2_8⟩ := bw9_ hb_; clear hb_ hl_ hg_; simp only [Act.put, sa_, sz_, ss_])
    | ((with_reducible refine gate_callee (f := 22) rfl ?_); refine goesL_ (some 27) rfl rfl Tryd.func22 (by kernel_rfl) rfl #[.int .i64 0] rfl (by (try simp only [List.map_toArray, List.map_cons, List.map_nil]); first | done | rfl) ?_; refine (w10_code.calls 0 0 _ rfl).mono ?_; rintro r' w7 ⟨rfl, hd⟩; refine ⟨_, rfl, ?_⟩; simp only [Act.put, sa_, sz_, ss_]; obtain ⟨k7, t7, b7⟩ := own_w B5.out T5.out HGgb2.out HLgb2.out BKgb2.out hd; clear hd zgb2_0 ygb2_0 zgb2_1 ygb2_1 zgb2_2 ygb2_2 zgb2_3 ygb2_3 zgb2_4 ygb2_4 zgb2_5 ygb2_5 zgb2_6 ygb2_6 zgb2_7 ygb2_7 zgb2_8 ygb2_8; have T7 := Lib.hid t7; have K7 := Lib.hid k7; have K8 := Lib.hid (blk_below K4.out b7); have T8 := Lib.hid (T4.out.below b7); have B7 := Lib.hid (below_step B4.out b7); clear b7 t7 k7; obtain ⟨r0, r1, r2, r3, r4, r5, r6, r7, r8, s0, s1, s2, s3, s4, s5, s6, s7, s8⟩ := bw9_ K7.out; obtain ⟨m0, m1, m2, m3, m4, m5, m6, m7, m8, n0, n1, n2, n3, n4, n5, n6, n7, n8⟩ := bw9_ K8.out; clear T5 B5 T4 K4 B4)
    | ((with_reducible refine gate_callee (f := 23) rfl ?_); (refine gate_guard (by rfl) ?_; dsimp only); refine goesL_ (some 32) rfl rfl Tryd.func23 (by kernel_rfl) rfl #[.agg #[.int .i64 x.f0, .string x.f1, .string x.f2, .int .i64 x.f3, .int .i64 x.f4, .int .i64 x.f5.f0, .int .i64 x.f5.f1, .string x.f5.f2, .slice vA x.f6.length vc], .agg #[.int .i64 x.f0, .string x.f1, .string x.f2, .int .i64 x.f3, .int .i64 x.f4, .int .i64 x.f5.f0, .int .i64 x.f5.f1, .string x.f5.f2, .slice yA x.f6.length yc]] rfl (by (try simp only [List.map_toArray, List.map_cons, List.map_nil]); first | done | rfl) ?_; refine (r08_Same.calls K2 x.f0 x.f1 x.f2 x.f3 x.f4 x.f5.f0 x.f5.f1 x.f5.f2 vA vc x.f6 x.f0 x.f1 x.f2 x.f3 x.f4 x.f5.f0 x.f5.f1 x.f5.f2 yA yc x.f6 true w7 (Kd.F_now T8.out.2) T8.out.1 (Kd.F_now T7.out.2) T7.out.1 HS.out).mono ?_; rintro r' w8 ⟨rfl, b8⟩; refine ⟨_, rfl, ?_⟩; simp only [Act.put, sa_, sz_, ss_]; have B8 := Lib.hid (below_step B7.out b8); clear b8 r0 r1 r2 r3 r4 r5 r6 r7 r8 s0 s1 s2 s3 s4 s5 s6 s7 s8 m0 m1 m2 m3 m4 m5 m6 m7 m8 n0 n1 n2 n3 n4 n5 n6 n7 n8 T7 T8 K7 K8 B7)
    | ((with_reducible refine gate_callee (f := 12) rfl ?_); (refine gate_guard (by rfl) ?_; dsimp only); refine goesL_ (some 35) rfl rfl Tryd.func12 (by kernel_rfl) rfl #[] rfl (by (try simp only [List.map_toArray, List.map_cons, List.map_nil]); first | done | rfl) ?_; refine (live_any w8 ⟨TabOK.below HT.out B8.out⟩).mono ?_; rintro r' w9 ⟨rfl, b9⟩; refine ⟨_, rfl, ?_⟩; simp only [Act.put, sa_, sz_, ss_]; have B9 := Lib.hid (below_step B8.out b9); clear b9))
  go_ret
  exact ⟨rfl, B9.out⟩
end Go.Proofs.YthlepdjjdbpmoaaDoor.PPrintExprs
namespace Go.Proofs.YthlepdjjdbpmoaaDoor.PPrintExprs
open Go.RowKit Go.Proofs.YthlepdjjdbpmoaaDoorW.PrintWords Go.Proofs.YthlepdjjdbpmoaaDoorW.PrintLast Go.Proofs.YthlepdjjdbpmoaaDoorW.PrintMore
attribute [local go_sem] max2_int min2_int max_two min_two max_three min_three max_four min_four
set_option linter.unusedVariables false
set_option linter.unusedSimpArgs false
set_option maxRecDepth 100000
set_option maxHeartbeats 4000000
def ok4 (e : Int) : Prop := e = 0 ∨ e = 1 ∨ e = 4
theorem tx_ok (s : ByteArray) (d : Nat) : ∀ (i : Nat) (acc : List Int), ok4 (tx s d i acc).1 := by
  induction d with
  | zero => intro i acc; exact .inr (.inl rfl)
  | succ d ih =>
    intro i acc
    rw [tx_succ]
    split
    · split
      · split
        · exact ih _ _
        · split
          · exact .inr (.inr rfl)
          · exact .inl rfl
      · exact ih _ _
    · exact .inr (.inl rfl)
theorem tok_ok (s : ByteArray) (a : Int) (i : Nat) : ok4 (tokR s a i).2.2.2.2.2 := by
  unfold tokR
  split
  · exact .inl rfl
  split
  · unfold nameR
    split
    · exact .inr (.inl rfl)
    · split <;> exact .inl rfl
  split
  · unfold numR
    cases nv s (stp dgt s (s.size - i) i - i) i 0 with
    | none => exact .inr (.inl rfl)
    | some n =>
      simp only [numE]
      split
      · exact .inr (.inl rfl)
      · exact .inl rfl
  split
  · unfold txR
    split
    · exact .inl rfl
    · exact tx_ok _ _ _ _
  split
  · exact .inr (.inl rfl)
  · exact .inl rfl
theorem all_ok (s : ByteArray) (n : Nat) : ∀ (acc : List S142) (a : Int), ok4 (allR s n acc a).2 := by
  induction n with
  | zero => intro acc a; exact .inr (.inr rfl)
  | succ n ih =>
    intro acc a
    rw [allR_succ]
    split
    · split
      · exact .inl rfl
      · exact ih _ _
    · exact tok_ok _ _ _
def sm (k : Nat) (x : S26) : Option Bool := r08_Same.f k x.f0 x.f1 x.f2 x.f3 x.f4 x.f5.f0 x.f5.f1 x.f5.f2 x.f6 x.f0 x.f1 x.f2 x.f3 x.f4 x.f5.f0 x.f5.f1 x.f5.f2 x.f6
theorem same_of (x : S26) (hn : x.f6.length ≤ 1000000) (K : Nat) (h : ∀ j : Nat, j < x.f6.length → ∀ k, K ≤ k → sm k (rd_T26 x.f6 (j : Int)) = some true) : ∀ k, K + x.f6.length + 3 ≤ k → sm k x = some true := by
  have loop : ∀ (d j k : Nat), x.f6.length - j = d → j ≤ x.f6.length → K + d + 1 ≤ k → r08_Same.l0 k (j : Int) x.f0 x.f1 x.f2 x.f3 x.f4 x.f5.f0 x.f5.f1 x.f5.f2 x.f6 x.f0 x.f1 x.f2 x.f3 x.f4 x.f5.f0 x.f5.f1 x.f5.f2 x.f6 = some true := by
    intro d
    induction d with
    | zero =>
      intro j k hd hj hk
      obtain ⟨k, rfl⟩ : ∃ m, k = m + 1 := ⟨k - 1, by omega⟩
      rw [r08_Same.l0, if_neg (show ¬ (j : Int) < (x.f6.length : Int) by omega)]
    | succ d ih =>
      intro j k hd hj hk
      obtain ⟨k, rfl⟩ : ∃ m, k = m + 1 := ⟨k - 1, by omega⟩
      have hs := h j (by omega) k (by omega)
      unfold sm at hs
      have hw : wrap64 ((j : Int) + 1) = ((j + 1 : Nat) : Int) := by rw [wt64 (by omega) (by omega)]; omega
      rw [r08_Same.l0, if_pos (show (j : Int) < (x.f6.length : Int) by omega), if_pos (show (0 : Int) ≤ (j : Int) by omega), if_pos (show (j : Int) < (x.f6.length : Int) by omega), hs, bs, if_pos rfl, hw]
      exact ih (j + 1) k (by omega) (by omega) (by omega)
  intro k hk
  obtain ⟨k, rfl⟩ : ∃ m, k = m + 2 := ⟨k - 2, by omega⟩
  unfold sm
  rw [r08_Same.f, if_pos rfl, if_pos rfl, if_pos rfl, if_pos rfl, if_pos rfl, beq_self_eq_true, beq_self_eq_true, beq_self_eq_true, if_neg (by decide), bne_self_eq_false, r08_Same.j0, if_neg (by decide)]
  exact loop x.f6.length 0 k (by omega) (by omega) (by omega)
theorem Pd.same {x : S26} {b : List UInt8} {ts : List TK} {m : Nat} (h : Pd x b ts m) : ∃ K, ∀ k, K ≤ k → sm k x = some true := by
  have leaf : ∀ x : S26, x.f6 = [] → ∃ K, ∀ k, K ≤ k → sm k x = some true := fun x e => ⟨_, same_of x (by rw [e]; decide) 0 (fun j hj => by rw [e] at hj; exact absurd hj (Nat.not_lt_zero _))⟩
  have one : ∀ (o : Int) (x : S26), (∃ K, ∀ k, K ≤ k → sm k x = some true) → ∃ K, ∀ k, K ≤ k → sm k (ofP o [x]) = some true := by
    intro o x ⟨K, hK⟩
    refine ⟨_, same_of (ofP o [x]) (by show 1 ≤ 1000000; decide) K (fun j hj k hk => ?_)⟩
    have : j = 0 := by have : j < 1 := hj; omega
    subst this
    exact hK k hk
  induction h with
  | null => exact leaf _ rfl
  | int l h0 hl hm hi => exact leaf _ rfl
  | text l hl => exact leaf _ rfl
  | name w hw hr => exact leaf _ rfl
  | dot v w hv hr hw hs => exact leaf _ rfl
  | not x b ts m h ih => exact one _ _ ih
  | isn x b ts m h ih => exact one _ _ ih
  | isnn x b ts m h ih => exact one _ _ ih
  | op o h1 h2 x y b c ts us m n h k ih jh =>
    obtain ⟨K, hK⟩ := ih
    obtain ⟨J, hJ⟩ := jh
    refine ⟨_, same_of (ofP o [x, y]) (by show 2 ≤ 1000000; decide) (K + J) (fun j hj k hk => ?_)⟩
    have : j < 2 := hj
    have hj2 : j = 0 ∨ j = 1 := by omega
    rcases hj2 with rfl | rfl
    · exact hK k (by omega)
    · exact hJ k (by omega)
theorem exprs_law (s : ByteArray) (w : World) (HT : Aside0 (TabOK w)) : Calls Tryd.prog 4 #[.string s] w fun r w' => r = .returned (.bool true) ∧ Below w.heap.size w w' := by
  by_cases hs : 3000 < (s.size : Int)
  · exact law_big s hs w HT
  have hA : token_All.f (3 * s.size + 1101) s = some (allR s 1000 [] 0) := all_is s (by omega) _ (by omega)
  have hlen := allR_len s 1000 [] 0
  have hgood : Good (allR s 1000 [] 0).1 := allR_good s 1000 [] 0 (fun t ht => by cases ht)
  have hok := all_ok s 1000 [] 0
  have hlast := allR_last s 1000 [] 0
  generalize hl : allR s 1000 [] 0 = a at *
  obtain ⟨l, e0⟩ := a
  simp only [List.length_nil, Nat.zero_add] at hlen hgood hok hlast
  obtain ⟨r, k, hr, hrs⟩ := pr_an l e0 hok
  by_cases he : enE l r.i r.e = 0
  · -- the text is an expression
    have re : r.e = 0 ∧ (tokP l r.i 0).f0 = 0 := by
      unfold enE at he
      split at he
      · omega
      · rename_i c
        exact ⟨he, by
          rw [he] at c
          exact Classical.byContradiction fun q => c ⟨rfl, q⟩⟩
    have z0 := sticky l k _ _ _ _ _ hr re.1
    subst z0
    obtain ⟨_, _, _, b, ts, m, hp, hn, hm⟩ := (img_all hgood k).1 .or 0 0 0 r (by omega) (by omega) hr re.1
    have hge := levP_ge r.x.f0
    have e1 : lv .or = 1 := rfl
    have eT : atT ts (levP r.x.f0) 1 = ts := by unfold atT; rw [if_neg (by omega)]
    have eD : atD m (levP r.x.f0) 1 = m := by unfold atD; rw [if_neg (by omega)]
    rw [e1, eT] at hn
    rw [e1, eD] at hm
    obtain ⟨L0, z, hLz, hz⟩ := hlast rfl
    have hN : ∀ j : Int, ((L0.length : Nat) : Int) ≤ j → (tokP l j 0).f0 = 0 := by
      intro j hj
      unfold tokP
      split
      · rename_i c
        rw [hLz] at c ⊢
        rw [List.length_append] at c
        simp only [List.length_cons, List.length_nil] at c
        have ej : j = ((L0.length : Nat) : Int) := by omega
        subst ej
        unfold rd_T142
        rw [Int.toNat_natCast, List.getD_eq_getElem?_getD, List.getElem?_append_right (Nat.le_refl _), Nat.sub_self]
        exact hz
      · rfl
    have hst := stay hN k _ _ _ _ _ hr re.1 (by omega)
    have hll : l.length = L0.length + 1 := by rw [hLz, List.length_append]; rfl
    have hts : ts.length + 1 ≤ 1000 := by omega
    obtain ⟨K1, hK1⟩ := hp.pr
    obtain ⟨K2, hK2⟩ := hp.same
    have hlen2 := hp.len
    have hsz : (baL b).size = b.length := by show b.toArray.size = _; simp
    have hself := has_self (baL b)
    have eb : (baL b).data.toList = b := by show b.toArray.toList = b; simp
    rw [eb] at hself
    have hrun := hp.lx (baL b) 0 [] (.inl rfl) (by simpa using hself) (.inl (by simp [hsz]))
    simp only [List.length_nil, Nat.add_zero, Nat.zero_add] at hrun
    rw [← hsz] at hrun
    obtain ⟨L, y, hL, hy, hall⟩ := hrun.whole hts
    have hll2 : L.length = ts.length := by rw [← hL, List.length_map]
    have hMt : Mt (L ++ [y]) 0 ts := by
      refine ⟨by rw [List.length_append]; omega, fun q hq hq' => ?_⟩
      rw [List.getElem_append_left (show 0 + q < L.length by omega)]
      have : (L.map ky)[q]? = ts[q]? := by rw [hL]
      rw [List.getElem?_map, List.getElem?_eq_getElem (by omega), List.getElem?_eq_getElem hq] at this
      simp only [Nat.zero_add]
      exact Option.some.inj this
    have hy2 : (tokP (L ++ [y]) ((0 + ts.length : Nat) : Int) 0).f0 = 0 := by
      unfold tokP
      split
      · unfold rd_T142
        rw [Int.toNat_natCast, List.getD_eq_getElem?_getD, List.getElem?_append_right (by omega), show 0 + ts.length - L.length = 0 by omega]
        exact hy
      · rfl
    have hNC : NC (L ++ [y]) (0 + ts.length) 1 := by
      have no : ∀ s, isK (ky (tokP (L ++ [y]) ((0 + ts.length : Nat) : Int) 0)) s = false := fun s => isK_other (by show (tokP (L ++ [y]) ((0 + ts.length : Nat) : Int) 0).f0 ≠ 2; omega) (by show (tokP (L ++ [y]) ((0 + ts.length : Nat) : Int) 0).f0 ≠ 5; omega)
      exact ⟨fun _ => no _, fun _ => no _, fun _ => ⟨fun s _ => no s, no _⟩, fun _ => ⟨no _, no _⟩, fun _ => no _, no _⟩
    have hback := mn_of (back hp (L ++ [y])).1 hp.first .or 0 0 (by rw [e1, eT]; exact hMt) (by omega) (by rw [e1, eD]; omega) (by rw [e1, eT]; exact hNC)
    rw [e1, eT] at hback
    obtain ⟨K3, hK3⟩ := hback
    have hA2 : token_All.f (3 * (baL b).size + 1101) (baL b) = some (L ++ [y], 0) := by rw [← hall]; exact all_is (baL b) (by omega) _ (by omega)
    have en2 : enE (L ++ [y]) (Rx (0 + ts.length) 0 r.x).i (Rx (0 + ts.length) 0 r.x).e = 0 := by
      unfold enE
      split
      · rename_i c
        exact absurd hy2 c.2
      · rfl
    refine law_yes s hs r.x (baL b) K1 K2 (fun w => ?_) (hK1 K1 (Nat.le_refl _)) (by omega) (fun w => ?_) (hK2 K2 (Nat.le_refl _)) w HT
    · exact expr_ok _ s l 0 r w (by omega) hA k hr he
    · exact expr_ok _ (baL b) (L ++ [y]) 0 (Rx (0 + ts.length) 0 r.x) w (by rw [List.length_append]; simp only [List.length_cons, List.length_nil]; omega) hA2 K3 hK3 en2
  · exact law_no s hs zx27 _ he (fun w => expr_err _ s l e0 _ r w (by omega) hA k hr rfl he) w HT
end Go.Proofs.YthlepdjjdbpmoaaDoor.PPrintExprs
namespace Go.Proofs.YthlepdjjdbpmoaaDoor.Open
open Go.RowKit Go.Proofs.YthlepdjjdbpmoaaDoorW.PrintWords
structure Opens {α : Type} (P : Program) (t : TypeId) (K : Kd α) (wf : α → Prop) (n : Nat) : Prop where
  opened : ∀ {H : Type} {enc : TypeId × Value → H} {w : World} {cs : List Value} {x : DataW H × List MemPlace},
    DataW.trod enc P w 0 (fun _ => true) true n t cs = some x → (x.1.weights P t).all (· ≤ reachBytes) = true → ∃ y, K.K w y cs ∧ wf y
theorem opens_string {P : Program} {t : TypeId} (ht : P.underlying t = some .string) (n : Nat) : Opens P t Kd.string (fun s => s.size ≤ 140737488351232) n := by
  refine ⟨?_⟩
  intro H enc w cs x h hs
  obtain ⟨s, rfl, rfl, _⟩ := DataW.trod_string ht h
  refine ⟨s, rfl, ?_⟩
  have := List.all_eq_true.1 hs s.data.toList.length (by simp [DataW.weights])
  have h2 : s.data.toList.length ≤ reachBytes := by simpa using this
  rw [Array.length_toList] at h2
  exact h2
theorem opens_arg {α : Type} {P : Program} {t : TypeId} {K : Kd α} {wf : α → Prop} (h : ∀ n, Opens P t K wf n) {H : Type} {enc : TypeId × Value → H} {w : World} {v : Value} {d : DataW H} {ps : List MemPlace} {ts : List TypeId} {ds : List (DataW H)} {j : Nat}
    (hsz : (DataW.weightsEach P ts ds).all (· ≤ reachBytes) = true) (hj : ts[j]? = some t) (hd : ds[j]? = some d) (hr : DataW.Trod enc P w 0 (fun _ => true) true t v d ps) : ∃ y, K.K w y v.cells.toList ∧ wf y := by
  obtain ⟨n, hn⟩ := hr
  refine (h n).opened hn ?_
  rw [List.all_eq_true]
  intro m hm
  exact List.all_eq_true.1 hsz m (DataW.weights_mem_each hj hd m hm)
end Go.Proofs.YthlepdjjdbpmoaaDoor.Open
