-- Written by wip/pack.py, a program of mine: the texts that this law stands on, as far as it uses them; Lean checks it.
import Derived.Test.YtcfgjaggccnoaaaProg
import Derived.Below
import Derived.Deep.Draws
import Derived.Deep.AppendLies
import Derived.Maps.AppendAt
import Derived.OwnWalk
import Derived.Laws.BytesArg
import Derived.Laws.MakeOwn
import Derived.Laws.OwnMore
import Derived.Deep.OwnRows
import Derived.Tactics
import Derived.Lib.ConvBytes
import Derived.Laws.Slices
import Derived.WalkKit
import Derived.KernelRfl
import Derived.RowKit3
import Derived.Deep.LoopGhost
import Derived.Deep.QuietTactic
import Derived.BigQuiet
import Derived.WideLaws
import Derived.Deep.DeepCutAuto
import Derived.Deep.CutBlock
import Derived.Deep.RegionHeld3
import Derived.Laws.Rows
import Derived.Lib.AppendStr
import Derived.ArgAppend
import Derived.Laws.IdiomCopy
import Derived.RowKit
import Derived.OrdersHeld
import Derived.Laws.BitsLemmas
import Derived.Laws.StructEq
import Derived.Laws.DeepStrings4
import Derived.Laws.RangeAny
import Derived.Laws.RangeString
import Derived.Lib.Hide
import Derived.LoopTactic
import Derived.Lib.SliceRun
import Derived.StillTailTactics
import Derived.Outline
import Derived.Defers
import Derived.IntWalk
import Derived.Test.YtcfgjaggccnoaaaZParseExprs4
namespace Go.Proofs.Ytcfgjaggccnoaaa.PParseSmall
open Go.RowKit Go.Proofs.YtcfgjaggccnoaaaW.PrintWords Go.Proofs.YtcfgjaggccnoaaaW.PrintLast Go.Proofs.YtcfgjaggccnoaaaW.PrintMore
attribute [local go_sem] max2_int min2_int max_two min_two max_three min_three max_four min_four
set_option linter.unusedVariables false
set_option linter.unusedSimpArgs false
set_option maxRecDepth 100000
set_option maxHeartbeats 4000000
theorem r_same_step (x : S27) (hn : x.f6.length ≤ 1000000) (ih : ∀ j : Int, 0 ≤ j → j < x.f6.length → SameOK (rd_T27 x.f6 j)) : SameOK x := by
  intro A B c b w hc hb hA hB
  have IH := Lib.hid ih; have HA := Lib.hid hA; have HB := Lib.hid hB; have HCB := Lib.hid (And.intro hc hb)
  clear ih hA hB hc hb
  have H0 := Lib.hid (RS.start w)
  unfold exV
  go_enter Try.func21, Try.ntmps21
  go_wp2_with (first
    | ((with_reducible refine gate_dst (N := 2) rfl ?_); refine box_event ?hg (N := 2) ?hd (cs := #[.int .i64 x.f0, .string x.f1, .string x.f2, .int .i64 x.f3, .int .i64 x.f4, .int .i64 x.f5.f0, .int .i64 x.f5.f1, .string x.f5.f2, .slice A x.f6.length c]) (t := 27) ?hr ?_; (case hd => rfl); (case hg => rfl); (case hr => first | (go_simp; done) | (go_simp; rfl)); intro g2 hg_ w1 hb_ hl_; have H1 := Lib.hid (H0.out.box hb_ hl_ (Nat.le_of_eq hg_.symm)); clear hb_ hl_ hg_ H0; simp only [Act.put, sa_, sz_, ss_])
    | ((with_reducible refine gate_dst (N := 3) rfl ?_); refine box_event ?hg (N := 3) ?hd (cs := #[.int .i64 x.f0, .string x.f1, .string x.f2, .int .i64 x.f3, .int .i64 x.f4, .int .i64 x.f5.f0, .int .i64 x.f5.f1, .string x.f5.f2, .slice B x.f6.length b]) (t := 27) ?hr ?_; (case hd => rfl); (case hg => rfl); (case hr => first | (go_simp; done) | (go_simp; rfl)); intro g3 hg_ w2 hb_ hl_; have H2 := Lib.hid (H1.out.box hb_ hl_ (Nat.le_of_eq hg_.symm)); clear hb_ hl_ hg_ H1; simp only [Act.put, sa_, sz_, ss_]; obtain ⟨lc2_0, lc2_1, lc2_2, lc2_3, lc2_4, lc2_5, lc2_6, lc2_7, lc2_8, lf2_0, lf2_1, lf2_2, lf2_3, lf2_4, lf2_5, lf2_6, lf2_7, lf2_8⟩ := bw9_ (H2.out.get 1 rfl); obtain ⟨lc3_0, lc3_1, lc3_2, lc3_3, lc3_4, lc3_5, lc3_6, lc3_7, lc3_8, lf3_0, lf3_1, lf3_2, lf3_3, lf3_4, lf3_5, lf3_6, lf3_7, lf3_8⟩ := bw9_ (H2.out.get 0 rfl)))
  go_loopg [5] x.f6.length (fun kq v5 w' => ∃ (j : Int), v5 = .int .i64 j ∧ Aside0 (0 ≤ j ∧ j ≤ x.f6.length ∧ kq = x.f6.length - j.toNat) ∧ Aside0 (RS w w' [(g3, cl27 x B b, 27), (g2, cl27 x A c, 27)] []))
  case atStart => exact ⟨0, rfl, ⟨⟨Int.le_refl 0, Int.natCast_nonneg _, by simp⟩⟩, ⟨H2.out⟩⟩
  case round =>
    clear H2
    obtain ⟨j, rfl, HJ, H3⟩ := hrel
    have J0 := HJ.out.1
    have hj := eq_true HJ.out.1
    obtain ⟨lc1_0, lc1_1, lc1_2, lc1_3, lc1_4, lc1_5, lc1_6, lc1_7, lc1_8, lf1_0, lf1_1, lf1_2, lf1_3, lf1_4, lf1_5, lf1_6, lf1_7, lf1_8⟩ := bw9_ (H3.out.get 1 rfl)
    by_cases c1 : j < (x.f6.length : Int)
    · have J6 := c1
      have c1b : decide (j < (x.f6.length : Int)) = true := decide_eq_true c1
      have c1c := eq_true c1
      obtain ⟨ad, A8, c8, hA0, eA, lA, CA⟩ := el_at HA.out j J0 c1
      obtain ⟨bd, B8, b8, hB0, eB, lB, CB⟩ := el_at HB.out j J0 c1
      have EA := Lib.hid eA; have EB := Lib.hid eB; have IJ := Lib.hid (IH.out j J0 c1 A8 B8 c8 b8); have LA := Lib.hid (And.intro lA lB); have HCA := Lib.hid CA; have HCB' := Lib.hid CB
      clear eA eB lA lB CA CB c1 IH HA HB
      subst hA0 hB0
      go_wp2
      refine startX_ (n := 12) (S := fun w' => RS w w' [(g3, cl27 x (some bd) b, 27), (g2, cl27 x (some ad) c, 27)] []) (ds := []) #[false, false, false, false, false, false, false, false, false, false, false, false] (by kernel_rfl) rfl rfl (H3.out) (fun w' h => h) (fun w12 h_ hHeld => ?_)
      have H12 := Lib.hid h_; clear h_ H3
      refine take_ (i := 0) (N := some 62) (v := ?_) (a' := ?_) #[true, false, false, false, false, false, false, false, false, false, false, false] rfl rfl (by kernel_rfl) (fun _ _ _ h => h) (Or.inl ⟨by rfl, ?_⟩) hHeld ?_ ?_; rotate_left
      · intro w' hS; go_simp; (with_reducible rfl)
      rotate_left
      · simp only [Act.put, sa_, sz_, ss_, i64_w, i32_w]
        rfl
      refine take_ (i := 1) (N := some 63) (v := ?_) (a' := ?_) #[true, true, false, false, false, false, false, false, false, false, false, false] rfl rfl (by kernel_rfl) (fun _ _ _ h => h) (Or.inl ⟨by rfl, ?_⟩) hHeld ?_ ?_; rotate_left
      · intro w' hS; obtain ⟨s0, s1, s2, s3, s4, s5, s6, s7, s8, f0, f1, f2, f3, f4, f5, f6, f7, f8⟩ := bw9_ (hS.get 1 rfl); go_simp; (with_reducible rfl)
      rotate_left
      · simp only [Act.put, sa_, sz_, ss_, i64_w, i32_w]
        rfl
      refine pure_ (i := 2) (N := some 64) (v := ?_) (a' := ?_) #[true, true, true, false, false, false, false, false, false, false, false, false] rfl rfl (by kernel_rfl) (fun _ _ _ h => h) (Or.inl ⟨by rfl, ?_⟩) ?_ ?_; rotate_left
      · intro w'
        go_simp; (with_reducible rfl)
      rotate_left
      · simp only [Act.put, sa_, sz_, ss_, i64_w, i32_w]
        rfl
      refine take_ (i := 3) (N := some 65) (v := ?_) (a' := ?_) #[true, true, true, true, false, false, false, false, false, false, false, false] rfl rfl (by kernel_rfl) (fun _ _ _ h => h) (Or.inl ⟨by rfl, ?_⟩) hHeld ?_ ?_; rotate_left
      · intro w' hS; go_simp; (with_reducible rfl)
      rotate_left
      · simp only [Act.put, sa_, sz_, ss_, i64_w, i32_w]
        rfl
      refine take_ (i := 4) (N := some 66) (v := ?_) (a' := ?_) #[true, true, true, true, true, false, false, false, false, false, false, false] rfl rfl (by kernel_rfl) (fun _ _ _ h => h) (Or.inl ⟨by rfl, ?_⟩) hHeld ?_ ?_; rotate_left
      · intro w' hS; obtain ⟨u0, u1, u2, u3, u4, u5, u6, u7, u8⟩ := EA.out.below hS.bl; go_simp; (with_reducible rfl)
      rotate_left
      · simp only [Act.put, sa_, sz_, ss_, i64_w, i32_w]
        rfl
      refine take_ (i := 5) (N := some 67) (v := ?_) (a' := ?_) #[true, true, true, true, true, true, false, false, false, false, false, false] rfl rfl (by kernel_rfl) (fun _ _ _ h => h) (Or.inl ⟨by rfl, ?_⟩) hHeld ?_ ?_; rotate_left
      · intro w' hS; go_simp; (with_reducible rfl)
      rotate_left
      · simp only [Act.put, sa_, sz_, ss_, i64_w, i32_w]
        rfl
      refine take_ (i := 6) (N := some 68) (v := ?_) (a' := ?_) #[true, true, true, true, true, true, true, false, false, false, false, false] rfl rfl (by kernel_rfl) (fun _ _ _ h => h) (Or.inl ⟨by rfl, ?_⟩) hHeld ?_ ?_; rotate_left
      · intro w' hS; obtain ⟨s0, s1, s2, s3, s4, s5, s6, s7, s8, f0, f1, f2, f3, f4, f5, f6, f7, f8⟩ := bw9_ (hS.get 0 rfl); go_simp; (with_reducible rfl)
      rotate_left
      · simp only [Act.put, sa_, sz_, ss_, i64_w, i32_w]
        rfl
      refine pure_ (i := 7) (N := some 69) (v := ?_) (a' := ?_) #[true, true, true, true, true, true, true, true, false, false, false, false] rfl rfl (by kernel_rfl) (fun _ _ _ h => h) (Or.inl ⟨by rfl, ?_⟩) ?_ ?_; rotate_left
      · intro w'
        go_simp; (with_reducible rfl)
      rotate_left
      · simp only [Act.put, sa_, sz_, ss_, i64_w, i32_w]
        rfl
      refine take_ (i := 8) (N := some 70) (v := ?_) (a' := ?_) #[true, true, true, true, true, true, true, true, true, false, false, false] rfl rfl (by kernel_rfl) (fun _ _ _ h => h) (Or.inl ⟨by rfl, ?_⟩) hHeld ?_ ?_; rotate_left
      · intro w' hS; go_simp; (with_reducible rfl)
      rotate_left
      · simp only [Act.put, sa_, sz_, ss_, i64_w, i32_w]
        rfl
      refine take_ (i := 9) (N := some 71) (v := ?_) (a' := ?_) #[true, true, true, true, true, true, true, true, true, true, false, false] rfl rfl (by kernel_rfl) (fun _ _ _ h => h) (Or.inl ⟨by rfl, ?_⟩) hHeld ?_ ?_; rotate_left
      · intro w' hS; obtain ⟨u0, u1, u2, u3, u4, u5, u6, u7, u8⟩ := EB.out.below hS.bl; go_simp; (with_reducible rfl)
      rotate_left
      · simp only [Act.put, sa_, sz_, ss_, i64_w, i32_w]
        rfl
      refine one_ (i := 10) (N := some 72) #[true, true, true, true, true, true, true, true, true, true, true, false] rfl rfl (by kernel_rfl) (by decide) (fun K hK => ?_); refine goes_ Try.func21 (by kernel_rfl) rfl #[exV (rd_T27 x.f6 j) A8 c8, exV (rd_T27 x.f6 j) B8 b8] (by rfl) rfl rfl (by (try simp only [List.map_toArray, List.map_cons, List.map_nil]); first | done | rfl) ?_; refine (IJ.out w12 LA.out.1 LA.out.2 (Kd.C_old HCA.out H12.out.bl) (Kd.C_old HCB'.out H12.out.bl)).mono ?_; rintro e' w13 ⟨rfl, b13⟩; refine ⟨_, rfl, ?_⟩; have H13 := Lib.hid (H12.out.below b13); clear b13; refine hK.out _ _ (H13.out) (fun hHeld => ?_); clear hK K; refine norm_ (a' := ?_) ?_ ?_; rotate_left
      · show Act.put _ (some 72) _ = _
        simp only [Act.put, sa_, sz_, ss_, i64_w, i32_w]; rfl
      refine pure_ (i := 11) (N := some 73) (v := ?_) (a' := ?_) #[true, true, true, true, true, true, true, true, true, true, true, true] rfl rfl (by kernel_rfl) (fun _ _ _ h => h) (Or.inl ⟨by rfl, ?_⟩) ?_ ?_; rotate_left
      · intro w'
        go_simp; (with_reducible rfl)
      rotate_left
      · simp only [Act.put, sa_, sz_, ss_, i64_w, i32_w]
        rfl
      refine done_ (by kernel_rfl) ?_
      clear hHeld
      try go_wp2
      have ⟨hj0, hj1, hj2⟩ := HJ.out
      clear HJ
      go_roundg (x.f6.length - (j + 1).toNat)
      case measure => omega
      case rel => exact ⟨j + 1, by first | rfl | rw [show wrap64 (j + 1) = j + 1 from w64 _ (by omega)], ⟨⟨by omega, by omega, rfl⟩⟩, ⟨H13.out⟩⟩
    · have c1b : decide (j < (x.f6.length : Int)) = false := decide_eq_false c1
      clear HJ J0 hj c1 IH HA HB
      go_wp2
      go_ret
      exact ⟨rfl, H3.out.bl⟩
theorem nodesL_rd (xs : List S27) : ∀ j : Int, 0 ≤ j → j < xs.length → nodes (rd_T27 xs j) ≤ nodesL xs := by
  induction xs with
  | nil => intro j h0 h1; simp at h1; omega
  | cons y ys ih =>
    intro j h0 h1
    by_cases hj : j = 0
    · subst hj
      show nodes y ≤ _
      simp only [nodesL]
      omega
    · have h2 := ih (j - 1) (by omega) (by simp only [List.length_cons] at h1; omega)
      have h3 : rd_T27 (y :: ys) j = rd_T27 ys (j - 1) := by
        unfold rd_T27
        obtain ⟨m, hm⟩ : ∃ m : Nat, j.toNat = m + 1 := ⟨j.toNat - 1, by omega⟩
        rw [hm, show (j - 1).toNat = m by omega, List.getD_cons_succ]
      rw [h3]
      simp only [nodesL]
      omega
theorem r_same (N : Nat) (hN : N ≤ 1000000) : ∀ x, nodes x ≤ N → SameOK x := by
  induction N with
  | zero => intro x hx; have := nodes_pos x; omega
  | succ N ih =>
    intro x hx
    have h6 := nodes_f6 x
    have hl := len_nodes x.f6
    exact r_same_step x (by omega) fun j h0 h1 => ih (by omega) _ (by have := nodesL_rd x.f6 j h0 h1; omega)
end Go.Proofs.Ytcfgjaggccnoaaa.PParseSmall
namespace Go.Proofs.Ytcfgjaggccnoaaa.PParseSmall
open Go.RowKit Go.Proofs.YtcfgjaggccnoaaaW.PrintWords Go.Proofs.YtcfgjaggccnoaaaW.PrintLast Go.Proofs.YtcfgjaggccnoaaaW.PrintMore
attribute [local go_sem] max2_int min2_int max_two min_two max_three min_three max_four min_four
set_option linter.unusedVariables false
set_option linter.unusedSimpArgs false
set_option maxRecDepth 100000
set_option maxHeartbeats 4000000
def liveS : ByteArray := ⟨#[97, 46, 120, 32, 43, 32, 49, 32, 42, 32, 50, 32, 60, 32, 121]⟩
def liveT : List S91 := ((token_All.f 100 liveS).getD ([], 7)).1
theorem liveT_eq : token_All.f 100 liveS = some (liveT, 0) := by
  have h : ((token_All.f 100 liveS).map (·.2)) = some 0 := by decide +kernel
  unfold liveT
  cases q : token_All.f 100 liveS with
  | none => rw [q] at h; exact absurd h (by simp)
  | some p =>
    rw [q] at h
    obtain ⟨a, b⟩ := p
    simp only [Option.map_some, Option.some.injEq] at h
    rw [h]
    rfl
def liveR : Re := (pr liveT 100 (.f .or) 0 0 0).getD ⟨0, 0, 7, zx27⟩
theorem liveR_eq : pr liveT 100 (.f .or) 0 0 0 = some liveR := by
  have h : (pr liveT 100 (.f .or) 0 0 0).isSome = true := by decide +kernel
  unfold liveR
  cases q : pr liveT 100 (.f .or) 0 0 0 with
  | none => rw [q] at h; exact absurd h (by simp)
  | some p => rfl
theorem live_1 : enE liveT liveR.i liveR.e = 0 := by decide +kernel
theorem live_2 : liveR.x.f0 = 3 := by decide +kernel
theorem live_3 : liveR.x.f6.length = 2 := by decide +kernel
theorem live_4 : (rd_T27 liveR.x.f6 0).f0 = 7 := by decide +kernel
theorem live_5 : (rd_T27 liveR.x.f6 1).f2.toList = [121] := by decide +kernel
theorem live_6 : liveT.length ≤ 1000000 := by decide +kernel
theorem own_w {w w1 w2 w3 : World} {g5 vc : Nat} {vA : Option Addr} {x : S27} {o0 o1 o2 o3 o4 o5 o6 o7 o8 : Value} (b1 : Below w.heap.size w w1) (t1 : Tr w1 (fun k => w.heap.size ≤ k) x vA vc) (hg : w1.heap.size ≤ g5) (l2 : Below w1.heap.size w1 w2) (b5 : w2.heap[g5]? = some (.cells #[o0, o1, o2, o3, o4, o5, o6, o7, o8] 27 (0, 0)))
    (hd : Drawn0 (((((((((w2.setCell ⟨g5, 0, none⟩ (.int .i64 x.f0)).setCell ⟨g5, 1, none⟩ (.string x.f1)).setCell ⟨g5, 2, none⟩ (.string x.f2)).setCell ⟨g5, 3, none⟩ (.int .i64 x.f3)).setCell ⟨g5, 4, none⟩ (.int .i64 x.f4)).setCell ⟨g5, 5, none⟩ (.int .i64 x.f5.f0)).setCell ⟨g5, 6, none⟩ (.int .i64 x.f5.f1)).setCell ⟨g5, 7, none⟩ (.string x.f5.f2)).setCell ⟨g5, 8, none⟩ (.slice vA x.f6.length vc)) w3) : w3.heap[g5]? = some (.cells (cl27 x vA vc) 27 (0, 0)) ∧ Tr w3 (fun q => w.heap.size ≤ q ∧ q ≠ g5) x vA vc ∧ Below w.heap.size w w3 := by
  obtain ⟨nd, rfl⟩ := hd
  have h1 := below_size b1
  refine ⟨blk_drewN (put9_ b5) nd, ?_, pw_below_drewN ((b1.trans (l2.mono h1)).trans (chg9_.1.mono (by omega))) nd⟩
  have t2 := (t1.mono fun q hl hq => (⟨hq, by omega⟩ : w.heap.size ≤ q ∧ q ≠ g5)).below l2
  exact (t2.chg chg9_ (fun q => q.2 rfl)).below (pw_below_drewN (Below.refl _ _) nd)
theorem add0 (ad : Addr) : ad.add 0 = ad := rfl
theorem live_any (w : World) : Calls Try.prog 14 #[] w fun r w' => r = .returned (.bool true) ∧ Below w.heap.size w w' := by
  obtain ⟨x, hx⟩ : ∃ x, x = liveR.x := ⟨_, rfl⟩
  have HE := Lib.hid (expr_ok 100 liveS liveT 0 liveR w live_6 liveT_eq 100 liveR_eq live_1)
  have h2 := live_2; have h3 := live_3; have h4 := live_4; have h5 := live_5
  rw [← hx] at HE h2 h3 h4 h5
  clear hx
  have h3i : (x.f6.length : Int) = 2 := by omega
  have G2 := Lib.hid h2; have G3 := Lib.hid h3; have G4 := Lib.hid h4; have G5 := Lib.hid h5; clear h2 h3 h4 h5 h3i
  go_enter Try.func14, Try.ntmps14
  go_wp2_with (first
    | ((with_reducible refine gate_callee (f := 15) rfl ?_); refine goesL_ (some 4) rfl rfl Try.func15 (by kernel_rfl) rfl #[.string liveS] rfl (by (try simp only [List.map_toArray, List.map_cons, List.map_nil]); first | done | rfl) ?_; refine (HE.out).mono ?_; rintro r' w1 ⟨vA, vc, rfl, t1, b1⟩; refine ⟨_, rfl, ?_⟩; simp only [Act.put, sa_, sz_, ss_]; simp only [exV]; have T1 := Lib.hid t1; have B1 := Lib.hid b1; clear t1 b1)
    | (((with_reducible refine gate_dst (N := 1) rfl ?_); refine box_event ?hg (N := 1) ?hd (cs := #[.int .i64 0, .string (⟨#[]⟩ : ByteArray), .string (⟨#[]⟩ : ByteArray), .int .i64 0, .int .i64 0, .int .i64 0, .int .i64 0, .string (⟨#[]⟩ : ByteArray), .slice none 0 0]) (t := 27) ?hr ?_; (case hd => rfl); (case hg => rfl); (case hr => first | (go_simp; done) | (go_simp; rfl)); intro gb1 hg_ w2 hb_ hl_; have BKgb1 := am_ hb_; have HLgb1 := am_ hl_; have HGgb1 := am_ (Nat.le_of_eq hg_.symm); obtain ⟨zgb1_0, zgb1_1, zgb1_2, zgb1_3, zgb1_4, zgb1_5, zgb1_6, zgb1_7, zgb1_8, ygb1_0, ygb1_1, ygb1_2, ygb1_3, ygb1_4, ygb1_5, ygb1_6, ygb1_7, ygb1_8⟩ := bw9_ hb_; clear hb_ hl_ hg_; simp only [Act.put, sa_, sz_, ss_]))
    | ((with_reducible refine gate_callee (f := 16) rfl ?_); refine goesL_ (some 8) rfl rfl Try.func16 (by kernel_rfl) rfl #[.int .i64 0] rfl (by (try simp only [List.map_toArray, List.map_cons, List.map_nil]); first | done | rfl) ?_; refine (w09_code.calls 0 0 _ rfl).mono ?_; rintro r' w3 ⟨rfl, hd⟩; refine ⟨_, rfl, ?_⟩; simp only [Act.put, sa_, sz_, ss_]; have h6 : (Int.toNat 0 * 9) = 0 := rfl; have h7 : (Int.toNat 1 * 9) = 9 := rfl; have h2 := G2.out; have h3 := G3.out; have h4 := G4.out; have h5 := G5.out; have h3i : (x.f6.length : Int) = 2 := (by omega); obtain ⟨k3, t3, b3⟩ := own_w B1.out T1.out HGgb1.out HLgb1.out BKgb1.out hd; clear hd zgb1_0 zgb1_1 zgb1_2 zgb1_3 zgb1_4 zgb1_5 zgb1_6 zgb1_7 zgb1_8 ygb1_0 ygb1_1 ygb1_2 ygb1_3 ygb1_4 ygb1_5 ygb1_6 ygb1_7 ygb1_8; have B3 := Lib.hid b3; have T3 := Lib.hid t3; clear b3 t3; obtain ⟨p0, p1, p2, p3, p4, p5, p6, p7, p8, q0, q1, q2, q3, q4, q5, q6, q7, q8⟩ := bw9_ k3; clear k3; obtain ⟨ad, A8, c8, e8, u0, u1, u2, u3, u4, u5, u6, u7, u8⟩ := at_T27 (Kd.F_now T3.out.2) 0 (by decide) (by omega); subst e8; obtain ⟨ad', A9, c9, e9, x0, x1, x2, x3, x4, x5, x6, x7, x8⟩ := at_T27 (Kd.F_now T3.out.2) 1 (by decide) (by omega); cases e9; clear u8 x8; clear T3 B1 T1; rw [h6, h4, add0] at u0; rw [h7] at x2; replace x2 : w3.cell? ⟨ad.block, ad.off + 9 + 2, none⟩ = some (.string (rd_T27 x.f6 1).f2) := x2; clear h6 h7 h4; clear u1 u2 u3 u4 u5 u6 u7 x0 x1 x3 x4 x5 x6 x7 p1 p2 p3 p4 p5 p6 p7))
  go_ret
  exact ⟨rfl, B3.out⟩
end Go.Proofs.Ytcfgjaggccnoaaa.PParseSmall
namespace Go.Proofs.Ytcfgjaggccnoaaa.PParseSmall
open Go.RowKit Go.Proofs.YtcfgjaggccnoaaaW.PrintWords Go.Proofs.YtcfgjaggccnoaaaW.PrintLast Go.Proofs.YtcfgjaggccnoaaaW.PrintMore
attribute [local go_sem] max2_int min2_int max_two min_two max_three min_three max_four min_four
set_option linter.unusedVariables false
set_option linter.unusedSimpArgs false
set_option maxRecDepth 100000
set_option maxHeartbeats 4000000
def jnP (s : ByteArray) : Int := if s.toList = ([106, 111, 105, 110] : List UInt8) then 1 else if s.toList = ([108, 101, 102, 116] : List UInt8) then 2 else if s.toList = ([115, 101, 109, 105] : List UInt8) then 3 else if s.toList = ([97, 110, 116, 105] : List UInt8) then 4 else 0
theorem join_any (s : ByteArray) (k : Int) (w : World) (h : jnP s = k) : Calls Try.prog 20 #[.string s] w fun r w' => r = .returned (.int .i64 k) ∧ Below w.heap.size w w' := by
  unfold jnP at h
  by_cases c0 : s.toList = ([106, 111, 105, 110] : List UInt8)
  · rw [if_pos c0] at h
    have b0 : (s.toList == ([106, 111, 105, 110] : List UInt8)) = true := beq_iff_eq.mpr c0
    clear c0
    subst h
    go_enter Try.func20, Try.ntmps20
    go_wp2
    go_ret
    exact ⟨rfl, by first | exact Below.refl _ _ | repeat (first | exact Below.refl _ _ | refine Below.drew ?_)⟩
  rw [if_neg c0] at h
  have b0 : (s.toList == ([106, 111, 105, 110] : List UInt8)) = false := beq_eq_false_iff_ne.mpr c0
  clear c0
  by_cases c1 : s.toList = ([108, 101, 102, 116] : List UInt8)
  · rw [if_pos c1] at h
    have b1 : (s.toList == ([108, 101, 102, 116] : List UInt8)) = true := beq_iff_eq.mpr c1
    clear c1
    subst h
    go_enter Try.func20, Try.ntmps20
    go_wp2
    go_ret
    exact ⟨rfl, by first | exact Below.refl _ _ | repeat (first | exact Below.refl _ _ | refine Below.drew ?_)⟩
  rw [if_neg c1] at h
  have b1 : (s.toList == ([108, 101, 102, 116] : List UInt8)) = false := beq_eq_false_iff_ne.mpr c1
  clear c1
  by_cases c2 : s.toList = ([115, 101, 109, 105] : List UInt8)
  · rw [if_pos c2] at h
    have b2 : (s.toList == ([115, 101, 109, 105] : List UInt8)) = true := beq_iff_eq.mpr c2
    clear c2
    subst h
    go_enter Try.func20, Try.ntmps20
    go_wp2
    go_ret
    exact ⟨rfl, by first | exact Below.refl _ _ | repeat (first | exact Below.refl _ _ | refine Below.drew ?_)⟩
  rw [if_neg c2] at h
  have b2 : (s.toList == ([115, 101, 109, 105] : List UInt8)) = false := beq_eq_false_iff_ne.mpr c2
  clear c2
  by_cases c3 : s.toList = ([97, 110, 116, 105] : List UInt8)
  · rw [if_pos c3] at h
    have b3 : (s.toList == ([97, 110, 116, 105] : List UInt8)) = true := beq_iff_eq.mpr c3
    clear c3
    subst h
    go_enter Try.func20, Try.ntmps20
    go_wp2
    go_ret
    exact ⟨rfl, by first | exact Below.refl _ _ | repeat (first | exact Below.refl _ _ | refine Below.drew ?_)⟩
  rw [if_neg c3] at h
  have b3 : (s.toList == ([97, 110, 116, 105] : List UInt8)) = false := beq_eq_false_iff_ne.mpr c3
  clear c3
  subst h
  go_enter Try.func20, Try.ntmps20
  go_wp2
  go_ret
  exact ⟨rfl, by first | exact Below.refl _ _ | repeat (first | exact Below.refl _ _ | refine Below.drew ?_)⟩
theorem jn1 : jnP ⟨#[106, 111, 105, 110]⟩ = 1 := by decide +kernel
theorem jn2 : jnP ⟨#[108, 101, 102, 116]⟩ = 2 := by decide +kernel
theorem jn3 : jnP ⟨#[115, 101, 109, 105]⟩ = 3 := by decide +kernel
theorem jn4 : jnP ⟨#[97, 110, 116, 105]⟩ = 4 := by decide +kernel
theorem dr_below {w w1 : World} (h : Drawn0 w w1) : Below w.heap.size w w1 := by
  obtain ⟨n, rfl⟩ := h
  exact pw_below_drewN (Below.refl _ _) n
theorem law_pe0 (s : ByteArray) (hs : ¬ 3000 < (s.size : Int)) (x : S27) (e : Int) (hx : SameOK x) (hE : ∀ w, Calls Try.prog 15 #[.string s] w (Ends w x e)) (hF : ∀ w, Calls Try.prog 19 #[.string s] w (Ends w x e)) (b0 : (s.toList == ([106, 111, 105, 110] : List UInt8)) = true) (w : World) : Calls Try.prog 5 #[.string s] w fun r w' => r = .returned (.bool true) ∧ Below w.heap.size w w' := by
  have hs1 : decide ((3000 : Int) < (s.size : Int)) = false := decide_eq_false hs
  have hs2 : ((3000 : Int) < (s.size : Int)) = False := eq_false hs
  clear hs
  have HE := Lib.hid hE; have HF := Lib.hid hF; have HX := Lib.hid hx; clear hE hF hx
  have H0 := Lib.hid (RS.start w)
  go_enter Try.func5, Try.ntmps5
  go_wp2_with (first
    | ((with_reducible refine gate_callee (f := 15) rfl ?_); refine goesL_ (some 15) rfl rfl Try.func15 (by kernel_rfl) rfl #[.string s] rfl (by (try simp only [List.map_toArray, List.map_cons, List.map_nil]); first | done | rfl) ?_; refine (HE.out w).mono ?_; rintro r' w1 ⟨vA, vc, rfl, t1, b1⟩; refine ⟨_, rfl, ?_⟩; simp only [Act.put, sa_, sz_, ss_]; simp only [exV]; have H1 := Lib.hid (H0.out.call b1 t1); clear t1 b1 H0)
    | ((with_reducible refine gate_dst (N := 3) rfl ?_); refine box_event ?hg (N := 3) ?hd (cs := #[.int .i64 0, .string (⟨#[]⟩ : ByteArray), .string (⟨#[]⟩ : ByteArray), .int .i64 0, .int .i64 0, .int .i64 0, .int .i64 0, .string (⟨#[]⟩ : ByteArray), .slice none 0 0]) (t := 27) ?hr ?_; (case hd => rfl); (case hg => rfl); (case hr => first | (go_simp; done) | (go_simp; rfl)); intro g3 hg_ w2 hb_ hl_; have H2 := Lib.hid (H1.out.box hb_ hl_ (Nat.le_of_eq hg_.symm)); clear hb_ hl_ hg_ H1; simp only [Act.put, sa_, sz_, ss_]; obtain ⟨lc11_0, lc11_1, lc11_2, lc11_3, lc11_4, lc11_5, lc11_6, lc11_7, lc11_8, lf11_0, lf11_1, lf11_2, lf11_3, lf11_4, lf11_5, lf11_6, lf11_7, lf11_8⟩ := bw9_ (H2.out.get 0 rfl))
    | ((with_reducible refine gate_callee (f := 19) rfl ?_); refine goesL_ (some 20) rfl rfl Try.func19 (by kernel_rfl) rfl #[.string s] rfl (by (try simp only [List.map_toArray, List.map_cons, List.map_nil]); first | done | rfl) ?_; refine (HF.out _).mono ?_; rintro r' w3 ⟨yA, yc, rfl, t3, b3⟩; refine ⟨_, rfl, ?_⟩; simp only [Act.put, sa_, sz_, ss_]; simp only [exV]; have H3 := Lib.hid ((H2.out.put 0 rfl (put9_ (H2.out.get 0 rfl)) chg9_).call b3 t3); clear t3 b3 H2)
    | ((with_reducible refine gate_dst (N := 5) rfl ?_); refine box_event ?hg (N := 5) ?hd (cs := #[.int .i64 0, .string (⟨#[]⟩ : ByteArray), .string (⟨#[]⟩ : ByteArray), .int .i64 0, .int .i64 0, .int .i64 0, .int .i64 0, .string (⟨#[]⟩ : ByteArray), .slice none 0 0]) (t := 27) ?hr ?_; (case hd => rfl); (case hg => rfl); (case hr => first | (go_simp; done) | (go_simp; rfl)); intro g5 hg_ w4 hb_ hl_; have H4 := Lib.hid (H3.out.box hb_ hl_ (Nat.le_of_eq hg_.symm)); clear hb_ hl_ hg_ H3; simp only [Act.put, sa_, sz_, ss_]; obtain ⟨lc12_0, lc12_1, lc12_2, lc12_3, lc12_4, lc12_5, lc12_6, lc12_7, lc12_8, lf12_0, lf12_1, lf12_2, lf12_3, lf12_4, lf12_5, lf12_6, lf12_7, lf12_8⟩ := bw9_ (H4.out.get 0 rfl))
    | ((with_reducible refine gate_callee (f := 20) rfl ?_); refine goesL_ (some 23) rfl rfl Try.func20 (by kernel_rfl) rfl #[.string ⟨#[106, 111, 105, 110]⟩] rfl (by (try simp only [List.map_toArray, List.map_cons, List.map_nil]); first | done | rfl) ?_; refine (join_any _ 1 _ jn1).mono ?_; rintro r' w5 ⟨rfl, b5⟩; refine ⟨_, rfl, ?_⟩; simp only [Act.put, sa_, sz_, ss_]; have H5 := Lib.hid ((H4.out.put 0 rfl (put9_ (H4.out.get 0 rfl)) chg9_).below b5); clear b5 H4)
    | ((with_reducible refine gate_callee (f := 20) rfl ?_); (refine gate_guard (by rfl) ?_; dsimp only); refine goesL_ (some 26) rfl rfl Try.func20 (by kernel_rfl) rfl #[.string ⟨#[108, 101, 102, 116]⟩] rfl (by (try simp only [List.map_toArray, List.map_cons, List.map_nil]); first | done | rfl) ?_; refine (join_any _ 2 _ jn2).mono ?_; rintro r' w6 ⟨rfl, b5⟩; refine ⟨_, rfl, ?_⟩; simp only [Act.put, sa_, sz_, ss_]; have H6 := Lib.hid (H5.out.below b5); clear b5 H5)
    | ((with_reducible refine gate_callee (f := 20) rfl ?_); (refine gate_guard (by rfl) ?_; dsimp only); refine goesL_ (some 30) rfl rfl Try.func20 (by kernel_rfl) rfl #[.string ⟨#[115, 101, 109, 105]⟩] rfl (by (try simp only [List.map_toArray, List.map_cons, List.map_nil]); first | done | rfl) ?_; refine (join_any _ 3 _ jn3).mono ?_; rintro r' w7 ⟨rfl, b5⟩; refine ⟨_, rfl, ?_⟩; simp only [Act.put, sa_, sz_, ss_]; have H7 := Lib.hid (H6.out.below b5); clear b5 H6)
    | ((with_reducible refine gate_callee (f := 20) rfl ?_); (refine gate_guard (by rfl) ?_; dsimp only); refine goesL_ (some 34) rfl rfl Try.func20 (by kernel_rfl) rfl #[.string ⟨#[97, 110, 116, 105]⟩] rfl (by (try simp only [List.map_toArray, List.map_cons, List.map_nil]); first | done | rfl) ?_; refine (join_any _ 4 _ jn4).mono ?_; rintro r' w8 ⟨rfl, b5⟩; refine ⟨_, rfl, ?_⟩; simp only [Act.put, sa_, sz_, ss_]; have H8 := Lib.hid (H7.out.below b5); clear b5 H7; obtain ⟨lc1_0, lc1_1, lc1_2, lc1_3, lc1_4, lc1_5, lc1_6, lc1_7, lc1_8, lf1_0, lf1_1, lf1_2, lf1_3, lf1_4, lf1_5, lf1_6, lf1_7, lf1_8⟩ := bw9_ (H8.out.get 0 rfl); obtain ⟨lc2_0, lc2_1, lc2_2, lc2_3, lc2_4, lc2_5, lc2_6, lc2_7, lc2_8, lf2_0, lf2_1, lf2_2, lf2_3, lf2_4, lf2_5, lf2_6, lf2_7, lf2_8⟩ := bw9_ (H8.out.get 1 rfl))
    | ((with_reducible refine gate_callee (f := 21) rfl ?_); refine goesL_ (some 53) rfl rfl Try.func21 (by kernel_rfl) rfl #[exV x vA vc, exV x yA yc] rfl (by (try simp only [List.map_toArray, List.map_cons, List.map_nil]); first | done | rfl) ?_; refine (HX.out vA yA vc yc w8 (H8.out.tre 1 rfl).1 (H8.out.tre 0 rfl).1 (Kd.F_now (H8.out.tre 1 rfl).2) (Kd.F_now (H8.out.tre 0 rfl).2)).mono ?_; rintro r' w9 ⟨rfl, b5⟩; refine ⟨_, rfl, ?_⟩; simp only [Act.put, sa_, sz_, ss_]; have H9 := Lib.hid (H8.out.below b5); clear b5 H8)
    | ((with_reducible refine gate_callee (f := 16) rfl ?_); (refine gate_guard (by rfl) ?_; dsimp only); refine goesL_ (some 56) rfl rfl Try.func16 (by kernel_rfl) rfl #[.int .i64 e] rfl (by (try simp only [List.map_toArray, List.map_cons, List.map_nil]); first | done | rfl) ?_; refine (w09_code.calls e e _ rfl).mono ?_; rintro r' w10 ⟨rfl, hd⟩; refine ⟨_, rfl, ?_⟩; simp only [Act.put, sa_, sz_, ss_]; have H10 := Lib.hid (H9.out.below (dr_below hd)); clear hd H9)
    | ((with_reducible refine gate_callee (f := 14) rfl ?_); (refine gate_guard (by rfl) ?_; dsimp only); refine goesL_ (some 72) rfl rfl Try.func14 (by kernel_rfl) rfl #[] rfl (by (try simp only [List.map_toArray, List.map_cons, List.map_nil]); first | done | rfl) ?_; refine (live_any _).mono ?_; rintro r' w12 ⟨rfl, b5⟩; refine ⟨_, rfl, ?_⟩; simp only [Act.put, sa_, sz_, ss_]; have H12 := Lib.hid (H10.out.below b5); clear b5 H10))
  go_ret
  exact ⟨rfl, H12.out.bl⟩
theorem law_pe1 (s : ByteArray) (hs : ¬ 3000 < (s.size : Int)) (x : S27) (e : Int) (hx : SameOK x) (hE : ∀ w, Calls Try.prog 15 #[.string s] w (Ends w x e)) (hF : ∀ w, Calls Try.prog 19 #[.string s] w (Ends w x e)) (b0 : (s.toList == ([106, 111, 105, 110] : List UInt8)) = false) (b1 : (s.toList == ([108, 101, 102, 116] : List UInt8)) = true) (w : World) : Calls Try.prog 5 #[.string s] w fun r w' => r = .returned (.bool true) ∧ Below w.heap.size w w' := by
  have hs1 : decide ((3000 : Int) < (s.size : Int)) = false := decide_eq_false hs
  have hs2 : ((3000 : Int) < (s.size : Int)) = False := eq_false hs
  clear hs
  have HE := Lib.hid hE; have HF := Lib.hid hF; have HX := Lib.hid hx; clear hE hF hx
  have H0 := Lib.hid (RS.start w)
  go_enter Try.func5, Try.ntmps5
  go_wp2_with (first
    | ((with_reducible refine gate_callee (f := 15) rfl ?_); refine goesL_ (some 15) rfl rfl Try.func15 (by kernel_rfl) rfl #[.string s] rfl (by (try simp only [List.map_toArray, List.map_cons, List.map_nil]); first | done | rfl) ?_; refine (HE.out w).mono ?_; rintro r' w1 ⟨vA, vc, rfl, t1, b1⟩; refine ⟨_, rfl, ?_⟩; simp only [Act.put, sa_, sz_, ss_]; simp only [exV]; have H1 := Lib.hid (H0.out.call b1 t1); clear t1 b1 H0)
    | ((with_reducible refine gate_dst (N := 3) rfl ?_); refine box_event ?hg (N := 3) ?hd (cs := #[.int .i64 0, .string (⟨#[]⟩ : ByteArray), .string (⟨#[]⟩ : ByteArray), .int .i64 0, .int .i64 0, .int .i64 0, .int .i64 0, .string (⟨#[]⟩ : ByteArray), .slice none 0 0]) (t := 27) ?hr ?_; (case hd => rfl); (case hg => rfl); (case hr => first | (go_simp; done) | (go_simp; rfl)); intro g3 hg_ w2 hb_ hl_; have H2 := Lib.hid (H1.out.box hb_ hl_ (Nat.le_of_eq hg_.symm)); clear hb_ hl_ hg_ H1; simp only [Act.put, sa_, sz_, ss_]; obtain ⟨lc13_0, lc13_1, lc13_2, lc13_3, lc13_4, lc13_5, lc13_6, lc13_7, lc13_8, lf13_0, lf13_1, lf13_2, lf13_3, lf13_4, lf13_5, lf13_6, lf13_7, lf13_8⟩ := bw9_ (H2.out.get 0 rfl))
    | ((with_reducible refine gate_callee (f := 19) rfl ?_); refine goesL_ (some 20) rfl rfl Try.func19 (by kernel_rfl) rfl #[.string s] rfl (by (try simp only [List.map_toArray, List.map_cons, List.map_nil]); first | done | rfl) ?_; refine (HF.out _).mono ?_; rintro r' w3 ⟨yA, yc, rfl, t3, b3⟩; refine ⟨_, rfl, ?_⟩; simp only [Act.put, sa_, sz_, ss_]; simp only [exV]; have H3 := Lib.hid ((H2.out.put 0 rfl (put9_ (H2.out.get 0 rfl)) chg9_).call b3 t3); clear t3 b3 H2)
    | ((with_reducible refine gate_dst (N := 5) rfl ?_); refine box_event ?hg (N := 5) ?hd (cs := #[.int .i64 0, .string (⟨#[]⟩ : ByteArray), .string (⟨#[]⟩ : ByteArray), .int .i64 0, .int .i64 0, .int .i64 0, .int .i64 0, .string (⟨#[]⟩ : ByteArray), .slice none 0 0]) (t := 27) ?hr ?_; (case hd => rfl); (case hg => rfl); (case hr => first | (go_simp; done) | (go_simp; rfl)); intro g5 hg_ w4 hb_ hl_; have H4 := Lib.hid (H3.out.box hb_ hl_ (Nat.le_of_eq hg_.symm)); clear hb_ hl_ hg_ H3; simp only [Act.put, sa_, sz_, ss_]; obtain ⟨lc14_0, lc14_1, lc14_2, lc14_3, lc14_4, lc14_5, lc14_6, lc14_7, lc14_8, lf14_0, lf14_1, lf14_2, lf14_3, lf14_4, lf14_5, lf14_6, lf14_7, lf14_8⟩ := bw9_ (H4.out.get 0 rfl))
    | ((with_reducible refine gate_callee (f := 20) rfl ?_); refine goesL_ (some 23) rfl rfl Try.func20 (by kernel_rfl) rfl #[.string ⟨#[106, 111, 105, 110]⟩] rfl (by (try simp only [List.map_toArray, List.map_cons, List.map_nil]); first | done | rfl) ?_; refine (join_any _ 1 _ jn1).mono ?_; rintro r' w5 ⟨rfl, b5⟩; refine ⟨_, rfl, ?_⟩; simp only [Act.put, sa_, sz_, ss_]; have H5 := Lib.hid ((H4.out.put 0 rfl (put9_ (H4.out.get 0 rfl)) chg9_).below b5); clear b5 H4)
    | ((with_reducible refine gate_callee (f := 20) rfl ?_); (refine gate_guard (by rfl) ?_; dsimp only); refine goesL_ (some 26) rfl rfl Try.func20 (by kernel_rfl) rfl #[.string ⟨#[108, 101, 102, 116]⟩] rfl (by (try simp only [List.map_toArray, List.map_cons, List.map_nil]); first | done | rfl) ?_; refine (join_any _ 2 _ jn2).mono ?_; rintro r' w6 ⟨rfl, b5⟩; refine ⟨_, rfl, ?_⟩; simp only [Act.put, sa_, sz_, ss_]; have H6 := Lib.hid (H5.out.below b5); clear b5 H5)
    | ((with_reducible refine gate_callee (f := 20) rfl ?_); (refine gate_guard (by rfl) ?_; dsimp only); refine goesL_ (some 30) rfl rfl Try.func20 (by kernel_rfl) rfl #[.string ⟨#[115, 101, 109, 105]⟩] rfl (by (try simp only [List.map_toArray, List.map_cons, List.map_nil]); first | done | rfl) ?_; refine (join_any _ 3 _ jn3).mono ?_; rintro r' w7 ⟨rfl, b5⟩; refine ⟨_, rfl, ?_⟩; simp only [Act.put, sa_, sz_, ss_]; have H7 := Lib.hid (H6.out.below b5); clear b5 H6)
    | ((with_reducible refine gate_callee (f := 20) rfl ?_); (refine gate_guard (by rfl) ?_; dsimp only); refine goesL_ (some 34) rfl rfl Try.func20 (by kernel_rfl) rfl #[.string ⟨#[97, 110, 116, 105]⟩] rfl (by (try simp only [List.map_toArray, List.map_cons, List.map_nil]); first | done | rfl) ?_; refine (join_any _ 4 _ jn4).mono ?_; rintro r' w8 ⟨rfl, b5⟩; refine ⟨_, rfl, ?_⟩; simp only [Act.put, sa_, sz_, ss_]; have H8 := Lib.hid (H7.out.below b5); clear b5 H7; obtain ⟨lc3_0, lc3_1, lc3_2, lc3_3, lc3_4, lc3_5, lc3_6, lc3_7, lc3_8, lf3_0, lf3_1, lf3_2, lf3_3, lf3_4, lf3_5, lf3_6, lf3_7, lf3_8⟩ := bw9_ (H8.out.get 0 rfl); obtain ⟨lc4_0, lc4_1, lc4_2, lc4_3, lc4_4, lc4_5, lc4_6, lc4_7, lc4_8, lf4_0, lf4_1, lf4_2, lf4_3, lf4_4, lf4_5, lf4_6, lf4_7, lf4_8⟩ := bw9_ (H8.out.get 1 rfl))
    | ((with_reducible refine gate_callee (f := 21) rfl ?_); refine goesL_ (some 53) rfl rfl Try.func21 (by kernel_rfl) rfl #[exV x vA vc, exV x yA yc] rfl (by (try simp only [List.map_toArray, List.map_cons, List.map_nil]); first | done | rfl) ?_; refine (HX.out vA yA vc yc w8 (H8.out.tre 1 rfl).1 (H8.out.tre 0 rfl).1 (Kd.F_now (H8.out.tre 1 rfl).2) (Kd.F_now (H8.out.tre 0 rfl).2)).mono ?_; rintro r' w9 ⟨rfl, b5⟩; refine ⟨_, rfl, ?_⟩; simp only [Act.put, sa_, sz_, ss_]; have H9 := Lib.hid (H8.out.below b5); clear b5 H8)
    | ((with_reducible refine gate_callee (f := 16) rfl ?_); (refine gate_guard (by rfl) ?_; dsimp only); refine goesL_ (some 56) rfl rfl Try.func16 (by kernel_rfl) rfl #[.int .i64 e] rfl (by (try simp only [List.map_toArray, List.map_cons, List.map_nil]); first | done | rfl) ?_; refine (w09_code.calls e e _ rfl).mono ?_; rintro r' w10 ⟨rfl, hd⟩; refine ⟨_, rfl, ?_⟩; simp only [Act.put, sa_, sz_, ss_]; have H10 := Lib.hid (H9.out.below (dr_below hd)); clear hd H9)
    | ((with_reducible refine gate_callee (f := 14) rfl ?_); (refine gate_guard (by rfl) ?_; dsimp only); refine goesL_ (some 72) rfl rfl Try.func14 (by kernel_rfl) rfl #[] rfl (by (try simp only [List.map_toArray, List.map_cons, List.map_nil]); first | done | rfl) ?_; refine (live_any _).mono ?_; rintro r' w12 ⟨rfl, b5⟩; refine ⟨_, rfl, ?_⟩; simp only [Act.put, sa_, sz_, ss_]; have H12 := Lib.hid (H10.out.below b5); clear b5 H10))
  go_ret
  exact ⟨rfl, H12.out.bl⟩
theorem law_pe2 (s : ByteArray) (hs : ¬ 3000 < (s.size : Int)) (x : S27) (e : Int) (hx : SameOK x) (hE : ∀ w, Calls Try.prog 15 #[.string s] w (Ends w x e)) (hF : ∀ w, Calls Try.prog 19 #[.string s] w (Ends w x e)) (b0 : (s.toList == ([106, 111, 105, 110] : List UInt8)) = false) (b1 : (s.toList == ([108, 101, 102, 116] : List UInt8)) = false) (b2 : (s.toList == ([115, 101, 109, 105] : List UInt8)) = true) (w : World) : Calls Try.prog 5 #[.string s] w fun r w' => r = .returned (.bool true) ∧ Below w.heap.size w w' := by
  have hs1 : decide ((3000 : Int) < (s.size : Int)) = false := decide_eq_false hs
  have hs2 : ((3000 : Int) < (s.size : Int)) = False := eq_false hs
  clear hs
  have HE := Lib.hid hE; have HF := Lib.hid hF; have HX := Lib.hid hx; clear hE hF hx
  have H0 := Lib.hid (RS.start w)
  go_enter Try.func5, Try.ntmps5
  go_wp2_with (first
    | ((with_reducible refine gate_callee (f := 15) rfl ?_); refine goesL_ (some 15) rfl rfl Try.func15 (by kernel_rfl) rfl #[.string s] rfl (by (try simp only [List.map_toArray, List.map_cons, List.map_nil]); first | done | rfl) ?_; refine (HE.out w).mono ?_; rintro r' w1 ⟨vA, vc, rfl, t1, b1⟩; refine ⟨_, rfl, ?_⟩; simp only [Act.put, sa_, sz_, ss_]; simp only [exV]; have H1 := Lib.hid (H0.out.call b1 t1); clear t1 b1 H0)
    | ((with_reducible refine gate_dst (N := 3) rfl ?_); refine box_event ?hg (N := 3) ?hd (cs := #[.int .i64 0, .string (⟨#[]⟩ : ByteArray), .string (⟨#[]⟩ : ByteArray), .int .i64 0, .int .i64 0, .int .i64 0, .int .i64 0, .string (⟨#[]⟩ : ByteArray), .slice none 0 0]) (t := 27) ?hr ?_; (case hd => rfl); (case hg => rfl); (case hr => first | (go_simp; done) | (go_simp; rfl)); intro g3 hg_ w2 hb_ hl_; have H2 := Lib.hid (H1.out.box hb_ hl_ (Nat.le_of_eq hg_.symm)); clear hb_ hl_ hg_ H1; simp only [Act.put, sa_, sz_, ss_]; obtain ⟨lc15_0, lc15_1, lc15_2, lc15_3, lc15_4, lc15_5, lc15_6, lc15_7, lc15_8, lf15_0, lf15_1, lf15_2, lf15_3, lf15_4, lf15_5, lf15_6, lf15_7, lf15_8⟩ := bw9_ (H2.out.get 0 rfl))
    | ((with_reducible refine gate_callee (f := 19) rfl ?_); refine goesL_ (some 20) rfl rfl Try.func19 (by kernel_rfl) rfl #[.string s] rfl (by (try simp only [List.map_toArray, List.map_cons, List.map_nil]); first | done | rfl) ?_; refine (HF.out _).mono ?_; rintro r' w3 ⟨yA, yc, rfl, t3, b3⟩; refine ⟨_, rfl, ?_⟩; simp only [Act.put, sa_, sz_, ss_]; simp only [exV]; have H3 := Lib.hid ((H2.out.put 0 rfl (put9_ (H2.out.get 0 rfl)) chg9_).call b3 t3); clear t3 b3 H2)
    | ((with_reducible refine gate_dst (N := 5) rfl ?_); refine box_event ?hg (N := 5) ?hd (cs := #[.int .i64 0, .string (⟨#[]⟩ : ByteArray), .string (⟨#[]⟩ : ByteArray), .int .i64 0, .int .i64 0, .int .i64 0, .int .i64 0, .string (⟨#[]⟩ : ByteArray), .slice none 0 0]) (t := 27) ?hr ?_; (case hd => rfl); (case hg => rfl); (case hr => first | (go_simp; done) | (go_simp; rfl)); intro g5 hg_ w4 hb_ hl_; have H4 := Lib.hid (H3.out.box hb_ hl_ (Nat.le_of_eq hg_.symm)); clear hb_ hl_ hg_ H3; simp only [Act.put, sa_, sz_, ss_]; obtain ⟨lc16_0, lc16_1, lc16_2, lc16_3, lc16_4, lc16_5, lc16_6, lc16_7, lc16_8, lf16_0, lf16_1, lf16_2, lf16_3, lf16_4, lf16_5, lf16_6, lf16_7, lf16_8⟩ := bw9_ (H4.out.get 0 rfl))
    | ((with_reducible refine gate_callee (f := 20) rfl ?_); refine goesL_ (some 23) rfl rfl Try.func20 (by kernel_rfl) rfl #[.string ⟨#[106, 111, 105, 110]⟩] rfl (by (try simp only [List.map_toArray, List.map_cons, List.map_nil]); first | done | rfl) ?_; refine (join_any _ 1 _ jn1).mono ?_; rintro r' w5 ⟨rfl, b5⟩; refine ⟨_, rfl, ?_⟩; simp only [Act.put, sa_, sz_, ss_]; have H5 := Lib.hid ((H4.out.put 0 rfl (put9_ (H4.out.get 0 rfl)) chg9_).below b5); clear b5 H4)
    | ((with_reducible refine gate_callee (f := 20) rfl ?_); (refine gate_guard (by rfl) ?_; dsimp only); refine goesL_ (some 26) rfl rfl Try.func20 (by kernel_rfl) rfl #[.string ⟨#[108, 101, 102, 116]⟩] rfl (by (try simp only [List.map_toArray, List.map_cons, List.map_nil]); first | done | rfl) ?_; refine (join_any _ 2 _ jn2).mono ?_; rintro r' w6 ⟨rfl, b5⟩; refine ⟨_, rfl, ?_⟩; simp only [Act.put, sa_, sz_, ss_]; have H6 := Lib.hid (H5.out.below b5); clear b5 H5)
    | ((with_reducible refine gate_callee (f := 20) rfl ?_); (refine gate_guard (by rfl) ?_; dsimp only); refine goesL_ (some 30) rfl rfl Try.func20 (by kernel_rfl) rfl #[.string ⟨#[115, 101, 109, 105]⟩] rfl (by (try simp only [List.map_toArray, List.map_cons, List.map_nil]); first | done | rfl) ?_; refine (join_any _ 3 _ jn3).mono ?_; rintro r' w7 ⟨rfl, b5⟩; refine ⟨_, rfl, ?_⟩; simp only [Act.put, sa_, sz_, ss_]; have H7 := Lib.hid (H6.out.below b5); clear b5 H6)
    | ((with_reducible refine gate_callee (f := 20) rfl ?_); (refine gate_guard (by rfl) ?_; dsimp only); refine goesL_ (some 34) rfl rfl Try.func20 (by kernel_rfl) rfl #[.string ⟨#[97, 110, 116, 105]⟩] rfl (by (try simp only [List.map_toArray, List.map_cons, List.map_nil]); first | done | rfl) ?_; refine (join_any _ 4 _ jn4).mono ?_; rintro r' w8 ⟨rfl, b5⟩; refine ⟨_, rfl, ?_⟩; simp only [Act.put, sa_, sz_, ss_]; have H8 := Lib.hid (H7.out.below b5); clear b5 H7; obtain ⟨lc5_0, lc5_1, lc5_2, lc5_3, lc5_4, lc5_5, lc5_6, lc5_7, lc5_8, lf5_0, lf5_1, lf5_2, lf5_3, lf5_4, lf5_5, lf5_6, lf5_7, lf5_8⟩ := bw9_ (H8.out.get 0 rfl); obtain ⟨lc6_0, lc6_1, lc6_2, lc6_3, lc6_4, lc6_5, lc6_6, lc6_7, lc6_8, lf6_0, lf6_1, lf6_2, lf6_3, lf6_4, lf6_5, lf6_6, lf6_7, lf6_8⟩ := bw9_ (H8.out.get 1 rfl))
    | ((with_reducible refine gate_callee (f := 21) rfl ?_); refine goesL_ (some 53) rfl rfl Try.func21 (by kernel_rfl) rfl #[exV x vA vc, exV x yA yc] rfl (by (try simp only [List.map_toArray, List.map_cons, List.map_nil]); first | done | rfl) ?_; refine (HX.out vA yA vc yc w8 (H8.out.tre 1 rfl).1 (H8.out.tre 0 rfl).1 (Kd.F_now (H8.out.tre 1 rfl).2) (Kd.F_now (H8.out.tre 0 rfl).2)).mono ?_; rintro r' w9 ⟨rfl, b5⟩; refine ⟨_, rfl, ?_⟩; simp only [Act.put, sa_, sz_, ss_]; have H9 := Lib.hid (H8.out.below b5); clear b5 H8)
    | ((with_reducible refine gate_callee (f := 16) rfl ?_); (refine gate_guard (by rfl) ?_; dsimp only); refine goesL_ (some 56) rfl rfl Try.func16 (by kernel_rfl) rfl #[.int .i64 e] rfl (by (try simp only [List.map_toArray, List.map_cons, List.map_nil]); first | done | rfl) ?_; refine (w09_code.calls e e _ rfl).mono ?_; rintro r' w10 ⟨rfl, hd⟩; refine ⟨_, rfl, ?_⟩; simp only [Act.put, sa_, sz_, ss_]; have H10 := Lib.hid (H9.out.below (dr_below hd)); clear hd H9)
    | ((with_reducible refine gate_callee (f := 14) rfl ?_); (refine gate_guard (by rfl) ?_; dsimp only); refine goesL_ (some 72) rfl rfl Try.func14 (by kernel_rfl) rfl #[] rfl (by (try simp only [List.map_toArray, List.map_cons, List.map_nil]); first | done | rfl) ?_; refine (live_any _).mono ?_; rintro r' w12 ⟨rfl, b5⟩; refine ⟨_, rfl, ?_⟩; simp only [Act.put, sa_, sz_, ss_]; have H12 := Lib.hid (H10.out.below b5); clear b5 H10))
  go_ret
  exact ⟨rfl, H12.out.bl⟩
theorem law_pe3 (s : ByteArray) (hs : ¬ 3000 < (s.size : Int)) (x : S27) (e : Int) (hx : SameOK x) (hE : ∀ w, Calls Try.prog 15 #[.string s] w (Ends w x e)) (hF : ∀ w, Calls Try.prog 19 #[.string s] w (Ends w x e)) (b0 : (s.toList == ([106, 111, 105, 110] : List UInt8)) = false) (b1 : (s.toList == ([108, 101, 102, 116] : List UInt8)) = false) (b2 : (s.toList == ([115, 101, 109, 105] : List UInt8)) = false) (b3 : (s.toList == ([97, 110, 116, 105] : List UInt8)) = true) (w : World) : Calls Try.prog 5 #[.string s] w fun r w' => r = .returned (.bool true) ∧ Below w.heap.size w w' := by
  have hs1 : decide ((3000 : Int) < (s.size : Int)) = false := decide_eq_false hs
  have hs2 : ((3000 : Int) < (s.size : Int)) = False := eq_false hs
  clear hs
  have HE := Lib.hid hE; have HF := Lib.hid hF; have HX := Lib.hid hx; clear hE hF hx
  have H0 := Lib.hid (RS.start w)
  go_enter Try.func5, Try.ntmps5
  go_wp2_with (first
    | ((with_reducible refine gate_callee (f := 15) rfl ?_); refine goesL_ (some 15) rfl rfl Try.func15 (by kernel_rfl) rfl #[.string s] rfl (by (try simp only [List.map_toArray, List.map_cons, List.map_nil]); first | done | rfl) ?_; refine (HE.out w).mono ?_; rintro r' w1 ⟨vA, vc, rfl, t1, b1⟩; refine ⟨_, rfl, ?_⟩; simp only [Act.put, sa_, sz_, ss_]; simp only [exV]; have H1 := Lib.hid (H0.out.call b1 t1); clear t1 b1 H0)
    | ((with_reducible refine gate_dst (N := 3) rfl ?_); refine box_event ?hg (N := 3) ?hd (cs := #[.int .i64 0, .string (⟨#[]⟩ : ByteArray), .string (⟨#[]⟩ : ByteArray), .int .i64 0, .int .i64 0, .int .i64 0, .int .i64 0, .string (⟨#[]⟩ : ByteArray), .slice none 0 0]) (t := 27) ?hr ?_; (case hd => rfl); (case hg => rfl); (case hr => first | (go_simp; done) | (go_simp; rfl)); intro g3 hg_ w2 hb_ hl_; have H2 := Lib.hid (H1.out.box hb_ hl_ (Nat.le_of_eq hg_.symm)); clear hb_ hl_ hg_ H1; simp only [Act.put, sa_, sz_, ss_]; obtain ⟨lc17_0, lc17_1, lc17_2, lc17_3, lc17_4, lc17_5, lc17_6, lc17_7, lc17_8, lf17_0, lf17_1, lf17_2, lf17_3, lf17_4, lf17_5, lf17_6, lf17_7, lf17_8⟩ := bw9_ (H2.out.get 0 rfl))
    | ((with_reducible refine gate_callee (f := 19) rfl ?_); refine goesL_ (some 20) rfl rfl Try.func19 (by kernel_rfl) rfl #[.string s] rfl (by (try simp only [List.map_toArray, List.map_cons, List.map_nil]); first | done | rfl) ?_; refine (HF.out _).mono ?_; rintro r' w3 ⟨yA, yc, rfl, t3, b3⟩; refine ⟨_, rfl, ?_⟩; simp only [Act.put, sa_, sz_, ss_]; simp only [exV]; have H3 := Lib.hid ((H2.out.put 0 rfl (put9_ (H2.out.get 0 rfl)) chg9_).call b3 t3); clear t3 b3 H2)
    | ((with_reducible refine gate_dst (N := 5) rfl ?_); refine box_event ?hg (N := 5) ?hd (cs := #[.int .i64 0, .string (⟨#[]⟩ : ByteArray), .string (⟨#[]⟩ : ByteArray), .int .i64 0, .int .i64 0, .int .i64 0, .int .i64 0, .string (⟨#[]⟩ : ByteArray), .slice none 0 0]) (t := 27) ?hr ?_; (case hd => rfl); (case hg => rfl); (case hr => first | (go_simp; done) | (go_simp; rfl)); intro g5 hg_ w4 hb_ hl_; have H4 := Lib.hid (H3.out.box hb_ hl_ (Nat.le_of_eq hg_.symm)); clear hb_ hl_ hg_ H3; simp only [Act.put, sa_, sz_, ss_]; obtain ⟨lc18_0, lc18_1, lc18_2, lc18_3, lc18_4, lc18_5, lc18_6, lc18_7, lc18_8, lf18_0, lf18_1, lf18_2, lf18_3, lf18_4, lf18_5, lf18_6, lf18_7, lf18_8⟩ := bw9_ (H4.out.get 0 rfl))
    | ((with_reducible refine gate_callee (f := 20) rfl ?_); refine goesL_ (some 23) rfl rfl Try.func20 (by kernel_rfl) rfl #[.string ⟨#[106, 111, 105, 110]⟩] rfl (by (try simp only [List.map_toArray, List.map_cons, List.map_nil]); first | done | rfl) ?_; refine (join_any _ 1 _ jn1).mono ?_; rintro r' w5 ⟨rfl, b5⟩; refine ⟨_, rfl, ?_⟩; simp only [Act.put, sa_, sz_, ss_]; have H5 := Lib.hid ((H4.out.put 0 rfl (put9_ (H4.out.get 0 rfl)) chg9_).below b5); clear b5 H4)
    | ((with_reducible refine gate_callee (f := 20) rfl ?_); (refine gate_guard (by rfl) ?_; dsimp only); refine goesL_ (some 26) rfl rfl Try.func20 (by kernel_rfl) rfl #[.string ⟨#[108, 101, 102, 116]⟩] rfl (by (try simp only [List.map_toArray, List.map_cons, List.map_nil]); first | done | rfl) ?_; refine (join_any _ 2 _ jn2).mono ?_; rintro r' w6 ⟨rfl, b5⟩; refine ⟨_, rfl, ?_⟩; simp only [Act.put, sa_, sz_, ss_]; have H6 := Lib.hid (H5.out.below b5); clear b5 H5)
    | ((with_reducible refine gate_callee (f := 20) rfl ?_); (refine gate_guard (by rfl) ?_; dsimp only); refine goesL_ (some 30) rfl rfl Try.func20 (by kernel_rfl) rfl #[.string ⟨#[115, 101, 109, 105]⟩] rfl (by (try simp only [List.map_toArray, List.map_cons, List.map_nil]); first | done | rfl) ?_; refine (join_any _ 3 _ jn3).mono ?_; rintro r' w7 ⟨rfl, b5⟩; refine ⟨_, rfl, ?_⟩; simp only [Act.put, sa_, sz_, ss_]; have H7 := Lib.hid (H6.out.below b5); clear b5 H6)
    | ((with_reducible refine gate_callee (f := 20) rfl ?_); (refine gate_guard (by rfl) ?_; dsimp only); refine goesL_ (some 34) rfl rfl Try.func20 (by kernel_rfl) rfl #[.string ⟨#[97, 110, 116, 105]⟩] rfl (by (try simp only [List.map_toArray, List.map_cons, List.map_nil]); first | done | rfl) ?_; refine (join_any _ 4 _ jn4).mono ?_; rintro r' w8 ⟨rfl, b5⟩; refine ⟨_, rfl, ?_⟩; simp only [Act.put, sa_, sz_, ss_]; have H8 := Lib.hid (H7.out.below b5); clear b5 H7; obtain ⟨lc7_0, lc7_1, lc7_2, lc7_3, lc7_4, lc7_5, lc7_6, lc7_7, lc7_8, lf7_0, lf7_1, lf7_2, lf7_3, lf7_4, lf7_5, lf7_6, lf7_7, lf7_8⟩ := bw9_ (H8.out.get 0 rfl); obtain ⟨lc8_0, lc8_1, lc8_2, lc8_3, lc8_4, lc8_5, lc8_6, lc8_7, lc8_8, lf8_0, lf8_1, lf8_2, lf8_3, lf8_4, lf8_5, lf8_6, lf8_7, lf8_8⟩ := bw9_ (H8.out.get 1 rfl))
    | ((with_reducible refine gate_callee (f := 21) rfl ?_); refine goesL_ (some 53) rfl rfl Try.func21 (by kernel_rfl) rfl #[exV x vA vc, exV x yA yc] rfl (by (try simp only [List.map_toArray, List.map_cons, List.map_nil]); first | done | rfl) ?_; refine (HX.out vA yA vc yc w8 (H8.out.tre 1 rfl).1 (H8.out.tre 0 rfl).1 (Kd.F_now (H8.out.tre 1 rfl).2) (Kd.F_now (H8.out.tre 0 rfl).2)).mono ?_; rintro r' w9 ⟨rfl, b5⟩; refine ⟨_, rfl, ?_⟩; simp only [Act.put, sa_, sz_, ss_]; have H9 := Lib.hid (H8.out.below b5); clear b5 H8)
    | ((with_reducible refine gate_callee (f := 16) rfl ?_); (refine gate_guard (by rfl) ?_; dsimp only); refine goesL_ (some 56) rfl rfl Try.func16 (by kernel_rfl) rfl #[.int .i64 e] rfl (by (try simp only [List.map_toArray, List.map_cons, List.map_nil]); first | done | rfl) ?_; refine (w09_code.calls e e _ rfl).mono ?_; rintro r' w10 ⟨rfl, hd⟩; refine ⟨_, rfl, ?_⟩; simp only [Act.put, sa_, sz_, ss_]; have H10 := Lib.hid (H9.out.below (dr_below hd)); clear hd H9)
    | ((with_reducible refine gate_callee (f := 14) rfl ?_); (refine gate_guard (by rfl) ?_; dsimp only); refine goesL_ (some 72) rfl rfl Try.func14 (by kernel_rfl) rfl #[] rfl (by (try simp only [List.map_toArray, List.map_cons, List.map_nil]); first | done | rfl) ?_; refine (live_any _).mono ?_; rintro r' w12 ⟨rfl, b5⟩; refine ⟨_, rfl, ?_⟩; simp only [Act.put, sa_, sz_, ss_]; have H12 := Lib.hid (H10.out.below b5); clear b5 H10))
  go_ret
  exact ⟨rfl, H12.out.bl⟩
theorem law_pe4 (s : ByteArray) (hs : ¬ 3000 < (s.size : Int)) (x : S27) (e : Int) (hx : SameOK x) (hE : ∀ w, Calls Try.prog 15 #[.string s] w (Ends w x e)) (hF : ∀ w, Calls Try.prog 19 #[.string s] w (Ends w x e)) (b0 : (s.toList == ([106, 111, 105, 110] : List UInt8)) = false) (b1 : (s.toList == ([108, 101, 102, 116] : List UInt8)) = false) (b2 : (s.toList == ([115, 101, 109, 105] : List UInt8)) = false) (b3 : (s.toList == ([97, 110, 116, 105] : List UInt8)) = false) (w : World) : Calls Try.prog 5 #[.string s] w fun r w' => r = .returned (.bool true) ∧ Below w.heap.size w w' := by
  have hs1 : decide ((3000 : Int) < (s.size : Int)) = false := decide_eq_false hs
  have hs2 : ((3000 : Int) < (s.size : Int)) = False := eq_false hs
  clear hs
  have HE := Lib.hid hE; have HF := Lib.hid hF; have HX := Lib.hid hx; clear hE hF hx
  have HJ : Hid (jnP s = 0) := Lib.hid (by unfold jnP; rw [if_neg (beq_eq_false_iff_ne.1 b0), if_neg (beq_eq_false_iff_ne.1 b1), if_neg (beq_eq_false_iff_ne.1 b2), if_neg (beq_eq_false_iff_ne.1 b3)])
  have H0 := Lib.hid (RS.start w)
  go_enter Try.func5, Try.ntmps5
  go_wp2_with (first
    | ((with_reducible refine gate_callee (f := 15) rfl ?_); refine goesL_ (some 15) rfl rfl Try.func15 (by kernel_rfl) rfl #[.string s] rfl (by (try simp only [List.map_toArray, List.map_cons, List.map_nil]); first | done | rfl) ?_; refine (HE.out w).mono ?_; rintro r' w1 ⟨vA, vc, rfl, t1, b1⟩; refine ⟨_, rfl, ?_⟩; simp only [Act.put, sa_, sz_, ss_]; simp only [exV]; have H1 := Lib.hid (H0.out.call b1 t1); clear t1 b1 H0)
    | ((with_reducible refine gate_dst (N := 3) rfl ?_); refine box_event ?hg (N := 3) ?hd (cs := #[.int .i64 0, .string (⟨#[]⟩ : ByteArray), .string (⟨#[]⟩ : ByteArray), .int .i64 0, .int .i64 0, .int .i64 0, .int .i64 0, .string (⟨#[]⟩ : ByteArray), .slice none 0 0]) (t := 27) ?hr ?_; (case hd => rfl); (case hg => rfl); (case hr => first | (go_simp; done) | (go_simp; rfl)); intro g3 hg_ w2 hb_ hl_; have H2 := Lib.hid (H1.out.box hb_ hl_ (Nat.le_of_eq hg_.symm)); clear hb_ hl_ hg_ H1; simp only [Act.put, sa_, sz_, ss_]; obtain ⟨lc19_0, lc19_1, lc19_2, lc19_3, lc19_4, lc19_5, lc19_6, lc19_7, lc19_8, lf19_0, lf19_1, lf19_2, lf19_3, lf19_4, lf19_5, lf19_6, lf19_7, lf19_8⟩ := bw9_ (H2.out.get 0 rfl))
    | ((with_reducible refine gate_callee (f := 19) rfl ?_); refine goesL_ (some 20) rfl rfl Try.func19 (by kernel_rfl) rfl #[.string s] rfl (by (try simp only [List.map_toArray, List.map_cons, List.map_nil]); first | done | rfl) ?_; refine (HF.out _).mono ?_; rintro r' w3 ⟨yA, yc, rfl, t3, b3⟩; refine ⟨_, rfl, ?_⟩; simp only [Act.put, sa_, sz_, ss_]; simp only [exV]; have H3 := Lib.hid ((H2.out.put 0 rfl (put9_ (H2.out.get 0 rfl)) chg9_).call b3 t3); clear t3 b3 H2)
    | ((with_reducible refine gate_dst (N := 5) rfl ?_); refine box_event ?hg (N := 5) ?hd (cs := #[.int .i64 0, .string (⟨#[]⟩ : ByteArray), .string (⟨#[]⟩ : ByteArray), .int .i64 0, .int .i64 0, .int .i64 0, .int .i64 0, .string (⟨#[]⟩ : ByteArray), .slice none 0 0]) (t := 27) ?hr ?_; (case hd => rfl); (case hg => rfl); (case hr => first | (go_simp; done) | (go_simp; rfl)); intro g5 hg_ w4 hb_ hl_; have H4 := Lib.hid (H3.out.box hb_ hl_ (Nat.le_of_eq hg_.symm)); clear hb_ hl_ hg_ H3; simp only [Act.put, sa_, sz_, ss_]; obtain ⟨lc20_0, lc20_1, lc20_2, lc20_3, lc20_4, lc20_5, lc20_6, lc20_7, lc20_8, lf20_0, lf20_1, lf20_2, lf20_3, lf20_4, lf20_5, lf20_6, lf20_7, lf20_8⟩ := bw9_ (H4.out.get 0 rfl))
    | ((with_reducible refine gate_callee (f := 20) rfl ?_); refine goesL_ (some 23) rfl rfl Try.func20 (by kernel_rfl) rfl #[.string ⟨#[106, 111, 105, 110]⟩] rfl (by (try simp only [List.map_toArray, List.map_cons, List.map_nil]); first | done | rfl) ?_; refine (join_any _ 1 _ jn1).mono ?_; rintro r' w5 ⟨rfl, b5⟩; refine ⟨_, rfl, ?_⟩; simp only [Act.put, sa_, sz_, ss_]; have H5 := Lib.hid ((H4.out.put 0 rfl (put9_ (H4.out.get 0 rfl)) chg9_).below b5); clear b5 H4)
    | ((with_reducible refine gate_callee (f := 20) rfl ?_); (refine gate_guard (by rfl) ?_; dsimp only); refine goesL_ (some 26) rfl rfl Try.func20 (by kernel_rfl) rfl #[.string ⟨#[108, 101, 102, 116]⟩] rfl (by (try simp only [List.map_toArray, List.map_cons, List.map_nil]); first | done | rfl) ?_; refine (join_any _ 2 _ jn2).mono ?_; rintro r' w6 ⟨rfl, b5⟩; refine ⟨_, rfl, ?_⟩; simp only [Act.put, sa_, sz_, ss_]; have H6 := Lib.hid (H5.out.below b5); clear b5 H5)
    | ((with_reducible refine gate_callee (f := 20) rfl ?_); (refine gate_guard (by rfl) ?_; dsimp only); refine goesL_ (some 30) rfl rfl Try.func20 (by kernel_rfl) rfl #[.string ⟨#[115, 101, 109, 105]⟩] rfl (by (try simp only [List.map_toArray, List.map_cons, List.map_nil]); first | done | rfl) ?_; refine (join_any _ 3 _ jn3).mono ?_; rintro r' w7 ⟨rfl, b5⟩; refine ⟨_, rfl, ?_⟩; simp only [Act.put, sa_, sz_, ss_]; have H7 := Lib.hid (H6.out.below b5); clear b5 H6)
    | ((with_reducible refine gate_callee (f := 20) rfl ?_); (refine gate_guard (by rfl) ?_; dsimp only); refine goesL_ (some 34) rfl rfl Try.func20 (by kernel_rfl) rfl #[.string ⟨#[97, 110, 116, 105]⟩] rfl (by (try simp only [List.map_toArray, List.map_cons, List.map_nil]); first | done | rfl) ?_; refine (join_any _ 4 _ jn4).mono ?_; rintro r' w8 ⟨rfl, b5⟩; refine ⟨_, rfl, ?_⟩; simp only [Act.put, sa_, sz_, ss_]; have H8 := Lib.hid (H7.out.below b5); clear b5 H7; obtain ⟨lc9_0, lc9_1, lc9_2, lc9_3, lc9_4, lc9_5, lc9_6, lc9_7, lc9_8, lf9_0, lf9_1, lf9_2, lf9_3, lf9_4, lf9_5, lf9_6, lf9_7, lf9_8⟩ := bw9_ (H8.out.get 0 rfl); obtain ⟨lc10_0, lc10_1, lc10_2, lc10_3, lc10_4, lc10_5, lc10_6, lc10_7, lc10_8, lf10_0, lf10_1, lf10_2, lf10_3, lf10_4, lf10_5, lf10_6, lf10_7, lf10_8⟩ := bw9_ (H8.out.get 1 rfl))
    | ((with_reducible refine gate_callee (f := 21) rfl ?_); refine goesL_ (some 53) rfl rfl Try.func21 (by kernel_rfl) rfl #[exV x vA vc, exV x yA yc] rfl (by (try simp only [List.map_toArray, List.map_cons, List.map_nil]); first | done | rfl) ?_; refine (HX.out vA yA vc yc w8 (H8.out.tre 1 rfl).1 (H8.out.tre 0 rfl).1 (Kd.F_now (H8.out.tre 1 rfl).2) (Kd.F_now (H8.out.tre 0 rfl).2)).mono ?_; rintro r' w9 ⟨rfl, b5⟩; refine ⟨_, rfl, ?_⟩; simp only [Act.put, sa_, sz_, ss_]; have H9 := Lib.hid (H8.out.below b5); clear b5 H8)
    | ((with_reducible refine gate_callee (f := 16) rfl ?_); (refine gate_guard (by rfl) ?_; dsimp only); refine goesL_ (some 56) rfl rfl Try.func16 (by kernel_rfl) rfl #[.int .i64 e] rfl (by (try simp only [List.map_toArray, List.map_cons, List.map_nil]); first | done | rfl) ?_; refine (w09_code.calls e e _ rfl).mono ?_; rintro r' w10 ⟨rfl, hd⟩; refine ⟨_, rfl, ?_⟩; simp only [Act.put, sa_, sz_, ss_]; have H10 := Lib.hid (H9.out.below (dr_below hd)); clear hd H9)
    | ((with_reducible refine gate_callee (f := 20) rfl ?_); (refine gate_guard (by rfl) ?_; dsimp only); refine goesL_ (some 67) rfl rfl Try.func20 (by kernel_rfl) rfl #[.string s] rfl (by (try simp only [List.map_toArray, List.map_cons, List.map_nil]); first | done | rfl) ?_; refine (join_any _ 0 _ HJ.out).mono ?_; rintro r' w11 ⟨rfl, b5⟩; refine ⟨_, rfl, ?_⟩; simp only [Act.put, sa_, sz_, ss_]; have H11 := Lib.hid (H10.out.below b5); clear b5 H10)
    | ((with_reducible refine gate_callee (f := 14) rfl ?_); (refine gate_guard (by rfl) ?_; dsimp only); refine goesL_ (some 72) rfl rfl Try.func14 (by kernel_rfl) rfl #[] rfl (by (try simp only [List.map_toArray, List.map_cons, List.map_nil]); first | done | rfl) ?_; refine (live_any _).mono ?_; rintro r' w12 ⟨rfl, b5⟩; refine ⟨_, rfl, ?_⟩; simp only [Act.put, sa_, sz_, ss_]; have H12 := Lib.hid (H11.out.below b5); clear b5 H11))
  go_ret
  exact ⟨rfl, H12.out.bl⟩
end Go.Proofs.Ytcfgjaggccnoaaa.PParseSmall
namespace Go.Proofs.Ytcfgjaggccnoaaa.PParseSmall
open Go.RowKit Go.Proofs.YtcfgjaggccnoaaaW.PrintWords Go.Proofs.YtcfgjaggccnoaaaW.PrintLast Go.Proofs.YtcfgjaggccnoaaaW.PrintMore
attribute [local go_sem] max2_int min2_int max_two min_two max_three min_three max_four min_four
set_option linter.unusedVariables false
set_option linter.unusedSimpArgs false
set_option maxRecDepth 100000
set_option maxHeartbeats 4000000
theorem bs {α β : Type} (a : α) (f : α → Option β) : (some a).bind f = f a := (Option.bind_some a f).trans (Eq.refl _)
theorem wt64 {n : Int} (h0 : -9223372036854775808 ≤ n) (h1 : n < 9223372036854775808) : wrap64 n = n := by
  unfold wrap64; omega
def blk (c : Int) : Bool := decide (c = 32) || decide (c = 9) || decide (c = 10) || decide (c = 13)
def ltr (c : Int) : Bool := decide (97 ≤ c ∧ c ≤ 122) || decide (c = 95)
def dgt (c : Int) : Bool := decide (48 ≤ c ∧ c ≤ 57)
theorem blank_is (c : Int) : token_Blank.f c = some (blk c) := by
  unfold token_Blank.f blk
  by_cases h1 : c = 32
  · simp [h1]
  · by_cases h2 : c = 9
    · simp [h2]
    · by_cases h3 : c = 10
      · simp [h3]
      · simp [h1, h2, h3, Bool.beq_eq_decide_eq]
theorem rblank_is (c : Int) : r07_Blank.f c = some (blk c) := by
  unfold r07_Blank.f blk
  by_cases h1 : c = 32
  · simp [h1]
  · by_cases h2 : c = 9
    · simp [h2]
    · by_cases h3 : c = 10
      · simp [h3]
      · simp [h1, h2, h3, Bool.beq_eq_decide_eq]
theorem letter_is (c : Int) : token_letter.f c = some (ltr c) := by
  unfold token_letter.f ltr
  by_cases h1 : c ≥ 97
  · by_cases h2 : c ≤ 122
    · rw [if_pos h1, if_pos h2]; congr 1; rw [Bool.eq_iff_iff]; simp; omega
    · rw [if_pos h1, if_neg h2]; congr 1; rw [Bool.eq_iff_iff]; simp; omega
  · rw [if_neg h1]; congr 1; rw [Bool.eq_iff_iff]; simp; omega
theorem rletter_is (c : Int) : r07_letter.f c = some (ltr c) := by
  unfold r07_letter.f ltr
  by_cases h1 : c = 95
  · rw [if_pos h1]; simp [h1]
  · rw [if_neg h1]
    by_cases h2 : c ≥ 97
    · rw [if_pos h2]; congr 1; rw [Bool.eq_iff_iff]; simp; omega
    · rw [if_neg h2]; congr 1; rw [Bool.eq_iff_iff]; simp; omega
theorem digit_is (c : Int) : token_digit.f c = some (dgt c) := by
  unfold token_digit.f dgt
  by_cases h1 : c ≥ 48
  · rw [if_pos h1]; congr 1; rw [Bool.eq_iff_iff]; simp; omega
  · rw [if_neg h1]; congr 1; rw [Bool.eq_iff_iff]; simp; omega
theorem rdigit_is (c : Int) : r07_digit.f c = some (dgt c) := by
  unfold r07_digit.f dgt
  by_cases h1 : c ≥ 48
  · rw [if_pos h1]; congr 1; rw [Bool.eq_iff_iff]; simp; omega
  · rw [if_neg h1]; congr 1; rw [Bool.eq_iff_iff]; simp; omega
theorem bt_get (s : ByteArray) (i : Nat) (h : i < s.size) : bt s (i : Int) = ((s[i]'h).toNat : Int) := by
  unfold bt
  rw [dif_pos (show ((i : Nat) : Int).toNat < s.size by omega)]
  rfl
def signs : List ByteArray := [⟨#[60, 62]⟩, ⟨#[60, 61]⟩, ⟨#[62, 61]⟩, ⟨#[40]⟩, ⟨#[41]⟩, ⟨#[44]⟩, ⟨#[46]⟩, ⟨#[42]⟩, ⟨#[43]⟩, ⟨#[45]⟩, ⟨#[61]⟩, ⟨#[60]⟩, ⟨#[62]⟩]
def pre (s : ByteArray) (i : Nat) (g : ByteArray) : Bool := decide (i + g.size ≤ s.size) && ((s.extract i (i + g.size)).data.toList == g.data.toList)
def sgn (s : ByteArray) (i : Int) : ByteArray := if i < 0 then ⟨#[]⟩ else (signs.find? (pre s i.toNat)).getD ⟨#[]⟩
theorem rdOf_get {α : Type} (d : α) (l : List α) (j : Nat) (h : j < l.length) : rdOf d l (j : Int) = l[j] := by
  unfold rdOf
  simp [h]
theorem tl (s : ByteArray) : s.toList = s.data.toList := ByteArray.toList_eq s
theorem rsign_l0 (s : ByteArray) (hs : s.size ≤ 140737488355328) (l : List ByteArray) (hl : l.length ≤ 20) (hg : ∀ g ∈ l, g.size ≤ 2) (at_ : Int) (d : Nat) : ∀ (k j : Nat), l.length - j = d → j ≤ l.length → d < k →
    r07_Sign.l0 k s at_ l (j : Int) = some (if at_ < 0 then ⟨#[]⟩ else ((l.drop j).find? (pre s at_.toNat)).getD ⟨#[]⟩) := by
  induction d with
  | zero =>
    intro k j hd hj hk
    obtain ⟨k, rfl⟩ : ∃ m, k = m + 1 := ⟨k - 1, by omega⟩
    simp only [r07_Sign.l0]
    rw [if_neg (by omega), List.drop_of_length_le (by omega)]
    simp
  | succ d ih =>
    intro k j hd hj hk
    obtain ⟨k, rfl⟩ : ∃ m, k = m + 1 := ⟨k - 1, by omega⟩
    have hjl : j < l.length := by omega
    have e1 : wrap64 ((j : Int) + 1) = ((j + 1 : Nat) : Int) := by rw [wt64 (by omega) (by omega)]; omega
    have hgs := hg l[j] (List.getElem_mem hjl)
    have hn := ih k (j + 1) (by omega) (by omega) (by omega)
    simp only [r07_Sign.l0]
    rw [if_pos (by omega), rdOf_get _ l j hjl, e1, hn, List.drop_eq_getElem_cons hjl, List.find?_cons]
    clear ih hn e1 hd hk hg
    generalize l[j] = g at *
    by_cases h0 : at_ < 0
    · rw [if_neg (show ¬ at_ ≥ 0 by omega)]
      simp only [if_pos h0]
    · rw [if_pos (show at_ ≥ 0 by omega), if_pos (show (0 : Int) ≤ (j : Int) by omega)]
      simp only [if_neg h0]
      have e2 : wrap64 ((s.size : Int) - (g.size : Int)) = (s.size : Int) - g.size := wt64 (by omega) (by omega)
      rw [e2]
      obtain ⟨a, rfl⟩ := Int.eq_ofNat_of_zero_le (by omega : 0 ≤ at_)
      by_cases h1 : (a : Int) ≤ (s.size : Int) - g.size
      · have e3 : wrap64 ((a : Int) + (g.size : Int)) = a + g.size := wt64 (by omega) (by omega)
        rw [e3, if_pos h1, if_pos (show (0 : Int) ≤ (a : Int) by omega), if_pos (show (a : Int) ≤ (a : Int) + (g.size : Int) by omega), if_pos (show (a : Int) + (g.size : Int) ≤ (s.size : Int) by omega), Int.toNat_natCast, show ((a : Int) + (g.size : Int)).toNat = a + g.size by omega, tl, tl]
        have ep : pre s a g = ((s.extract a (a + g.size)).data.toList == g.data.toList) := by
          unfold pre
          rw [decide_eq_true (show a + g.size ≤ s.size by omega)]
          rfl
        rw [ep]
        by_cases h2 : (s.extract a (a + g.size)).data.toList = g.data.toList
        · rw [if_pos h2, beq_iff_eq.mpr h2]
          rfl
        · rw [if_neg h2, beq_eq_false_iff_ne.mpr h2]
      · rw [if_neg h1]
        have ep : pre s a g = false := by
          unfold pre
          rw [decide_eq_false (show ¬ a + g.size ≤ s.size by omega)]
          rfl
        rw [Int.toNat_natCast, ep]
theorem rsign_is (s : ByteArray) (hs : s.size ≤ 140737488355328) (at_ : Int) (k : Nat) (hk : 14 ≤ k) : r07_Sign.f k s at_ = some (sgn s at_) := by
  unfold r07_Sign.f
  have := rsign_l0 s hs signs (by decide) (by intro g hg; revert hg; unfold signs; intro hg; simp only [List.mem_cons, List.not_mem_nil, or_false] at hg; rcases hg with rfl | rfl | rfl | rfl | rfl | rfl | rfl | rfl | rfl | rfl | rfl | rfl | rfl <;> decide) at_ 13 k 0 rfl (by omega) (by omega)
  exact this
theorem hasPrefix_is (s : ByteArray) (a : Nat) (ha : a ≤ s.size) (g : ByteArray) : strings_HasPrefix.f (s.extract a s.size) g = some (pre s a g) := by
  have hx : (s.extract a s.size).size = s.size - a := by simp [ByteArray.size_extract]
  have e : stringslite_HasPrefix.f (s.extract a s.size) g = some (pre s a g) := by
    unfold stringslite_HasPrefix.f pre
    rw [hx]
    by_cases h : a + g.size ≤ s.size
    · rw [if_pos (by omega), if_pos (by omega), if_pos (by omega), decide_eq_true h, tl, tl]
      rw [show ((g.size : Int)).toNat = g.size by omega, ByteArray.extract_extract, show min (a + g.size) s.size = a + g.size by omega]
      rfl
    · rw [if_neg (by omega), decide_eq_false h]
      rfl
  unfold strings_HasPrefix.f
  rw [e, bs]
theorem ext_one (s : ByteArray) (i : Nat) (h : i < s.size) : (s.extract i (i + 1)).data.toList = [s[i]'h] := by
  have e : (s.extract i (i + 1)).data.toList = (s.data.toList.drop i).take 1 := by
    simp [ByteArray.data_extract, Array.toList_extract, List.extract]
  rw [e]
  have hl : i < s.data.toList.length := by simpa using h
  rw [List.drop_eq_getElem_cons hl]
  simp
  rfl
theorem ext_is (s : ByteArray) (i : Nat) (b : UInt8) (h : i < s.size) (hb : bt s (i : Int) = (b.toNat : Int)) : s.extract i (i + 1) = ⟨#[b]⟩ := by
  apply ByteArray.ext
  apply Array.ext'
  rw [ext_one s i h]
  rw [bt_get s i h] at hb
  have : s[i]'h = b := UInt8.toNat_inj.mp (by omega)
  rw [this]
theorem pre_one (s : ByteArray) (i : Nat) (b : UInt8) (h : i < s.size) : pre s i ⟨#[b]⟩ = decide (bt s (i : Int) = (b.toNat : Int)) := by
  unfold pre
  have e1 : (⟨#[b]⟩ : ByteArray).size = 1 := rfl
  rw [e1, decide_eq_true (show i + 1 ≤ s.size by omega), ext_one s i h, bt_get s i h]
  by_cases c : s[i]'h = b
  · rw [c]
    simp
  · have c2 : ¬ ((s[i]'h).toNat : Int) = (b.toNat : Int) := by
      intro h2
      exact c (UInt8.toNat_inj.mp (by omega))
    rw [decide_eq_false c2]
    simp [c]
def ones : List UInt8 := [40, 41, 44, 46, 42, 43, 45, 61, 60, 62]
def sing (s : ByteArray) (i : Nat) : List UInt8 → ByteArray
  | [] => ⟨#[]⟩
  | b :: r => if bt s (i : Int) = (b.toNat : Int) then ⟨#[b]⟩ else sing s i r
theorem find_ones (s : ByteArray) (i : Nat) (h : i < s.size) (l : List UInt8) : ((l.map fun b => (⟨#[b]⟩ : ByteArray)).find? (pre s i)).getD ⟨#[]⟩ = sing s i l := by
  induction l with
  | nil => rfl
  | cons b r ih =>
    rw [List.map_cons, List.find?_cons, pre_one s i b h]
    unfold sing
    by_cases c : bt s (i : Int) = (b.toNat : Int)
    · rw [decide_eq_true c, if_pos c]
      rfl
    · rw [decide_eq_false c, if_neg c]
      exact ih
theorem find_past (s : ByteArray) (i : Nat) (h : s.size ≤ i) : signs.find? (pre s i) = none := by
  rw [List.find?_eq_none]
  intro g hg hp
  have hp2 : i + g.size ≤ s.size := by
    unfold pre at hp
    simp at hp
    exact hp.1
  have hgs : 1 ≤ g.size := by
    unfold signs at hg
    simp only [List.mem_cons, List.not_mem_nil, or_false] at hg
    rcases hg with rfl | rfl | rfl | rfl | rfl | rfl | rfl | rfl | rfl | rfl | rfl | rfl | rfl <;> decide
  omega
def twos : List ByteArray := [⟨#[60, 62]⟩, ⟨#[60, 61]⟩, ⟨#[62, 61]⟩]
theorem signs_split : signs = twos ++ ones.map fun b => (⟨#[b]⟩ : ByteArray) := rfl
theorem find_signs (s : ByteArray) (i : Nat) (h : i < s.size) : (signs.find? (pre s i)).getD ⟨#[]⟩ = (twos.find? (pre s i)).getD (sing s i ones) := by
  rw [signs_split, List.find?_append]
  cases hq : twos.find? (pre s i) with
  | none => simpa using find_ones s i h ones
  | some g => rfl
theorem sign_last (s : ByteArray) (hs : s.size ≤ 140737488355328) (i : Nat) (h : i < s.size) (l : List ByteArray) (k : Nat) (j : Nat) (hj : l.length ≤ j) (hk : 0 < k) : token_Sign.l0 k s i l (l.length : Int) (j : Int) = some (sing s i ones) := by
  obtain ⟨k, rfl⟩ : ∃ m, k = m + 1 := ⟨k - 1, by omega⟩
  have e : wrap64 ((i : Int) + 1) = ((i + 1 : Nat) : Int) := by rw [wt64 (by omega) (by omega)]; omega
  simp only [token_Sign.l0]
  rw [if_neg (show ¬ (j : Int) < (l.length : Int) by omega), if_pos (show (0 : Int) ≤ (i : Int) by omega), if_pos (show (i : Int) < (s.size : Int) by omega), e]
  simp only [if_pos (show (i : Int) ≤ ((i + 1 : Nat) : Int) by omega), if_pos (show ((i + 1 : Nat) : Int) ≤ (s.size : Int) by omega), Int.toNat_natCast]
  unfold ones sing sing sing sing sing sing sing sing sing sing sing
  have step : ∀ (n : Int) (b : UInt8) (x y : ByteArray), n = (b.toNat : Int) → x = y → (if bt s (i : Int) = n then some (s.extract i (i + 1)) else some x) = some (if bt s (i : Int) = (b.toNat : Int) then (⟨#[b]⟩ : ByteArray) else y) := by
    intro n b x y hn hxy
    subst hn; subst hxy
    by_cases c : bt s (i : Int) = (b.toNat : Int)
    · rw [if_pos c, if_pos c, ext_is s i b h c]
    · rw [if_neg c, if_neg c]
  have step2 : ∀ (n : Int) (b : UInt8) (x : Option ByteArray) (y : ByteArray), n = (b.toNat : Int) → x = some y → (if bt s (i : Int) = n then some (s.extract i (i + 1)) else x) = some (if bt s (i : Int) = (b.toNat : Int) then (⟨#[b]⟩ : ByteArray) else y) := by
    intro n b x y hn hxy
    subst hxy
    exact step n b y y hn rfl
  refine step2 40 40 _ _ rfl ?_
  refine step2 41 41 _ _ rfl ?_
  refine step2 44 44 _ _ rfl ?_
  refine step2 46 46 _ _ rfl ?_
  refine step2 42 42 _ _ rfl ?_
  refine step2 43 43 _ _ rfl ?_
  refine step2 45 45 _ _ rfl ?_
  refine step2 61 61 _ _ rfl ?_
  refine step2 60 60 _ _ rfl ?_
  refine step2 62 62 _ _ rfl ?_
  rfl
theorem sign_l0 (s : ByteArray) (hs : s.size ≤ 140737488355328) (i : Nat) (h : i < s.size) (l : List ByteArray) (hl : l.length ≤ 20) (d : Nat) : ∀ (k j : Nat), l.length - j = d → j ≤ l.length → d < k →
    token_Sign.l0 k s i l (l.length : Int) (j : Int) = some (((l.drop j).find? (pre s i)).getD (sing s i ones)) := by
  induction d with
  | zero =>
    intro k j hd hj hk
    rw [sign_last s hs i h l k j (by omega) (by omega), List.drop_of_length_le (by omega)]
    rfl
  | succ d ih =>
    intro k j hd hj hk
    obtain ⟨k, rfl⟩ : ∃ m, k = m + 1 := ⟨k - 1, by omega⟩
    have hjl : j < l.length := by omega
    have e1 : wrap64 ((j : Int) + 1) = ((j + 1 : Nat) : Int) := by rw [wt64 (by omega) (by omega)]; omega
    have hn := ih k (j + 1) (by omega) (by omega) (by omega)
    simp only [token_Sign.l0]
    rw [if_pos (show (j : Int) < (l.length : Int) by omega), if_pos (show (0 : Int) ≤ (j : Int) by omega), if_pos (show (j : Int) < (l.length : Int) by omega), if_pos (show (0 : Int) ≤ (i : Int) by omega), if_pos (show (i : Int) ≤ (s.size : Int) by omega), rdOf_get _ l j hjl, Int.toNat_natCast, hasPrefix_is s i (by omega), bs, e1, hn, List.drop_eq_getElem_cons hjl, List.find?_cons]
    cases pre s i l[j] <;> rfl
theorem sign_is (s : ByteArray) (hs : s.size ≤ 140737488355328) (at_ : Int) (k : Nat) (hk : 6 ≤ k) : token_Sign.f k s at_ = some (sgn s at_) := by
  obtain ⟨k, rfl⟩ : ∃ m, k = m + 1 := ⟨k - 1, by omega⟩
  unfold token_Sign.f sgn
  by_cases h0 : at_ < 0
  · rw [if_pos h0, if_pos h0]
    simp only [token_Sign.j0]
    rfl
  · rw [if_neg h0, if_neg h0]
    obtain ⟨i, rfl⟩ := Int.eq_ofNat_of_zero_le (by omega : 0 ≤ at_)
    rw [Int.toNat_natCast]
    by_cases h1 : (i : Int) ≥ (s.size : Int)
    · rw [decide_eq_true h1, find_past s i (by omega)]
      simp only [token_Sign.j0]
      rfl
    · rw [decide_eq_false h1, find_signs s i (by omega)]
      simp only [token_Sign.j0, bs]
      have := sign_l0 s hs i (by omega) twos (by decide) 3 k 0 rfl (by omega) (by omega)
      exact this
def words : List ByteArray := [⟨#[115, 101, 108, 101, 99, 116]⟩, ⟨#[102, 114, 111, 109]⟩, ⟨#[106, 111, 105, 110]⟩, ⟨#[108, 101, 102, 116]⟩, ⟨#[115, 101, 109, 105]⟩, ⟨#[97, 110, 116, 105]⟩, ⟨#[111, 110]⟩, ⟨#[119, 104, 101, 114, 101]⟩, ⟨#[103, 114, 111, 117, 112]⟩, ⟨#[98, 121]⟩, ⟨#[97, 115]⟩, ⟨#[97, 110, 100]⟩, ⟨#[111, 114]⟩, ⟨#[110, 111, 116]⟩, ⟨#[105, 115]⟩, ⟨#[110, 117, 108, 108]⟩, ⟨#[99, 111, 117, 110, 116]⟩, ⟨#[115, 117, 109]⟩, ⟨#[109, 105, 110]⟩, ⟨#[109, 97, 120]⟩]
def wrd (s : ByteArray) : Bool := words.any fun g => decide (g.data.toList = s.data.toList)
theorem rword_l0 (s : ByteArray) (l : List ByteArray) (hl : l.length ≤ 50) (d : Nat) : ∀ (k j : Nat), l.length - j = d → j ≤ l.length → d < k →
    r05_Word.l0 k s l (j : Int) = some ((l.drop j).any fun g => decide (g.data.toList = s.data.toList)) := by
  induction d with
  | zero =>
    intro k j hd hj hk
    obtain ⟨k, rfl⟩ : ∃ m, k = m + 1 := ⟨k - 1, by omega⟩
    simp only [r05_Word.l0]
    rw [if_neg (by omega), List.drop_of_length_le (by omega)]
    rfl
  | succ d ih =>
    intro k j hd hj hk
    obtain ⟨k, rfl⟩ : ∃ m, k = m + 1 := ⟨k - 1, by omega⟩
    have hjl : j < l.length := by omega
    have e1 : wrap64 ((j : Int) + 1) = ((j + 1 : Nat) : Int) := by rw [wt64 (by omega) (by omega)]; omega
    have hn := ih k (j + 1) (by omega) (by omega) (by omega)
    simp only [r05_Word.l0]
    rw [if_pos (show (j : Int) < (l.length : Int) by omega), if_pos (show (0 : Int) ≤ (j : Int) by omega), rdOf_get _ l j hjl, e1, hn, List.drop_eq_getElem_cons hjl, List.any_cons, tl, tl]
    by_cases c : l[j].data.toList = s.data.toList
    · rw [if_pos c, decide_eq_true c]
      rfl
    · rw [if_neg c, decide_eq_false c]
      rfl
theorem rword_is (s : ByteArray) (k : Nat) (hk : 21 ≤ k) : r05_Word.f k s = some (wrd s) := by
  unfold r05_Word.f
  exact rword_l0 s words (by decide) 20 k 0 rfl (by omega) (by omega)
theorem word_is (s : ByteArray) (k : Nat) (hk : 2 ≤ k) : schema_Word.f k s = some (wrd s) := by
  obtain ⟨k, rfl⟩ : ∃ m, k = m + 1 := ⟨k - 1, by omega⟩
  unfold wrd words
  have hd : ∀ (a : List UInt8), decide (a = s.data.toList) = decide (s.data.toList = a) := fun a => by
    by_cases c : a = s.data.toList
    · rw [decide_eq_true c, decide_eq_true c.symm]
    · rw [decide_eq_false c, decide_eq_false (fun h => c h.symm)]
  simp only [List.any_cons, List.any_nil, hd, Bool.or_false]
  unfold schema_Word.f
  simp only [schema_Word.j0, tl]
  generalize s.data.toList = L
  by_cases h0 : L = [115, 101, 108, 101, 99, 116]
  · simp [h0]
  by_cases h1 : L = [102, 114, 111, 109]
  · simp [h1]
  by_cases h2 : L = [106, 111, 105, 110]
  · simp [h2]
  by_cases h3 : L = [108, 101, 102, 116]
  · simp [h3]
  by_cases h4 : L = [115, 101, 109, 105]
  · simp [h4]
  by_cases h5 : L = [97, 110, 116, 105]
  · simp [h5]
  by_cases h6 : L = [111, 110]
  · simp [h6]
  by_cases h7 : L = [119, 104, 101, 114, 101]
  · simp [h7]
  by_cases h8 : L = [103, 114, 111, 117, 112]
  · simp [h8]
  by_cases h9 : L = [98, 121]
  · simp [h9]
  by_cases h10 : L = [97, 115]
  · simp [h10]
  by_cases h11 : L = [97, 110, 100]
  · simp [h11]
  by_cases h12 : L = [111, 114]
  · simp [h12]
  by_cases h13 : L = [110, 111, 116]
  · simp [h13]
  by_cases h14 : L = [105, 115]
  · simp [h14]
  by_cases h15 : L = [110, 117, 108, 108]
  · simp [h15]
  by_cases h16 : L = [99, 111, 117, 110, 116]
  · simp [h16]
  by_cases h17 : L = [115, 117, 109]
  · simp [h17]
  by_cases h18 : L = [109, 105, 110]
  · simp [h18]
  by_cases h19 : L = [109, 97, 120]
  · simp [h19]
  simp [h0, h1, h2, h3, h4, h5, h6, h7, h8, h9, h10, h11, h12, h13, h14, h15, h16, h17, h18, h19]
def stp (p : Int → Bool) (s : ByteArray) : Nat → Nat → Nat
  | 0, i => i
  | d + 1, i => if p (bt s (i : Int)) then stp p s d (i + 1) else i
theorem stp_succ (p : Int → Bool) (s : ByteArray) (d i : Nat) : stp p s (d + 1) i = if p (bt s (i : Int)) then stp p s d (i + 1) else i := rfl
theorem stp_ge (p : Int → Bool) (s : ByteArray) (d : Nat) : ∀ i, i ≤ stp p s d i := by
  induction d with
  | zero => intro i; exact Nat.le_refl _
  | succ d ih =>
    intro i
    unfold stp
    split
    · exact Nat.le_trans (Nat.le_succ i) (ih (i + 1))
    · exact Nat.le_refl _
theorem stp_le (p : Int → Bool) (s : ByteArray) (d : Nat) : ∀ i, stp p s d i ≤ i + d := by
  induction d with
  | zero => intro i; exact Nat.le_refl _
  | succ d ih =>
    intro i
    unfold stp
    split
    · have := ih (i + 1); omega
    · omega
def nmb (c : Int) : Bool := ltr c || dgt c
theorem nb_is : token_name.nb = nmb := by
  funext c
  unfold token_name.nb nmb ltr dgt
  rfl
theorem stop_is (s : ByteArray) (d : Nat) : ∀ i, token_name.stop s d i = stp nmb s d i := by
  induction d with
  | zero => intro i; rfl
  | succ d ih =>
    intro i
    unfold token_name.stop stp
    rw [nb_is, ih]
def nameR (s : ByteArray) (at0 : Int) (i e : Nat) : Int × ByteArray × Int × Int × Int × Int :=
  if (e : Int) - i > 32 then (0, ⟨#[]⟩, 0, 0, at0, 1)
  else if wrd (s.extract i e) then (2, s.extract i e, 0, i, e, 0) else (1, s.extract i e, 0, i, e, 0)
theorem name_is (s : ByteArray) (hs : s.size ≤ 140737488355328) (i : Nat) (hi : i ≤ s.size) (k : Nat) (hk : 2 ≤ k) : token_name.f k s i = some (nameR s i i (stp nmb s (s.size - i) i)) := by
  unfold token_name.f nameR
  rw [if_pos ⟨by omega, by omega, by omega⟩, Int.toNat_natCast, stop_is]
  have h1 := stp_ge nmb s (s.size - i) i
  have h2 := stp_le nmb s (s.size - i) i
  generalize stp nmb s (s.size - i) i = e at *
  by_cases c : (e : Int) - (i : Int) > 32
  · rw [if_pos c, if_pos c]
  · rw [if_neg c, if_neg c, word_is _ k hk, bs]
    cases wrd (s.extract i e) <;> rfl
theorem rname_j5 (s : ByteArray) (hs : s.size ≤ 140737488355328) (at0 : Int) (i e : Nat) (hi : i ≤ e) (he : e ≤ s.size) (k : Nat) (hk : 22 ≤ k) : r07_One.j5 k s at0 i e = some (nameR s at0 i e) := by
  obtain ⟨k, rfl⟩ : ∃ m, k = m + 1 := ⟨k - 1, by omega⟩
  simp only [r07_One.j5]
  unfold nameR
  rw [wt64 (n := (e : Int) - i) (by omega) (by omega)]
  by_cases c : (e : Int) - (i : Int) > 32
  · rw [if_pos c, if_pos c]
  · rw [if_neg c, if_neg c, if_pos (show (0 : Int) ≤ (i : Int) by omega), if_pos (show (i : Int) ≤ (e : Int) by omega), if_pos (show (e : Int) ≤ (s.size : Int) by omega), Int.toNat_natCast, Int.toNat_natCast, rword_is _ k (by omega), bs]
    cases wrd (s.extract i e) <;> rfl
theorem rname_l1 (s : ByteArray) (hs : s.size ≤ 140737488355328) (at0 : Int) (i : Nat) (d : Nat) : ∀ (k j : Nat), s.size - j = d → j ≤ s.size → i ≤ j → d + 22 < k →
    r07_One.l1 k s at0 i (j : Int) = some (nameR s at0 i (stp nmb s d j)) := by
  induction d with
  | zero =>
    intro k j hd hj hi hk
    obtain ⟨k, rfl⟩ : ∃ m, k = m + 1 := ⟨k - 1, by omega⟩
    simp only [r07_One.l1]
    rw [if_neg (by omega), rname_j5 s hs at0 i j hi hj k (by omega)]
    rfl
  | succ d ih =>
    intro k j hd hj hi hk
    obtain ⟨k, rfl⟩ : ∃ m, k = m + 1 := ⟨k - 1, by omega⟩
    have e1 : wrap64 ((j : Int) + 1) = ((j + 1 : Nat) : Int) := by rw [wt64 (by omega) (by omega)]; omega
    have hn := ih k (j + 1) (by omega) (by omega) (by omega) (by omega)
    simp only [r07_One.l1]
    rw [if_pos (show (j : Int) < (s.size : Int) by omega), if_pos (show (0 : Int) ≤ (j : Int) by omega), rletter_is, bs, rdigit_is, bs, e1, hn, rname_j5 s hs at0 i j hi hj k (by omega)]
    rw [stp_succ]
    have en : nmb (bt s (j : Int)) = (ltr (bt s (j : Int)) || dgt (bt s (j : Int))) := rfl
    rw [en]
    cases ltr (bt s (j : Int)) <;> cases dgt (bt s (j : Int)) <;> rfl
def nv (s : ByteArray) : Nat → Nat → Int → Option Int
  | 0, _, v => some v
  | d + 1, i, v => if v > (9223372036854775807 - (bt s (i : Int) - 48)) / 10 then none else nv s d (i + 1) (10 * v + (bt s (i : Int) - 48))
theorem nv_succ (s : ByteArray) (d i : Nat) (v : Int) : nv s (d + 1) i v = if v > (9223372036854775807 - (bt s (i : Int) - 48)) / 10 then none else nv s d (i + 1) (10 * v + (bt s (i : Int) - 48)) := rfl
def numE (s : ByteArray) (at0 : Int) (i e : Nat) : Option Int → Int × ByteArray × Int × Int × Int × Int
  | none => (0, ⟨#[]⟩, 0, 0, at0, 1)
  | some n => if e < s.size ∧ ltr (bt s (e : Int)) = true then (0, ⟨#[]⟩, 0, 0, at0, 1) else (3, s.extract i e, n, i, e, 0)
def numR (s : ByteArray) (at0 : Int) (i j e : Nat) (v : Int) : Int × ByteArray × Int × Int × Int × Int := numE s at0 i e (nv s (e - j) j v)
theorem dgt_range {c : Int} (h : dgt c = true) : 48 ≤ c ∧ c ≤ 57 := by
  unfold dgt at h
  exact of_decide_eq_true h
theorem number_stop (s : ByteArray) (hs : s.size ≤ 140737488355328) (i j : Nat) (hi : i ≤ j) (hj : j ≤ s.size) (v : Int) (k : Nat) (hk : 0 < k) : token_number.j1 k s i v (j : Int) false = some (numR s i i j j v) := by
  obtain ⟨k, rfl⟩ : ∃ m, k = m + 1 := ⟨k - 1, by omega⟩
  simp only [token_number.j1]
  unfold numR
  rw [Nat.sub_self]
  unfold nv numE
  simp only [Bool.false_eq_true, if_false]
  by_cases c : j < s.size
  · rw [if_pos (show (j : Int) < (s.size : Int) by omega), if_pos (show (0 : Int) ≤ (j : Int) by omega), letter_is, bs]
    by_cases l : ltr (bt s (j : Int)) = true
    · rw [if_pos l, if_pos ⟨c, l⟩]
    · rw [if_neg l, if_pos (show (0 : Int) ≤ (i : Int) by omega), if_pos (show (i : Int) ≤ (j : Int) by omega), if_pos (show (j : Int) ≤ (s.size : Int) by omega), if_neg (show ¬ (j < s.size ∧ ltr (bt s (j : Int)) = true) from fun h => l h.2)]
      rfl
  · rw [if_neg (show ¬ (j : Int) < (s.size : Int) by omega), if_pos (show (0 : Int) ≤ (i : Int) by omega), if_pos (show (i : Int) ≤ (j : Int) by omega), if_pos (show (j : Int) ≤ (s.size : Int) by omega), if_neg (show ¬ (j < s.size ∧ ltr (bt s (j : Int)) = true) from fun h => c h.1)]
    rfl
theorem number_l0 (s : ByteArray) (hs : s.size ≤ 140737488355328) (i : Nat) (d : Nat) : ∀ (k j : Nat) (v : Int), s.size - j = d → j ≤ s.size → i ≤ j → 0 ≤ v → v ≤ 9223372036854775807 → 2 * d + 3 < k →
    token_number.l0 k s i v (j : Int) = some (numR s i i j (stp dgt s d j) v) := by
  induction d with
  | zero =>
    intro k j v hd hj hi h0 h1 hk
    obtain ⟨k, rfl⟩ : ∃ m, k = m + 1 := ⟨k - 1, by omega⟩
    simp only [token_number.l0]
    rw [if_neg (by omega), number_stop s hs i j hi hj v k (by omega)]
    rfl
  | succ d ih =>
    intro k j v hd hj hi h0 h1 hk
    obtain ⟨k, rfl⟩ : ∃ m, k = m + 2 := ⟨k - 2, by omega⟩
    simp only [token_number.l0]
    rw [if_pos (show (j : Int) < (s.size : Int) by omega), if_pos (show (0 : Int) ≤ (j : Int) by omega), digit_is, bs]
    cases hq : dgt (bt s (j : Int)) with
    | false =>
      rw [number_stop s hs i j hi hj v (k + 1) (by omega), stp_succ, hq]
      rfl
    | true =>
      obtain ⟨b0, b1⟩ := dgt_range hq
      have e0 : (bt s (j : Int) - 48) % 256 = bt s (j : Int) - 48 := by omega
      have e1 : wrap64 ((j : Int) + 1) = ((j + 1 : Nat) : Int) := by rw [wt64 (by omega) (by omega)]; omega
      have ge := stp_ge dgt s d (j + 1)
      simp only [token_number.j1, if_true]
      rw [if_pos (show (0 : Int) ≤ (j : Int) by omega), if_pos (show (j : Int) < (s.size : Int) by omega), e0, stp_succ, hq, if_pos rfl]
      unfold numR
      rw [show stp dgt s d (j + 1) - j = (stp dgt s d (j + 1) - (j + 1)) + 1 by omega, nv_succ]
      by_cases c : v > (9223372036854775807 - (bt s (j : Int) - 48)) / 10
      · rw [if_pos c, if_pos c]
        rfl
      · have c2 : 10 * v + (bt s (j : Int) - 48) ≤ 9223372036854775807 := by omega
        rw [if_neg c, if_neg c, wt64 (n := 10 * v) (by omega) (by omega), wt64 (by omega) (by omega), e1, ih k (j + 1) _ (by omega) (by omega) (by omega) (by omega) (by omega) (by omega)]
        rfl
theorem number_is (s : ByteArray) (hs : s.size ≤ 140737488355328) (i : Nat) (hi : i ≤ s.size) (k : Nat) (hk : 2 * s.size + 3 < k) : token_number.f k s i = some (numR s i i i (stp dgt s (s.size - i) i) 0) := by
  unfold token_number.f
  exact number_l0 s hs i (s.size - i) k i 0 rfl hi (by omega) (by omega) (by omega) (by omega)
theorem over_iff (v c : Int) (b0 : 48 ≤ c) (b1 : c ≤ 57) : v > (9223372036854775807 - (c - 48)) / 10 ↔ (v > 922337203685477580 ∨ (v = 922337203685477580 ∧ c - 48 > 7)) := by omega
theorem fits_of (v c : Int) (b0 : 48 ≤ c) (b1 : c ≤ 57) (h0 : 0 ≤ v) (h : ¬ (v > 922337203685477580 ∨ (v = 922337203685477580 ∧ c - 48 > 7))) : 0 ≤ 10 * v + (c - 48) ∧ 10 * v + (c - 48) ≤ 9223372036854775807 := by omega
theorem bt_ext (s : ByteArray) (i e p : Nat) (hp : i + p < e) (he : e ≤ s.size) : bt (s.extract i e) (p : Int) = bt s ((i + p : Nat) : Int) := by
  have h1 : p < (s.extract i e).size := by rw [ByteArray.size_extract]; omega
  rw [bt_get _ p h1, bt_get s (i + p) (by omega)]
  have e1 : (s.extract i e)[p]'h1 = s[i + p]'(by omega) := ByteArray.getElem_extract h1
  rw [e1]
def okv : Option Int → Int × Bool
  | none => (0, false)
  | some n => (n, true)
theorem rnumber_t (s t : ByteArray) (i n : Nat) (hn : t.size = n) (hs : n ≤ 140737488355328) (hb : ∀ p, p < n → bt t (p : Int) = bt s ((i + p : Nat) : Int)) (hdg : ∀ p, p < n → dgt (bt s ((i + p : Nat) : Int)) = true) (d : Nat) : ∀ (k p : Nat) (v : Int), n - p = d → p ≤ n → 0 ≤ v → v ≤ 9223372036854775807 → d < k →
    r07_number.l0 k t v (p : Int) = some (okv (nv s d (i + p) v)) := by
  induction d with
  | zero =>
    intro k p v hd hp h0 h1 hk
    obtain ⟨k, rfl⟩ : ∃ m, k = m + 1 := ⟨k - 1, by omega⟩
    simp only [r07_number.l0]
    rw [hn, if_neg (by omega)]
    rfl
  | succ d ih =>
    intro k p v hd hp h0 h1 hk
    obtain ⟨k, rfl⟩ : ∃ m, k = m + 1 := ⟨k - 1, by omega⟩
    have hpn : p < n := by omega
    obtain ⟨b0, b1⟩ := dgt_range (hdg p hpn)
    have e1 : wrap64 ((p : Int) + 1) = ((p + 1 : Nat) : Int) := by rw [wt64 (by omega) (by omega)]; omega
    have hn2 := fun v h0 h1 => ih k (p + 1) v (by omega) (by omega) h0 h1 (by omega)
    simp only [r07_number.l0]
    rw [hn, if_pos (show (p : Int) < (n : Int) by omega), if_pos (show (0 : Int) ≤ (p : Int) by omega), hb p hpn, e1, nv_succ]
    rw [show i + (p + 1) = i + p + 1 by omega] at hn2
    clear ih hb hdg e1 hd
    generalize bt s ((i + p : Nat) : Int) = c at *
    have ew : wrap64 (wrap64 c - 48) = c - 48 := by rw [wt64 (n := c) (by omega) (by omega), wt64 (by omega) (by omega)]
    rw [ew]
    have ov := over_iff v c b0 b1
    by_cases cc : v > 922337203685477580 ∨ (v = 922337203685477580 ∧ c - 48 > 7)
    · rw [if_pos (ov.mpr cc)]
      rcases cc with c1 | ⟨c1, c2⟩
      · rw [if_pos c1]
        rfl
      · rw [if_neg (show ¬ v > 922337203685477580 by omega), if_pos c1, if_pos c2]
        rfl
    · obtain ⟨f0, f1⟩ := fits_of v c b0 b1 h0 cc
      have hw : wrap64 (wrap64 (10 * v) + (c - 48)) = 10 * v + (c - 48) := by rw [wt64 (n := 10 * v) (by omega) (by omega), wt64 (by omega) (by omega)]
      rw [if_neg (fun h => cc (ov.mp h)), hw, hn2 _ f0 f1, if_neg (show ¬ v > 922337203685477580 from fun h => cc (Or.inl h))]
      by_cases c2 : v = 922337203685477580
      · rw [if_pos c2, if_neg (show ¬ c - 48 > 7 from fun h => cc (Or.inr ⟨c2, h⟩))]
      · rw [if_neg c2]
theorem rnumber_l0 (s : ByteArray) (hs : s.size ≤ 140737488355328) (i e : Nat) (hi : i ≤ e) (he : e ≤ s.size) (hdg : ∀ p, i ≤ p → p < e → dgt (bt s (p : Int)) = true) (k : Nat) (hk : e - i < k) :
    r07_number.l0 k (s.extract i e) 0 0 = some (okv (nv s (e - i) i 0)) := by
  have hsz : (s.extract i e).size = e - i := by rw [ByteArray.size_extract]; omega
  exact rnumber_t s (s.extract i e) i (e - i) hsz (by omega) (fun p hp => bt_ext s i e p (by omega) he) (fun p hp => hdg (i + p) (by omega) (by omega)) (e - i) k 0 0 (by omega) (by omega) (by omega) (by omega) hk
theorem rnumber_j7 (s : ByteArray) (hs : s.size ≤ 140737488355328) (at0 : Int) (i e : Nat) (hi : i ≤ e) (he : e ≤ s.size) (hdg : ∀ p, i ≤ p → p < e → dgt (bt s (p : Int)) = true) (k : Nat) (hk : s.size + 2 < k) : r07_One.j7 k s at0 i e = some (numR s at0 i i e 0) := by
  obtain ⟨k, rfl⟩ : ∃ m, k = m + 1 := ⟨k - 1, by omega⟩
  have hn := rnumber_l0 s hs i e hi he hdg k (by omega)
  simp only [r07_One.j7]
  unfold r07_number.f
  rw [if_pos (show (0 : Int) ≤ (i : Int) by omega), if_pos (show (i : Int) ≤ (e : Int) by omega), if_pos (show (e : Int) ≤ (s.size : Int) by omega), Int.toNat_natCast, Int.toNat_natCast]
  rw [hn, bs, rletter_is]
  unfold numR
  cases nv s (e - i) i 0 with
  | none => rfl
  | some n =>
    unfold okv numE
    simp only [if_true, bs]
    by_cases c : e < s.size
    · rw [if_pos (show (e : Int) < (s.size : Int) by omega), if_pos (show (0 : Int) ≤ (e : Int) by omega)]
      by_cases l : ltr (bt s (e : Int)) = true
      · rw [if_pos l, if_pos ⟨c, l⟩]
      · rw [if_neg l, if_neg (show ¬ (e < s.size ∧ ltr (bt s (e : Int)) = true) from fun h => l h.2)]
    · rw [if_neg (show ¬ (e : Int) < (s.size : Int) by omega), if_neg (show ¬ (e < s.size ∧ ltr (bt s (e : Int)) = true) from fun h => c h.1)]
theorem rnumber_l2 (s : ByteArray) (hs : s.size ≤ 140737488355328) (at0 : Int) (i : Nat) (d : Nat) : ∀ (k j : Nat), s.size - j = d → j ≤ s.size → i ≤ j → (∀ p, i ≤ p → p < j → dgt (bt s (p : Int)) = true) → d + s.size + 3 < k →
    r07_One.l2 k s at0 i (j : Int) = some (numR s at0 i i (stp dgt s d j) 0) := by
  induction d with
  | zero =>
    intro k j hd hj hi hp hk
    obtain ⟨k, rfl⟩ : ∃ m, k = m + 1 := ⟨k - 1, by omega⟩
    simp only [r07_One.l2]
    rw [if_neg (by omega), rnumber_j7 s hs at0 i j hi hj hp k (by omega)]
    rfl
  | succ d ih =>
    intro k j hd hj hi hp hk
    obtain ⟨k, rfl⟩ : ∃ m, k = m + 1 := ⟨k - 1, by omega⟩
    have e1 : wrap64 ((j : Int) + 1) = ((j + 1 : Nat) : Int) := by rw [wt64 (by omega) (by omega)]; omega
    simp only [r07_One.l2]
    rw [if_pos (show (j : Int) < (s.size : Int) by omega), if_pos (show (0 : Int) ≤ (j : Int) by omega), rdigit_is, bs, e1, stp_succ]
    by_cases c : dgt (bt s (j : Int)) = true
    · rw [if_pos c, if_pos c]
      refine ih k (j + 1) (by omega) (by omega) (by omega) ?_ (by omega)
      intro p h1 h2
      by_cases hq : p = j
      · rw [hq]; exact c
      · exact hp p h1 (by omega)
    · rw [if_neg c, if_neg c]
      exact rnumber_j7 s hs at0 i j hi hj hp k (by omega)
def tx (s : ByteArray) : Nat → Nat → List Int → Int × List Int × Nat
  | 0, _, _ => (1, [], 0)
  | d + 1, i, acc => if i < s.size then (if bt s (i : Int) = 39 then (if i + 1 < s.size ∧ bt s ((i + 1 : Nat) : Int) = 39 then tx s d (i + 2) (acc ++ [39]) else if acc.length > 65536 then (4, [], 0) else (0, acc, i + 1)) else tx s d (i + 1) (acc ++ [bt s (i : Int)])) else (1, [], 0)
theorem tx_succ (s : ByteArray) (d i : Nat) (acc : List Int) : tx s (d + 1) i acc = if i < s.size then (if bt s (i : Int) = 39 then (if i + 1 < s.size ∧ bt s ((i + 1 : Nat) : Int) = 39 then tx s d (i + 2) (acc ++ [39]) else if acc.length > 65536 then (4, [], 0) else (0, acc, i + 1)) else tx s d (i + 1) (acc ++ [bt s (i : Int)])) else (1, [], 0) := rfl
def txR (at0 : Int) (i : Nat) (r : Int × List Int × Nat) : Int × ByteArray × Int × Int × Int × Int :=
  if r.1 = 0 then (4, strOfNums r.2.1, 0, i, r.2.2, 0) else (0, ⟨#[]⟩, 0, 0, at0, r.1)
theorem nums_snoc (acc : List Int) (s : ByteArray) (i : Nat) (h : i < s.size) : strOfNums (acc ++ [bt s (i : Int)]) = strOfNums acc ++ s.extract i (i + 1) := by
  apply ByteArray.ext
  apply Array.ext'
  rw [ByteArray.data_append, Array.toList_append, ext_one s i h, strOfNums_data, strOfNums_data, List.map_append, bt_get s i h]
  simp
theorem nums_quote (acc : List Int) : strOfNums (acc ++ [39]) = strOfNums acc ++ ⟨#[39]⟩ := by
  apply ByteArray.ext
  apply Array.ext'
  rw [ByteArray.data_append, Array.toList_append, strOfNums_data, strOfNums_data, List.map_append]
  rfl
theorem text_l0 (s : ByteArray) (hs : s.size ≤ 140737488355328) (i : Nat) (d : Nat) : ∀ (k j : Nat) (acc : List Int), s.size + 1 - j ≤ d → j ≤ s.size + 1 → acc.length ≤ j → 2 * d + 2 < k →
    token_text.l0 k s i acc (j : Int) = some (txR i i (tx s d j acc)) := by
  induction d with
  | zero =>
    intro k j acc hd hj ha hk
    obtain ⟨k, rfl⟩ : ∃ m, k = m + 1 := ⟨k - 1, by omega⟩
    simp only [token_text.l0]
    rw [if_neg (by omega)]
    rfl
  | succ d ih =>
    intro k j acc hd hj ha hk
    obtain ⟨k, rfl⟩ : ∃ m, k = m + 2 := ⟨k - 2, by omega⟩
    simp only [token_text.l0]
    rw [tx_succ]
    by_cases c : j < s.size
    · have e1 : wrap64 ((j : Int) + 1) = ((j + 1 : Nat) : Int) := by rw [wt64 (by omega) (by omega)]; omega
      have e2 : wrap64 (((j + 1 : Nat) : Int) + 1) = ((j + 2 : Nat) : Int) := by rw [wt64 (by omega) (by omega)]; omega
      have e3 : wrap64 ((j : Int) + 2) = ((j + 2 : Nat) : Int) := by rw [wt64 (by omega) (by omega)]; omega
      have sz : (strOfNums acc).size = acc.length := strOfNums_size acc
      rw [if_pos (show (j : Int) < (s.size : Int) by omega), if_pos (show (0 : Int) ≤ (j : Int) by omega), if_pos c, e1]
      by_cases q : bt s (j : Int) = 39
      · rw [if_pos q, if_pos q]
        have endq : token_text.j1 (k + 1) s i acc (j : Int) false = some (txR i i (if acc.length > 65536 then (4, [], 0) else (0, acc, j + 1))) := by
          simp only [token_text.j1, Bool.false_eq_true, if_false]
          rw [e1]
          by_cases l : acc.length > 65536
          · rw [if_pos (show (acc.length : Int) > 65536 by omega), if_pos l]
            rfl
          · rw [if_neg (show ¬ (acc.length : Int) > 65536 by omega), if_neg l]
            rfl
        by_cases c2 : j + 1 < s.size
        · rw [if_pos (show ((j + 1 : Nat) : Int) < (s.size : Int) by omega), if_pos (show (0 : Int) ≤ ((j + 1 : Nat) : Int) by omega)]
          by_cases q2 : bt s ((j + 1 : Nat) : Int) = 39
          · rw [beq_iff_eq.mpr q2, if_pos ⟨c2, q2⟩]
            simp only [token_text.j1, if_true]
            rw [if_pos (show acc.length < 140737488355328 by omega), e1, e2]
            exact ih k (j + 2) (acc ++ [39]) (by omega) (by omega) (by simp; omega) (by omega)
          · rw [beq_eq_false_iff_ne.mpr q2, if_neg (fun h => q2 h.2)]
            exact endq
        · rw [if_neg (show ¬ ((j + 1 : Nat) : Int) < (s.size : Int) by omega), if_neg (fun h => c2 h.1)]
          exact endq
      · have sz1 : (s.extract j (j + 1)).size = 1 := by rw [ByteArray.size_extract]; omega
        rw [if_neg q, if_neg q, if_pos (show acc.length < 140737488355328 by omega)]
        exact ih (k + 1) (j + 1) (acc ++ [bt s (j : Int)]) (by omega) (by omega) (by simp; omega) (by omega)
    · rw [if_neg (show ¬ (j : Int) < (s.size : Int) by omega), if_neg c]
      rfl
theorem rtext_l0 (s : ByteArray) (hs : s.size ≤ 140737488355328) (at0 : Int) (i : Nat) (d : Nat) : ∀ (k j : Nat) (acc : List Int), s.size + 1 - j ≤ d → j ≤ s.size + 1 → acc.length ≤ j → 2 * d + 2 < k →
    r07_text.l0 k s at0 i (strOfNums acc) (j : Int) = some (txR at0 i (tx s d j acc)) := by
  induction d with
  | zero =>
    intro k j acc hd hj ha hk
    obtain ⟨k, rfl⟩ : ∃ m, k = m + 1 := ⟨k - 1, by omega⟩
    simp only [r07_text.l0]
    rw [if_neg (by omega)]
    rfl
  | succ d ih =>
    intro k j acc hd hj ha hk
    obtain ⟨k, rfl⟩ : ∃ m, k = m + 2 := ⟨k - 2, by omega⟩
    simp only [r07_text.l0]
    rw [tx_succ]
    by_cases c : j < s.size
    · have e1 : wrap64 ((j : Int) + 1) = ((j + 1 : Nat) : Int) := by rw [wt64 (by omega) (by omega)]; omega
      have e2 : wrap64 (((j + 1 : Nat) : Int) + 1) = ((j + 2 : Nat) : Int) := by rw [wt64 (by omega) (by omega)]; omega
      have e3 : wrap64 ((j : Int) + 2) = ((j + 2 : Nat) : Int) := by rw [wt64 (by omega) (by omega)]; omega
      have sz : (strOfNums acc).size = acc.length := strOfNums_size acc
      rw [if_pos (show (j : Int) < (s.size : Int) by omega), if_pos (show (0 : Int) ≤ (j : Int) by omega), if_pos c, e1]
      by_cases q : bt s (j : Int) = 39
      · rw [if_pos q, if_pos q]
        have endq : r07_text.j1 (k + 1) s at0 i (strOfNums acc) (j : Int) false = some (txR at0 i (if acc.length > 65536 then (4, [], 0) else (0, acc, j + 1))) := by
          simp only [r07_text.j1, Bool.false_eq_true, if_false]
          rw [sz, e1]
          by_cases l : acc.length > 65536
          · rw [if_pos (show (acc.length : Int) > 65536 by omega), if_pos l]
            rfl
          · rw [if_neg (show ¬ (acc.length : Int) > 65536 by omega), if_neg l]
            rfl
        by_cases c2 : j + 1 < s.size
        · rw [if_pos (show ((j + 1 : Nat) : Int) < (s.size : Int) by omega), if_pos (show (0 : Int) ≤ ((j + 1 : Nat) : Int) by omega)]
          by_cases q2 : bt s ((j + 1 : Nat) : Int) = 39
          · rw [beq_iff_eq.mpr q2, if_pos ⟨c2, q2⟩]
            simp only [r07_text.j1, if_true]
            rw [if_pos (show (strOfNums acc).size + 1 ≤ 9223372036854775807 by omega), e3, ← nums_quote]
            exact ih k (j + 2) (acc ++ [39]) (by omega) (by omega) (by simp; omega) (by omega)
          · rw [beq_eq_false_iff_ne.mpr q2, if_neg (fun h => q2 h.2)]
            exact endq
        · rw [if_neg (show ¬ ((j + 1 : Nat) : Int) < (s.size : Int) by omega), if_neg (fun h => c2 h.1)]
          exact endq
      · have sz1 : (s.extract j (j + 1)).size = 1 := by rw [ByteArray.size_extract]; omega
        rw [if_neg q, if_neg q, if_pos (show (j : Int) ≤ ((j + 1 : Nat) : Int) by omega), if_pos (show ((j + 1 : Nat) : Int) ≤ (s.size : Int) by omega), Int.toNat_natCast, Int.toNat_natCast, if_pos (show (strOfNums acc).size + (s.extract j (j + 1)).size ≤ 9223372036854775807 by omega), ← nums_snoc acc s j c]
        exact ih (k + 1) (j + 1) (acc ++ [bt s (j : Int)]) (by omega) (by omega) (by simp; omega) (by omega)
    · rw [if_neg (show ¬ (j : Int) < (s.size : Int) by omega), if_neg c]
      rfl
def strip (from_ : Int) (r : Int × ByteArray × Int × Int × Int × Int) : Int × ByteArray × Int × Int × Int × Int :=
  if r.2.2.2.2.2 = 0 then (r.1, r.2.1, r.2.2.1, r.2.2.2.1, r.2.2.2.2.1, 0) else (0, ⟨#[]⟩, 0, 0, from_, r.2.2.2.2.2)
def tokR (s : ByteArray) (from_ : Int) (i : Nat) : Int × ByteArray × Int × Int × Int × Int :=
  if i = s.size then (0, ⟨#[]⟩, 0, i, i, 0)
  else if ltr (bt s (i : Int)) then nameR s from_ i (stp nmb s (s.size - i) i)
  else if dgt (bt s (i : Int)) then numR s from_ i i (stp dgt s (s.size - i) i) 0
  else if bt s (i : Int) = 39 then txR from_ i (tx s s.size (i + 1) [])
  else if (sgn s i).data.toList = [] then (0, ⟨#[]⟩, 0, 0, from_, 1) else (5, sgn s i, 0, i, (i : Int) + (sgn s i).size, 0)
def clamp (s : ByteArray) (a : Int) : Nat := if a < 0 then 0 else if a > s.size then s.size else a.toNat
def oneR (s : ByteArray) (a : Int) : Int × ByteArray × Int × Int × Int × Int := tokR s (clamp s a) (stp blk s (s.size - clamp s a) (clamp s a))
theorem strip_name (s : ByteArray) (f : Int) (i e : Nat) : strip f (nameR s i i e) = nameR s f i e := by
  unfold nameR
  by_cases c : (e : Int) - (i : Int) > 32
  · rw [if_pos c, if_pos c]; rfl
  · rw [if_neg c, if_neg c]
    cases wrd (s.extract i e) <;> rfl
theorem strip_num (s : ByteArray) (f : Int) (i j e : Nat) (v : Int) : strip f (numR s i i j e v) = numR s f i j e v := by
  unfold numR
  cases nv s (e - j) j v with
  | none => rfl
  | some n =>
    unfold numE
    by_cases c : e < s.size ∧ ltr (bt s (e : Int)) = true
    · simp only [if_pos c]; rfl
    · simp only [if_neg c]; rfl
theorem strip_tx (f : Int) (i : Nat) (r : Int × List Int × Nat) : strip f (txR i i r) = txR f i r := by
  unfold txR
  by_cases c : r.1 = 0
  · rw [if_pos c, if_pos c]; rfl
  · rw [if_neg c, if_neg c]
    unfold strip
    rw [if_neg c]
theorem sgn_size (s : ByteArray) (i : Int) : (sgn s i).size ≤ 2 := by
  unfold sgn
  split
  · decide
  · cases h : signs.find? (pre s i.toNat) with
    | none => decide
    | some g =>
      have hg := List.mem_of_find?_eq_some h
      unfold signs at hg
      simp only [List.mem_cons, List.not_mem_nil, or_false] at hg
      rcases hg with rfl | rfl | rfl | rfl | rfl | rfl | rfl | rfl | rfl | rfl | rfl | rfl | rfl <;> decide
theorem one_j1 (s : ByteArray) (hs : s.size ≤ 140737488355328) (f : Int) (i : Nat) (hi : i ≤ s.size) (k : Nat) (hk : 2 * s.size + 10 < k) : token_One.j1 k s f i = some (tokR s f i) := by
  obtain ⟨k, rfl⟩ : ∃ m, k = m + 1 := ⟨k - 1, by omega⟩
  simp only [token_One.j1]
  rw [sign_is s hs i k (by omega), bs]
  unfold tokR
  by_cases c : i = s.size
  · rw [if_pos (show (i : Int) = (s.size : Int) by omega), if_pos c]
  · rw [if_neg (show ¬ (i : Int) = (s.size : Int) by omega), if_neg c, if_pos (show (0 : Int) ≤ (i : Int) by omega), if_pos (show (i : Int) < (s.size : Int) by omega), letter_is, bs]
    by_cases l : ltr (bt s (i : Int)) = true
    · rw [if_pos l, if_pos l, name_is s hs i hi k (by omega), bs, ← strip_name s f i (stp nmb s (s.size - i) i)]
      unfold strip
      split <;> rfl
    · rw [if_neg l, if_neg l, digit_is, bs]
      by_cases g : dgt (bt s (i : Int)) = true
      · rw [if_pos g, if_pos g, number_is s hs i hi k (by omega), bs, ← strip_num s f i i (stp dgt s (s.size - i) i) 0]
        unfold strip
        split <;> rfl
      · rw [if_neg g, if_neg g]
        by_cases q : bt s (i : Int) = 39
        · have e1 : wrap64 ((i : Int) + 1) = ((i + 1 : Nat) : Int) := by rw [wt64 (by omega) (by omega)]; omega
          have ht2 := text_l0 s hs i s.size k (i + 1) [] (by omega) (by omega) (by simp) (by omega)
          rw [if_pos q, if_pos q]
          unfold token_text.f
          rw [e1, ht2, bs, ← strip_tx f i (tx s s.size (i + 1) [])]
          unfold strip
          split <;> rfl
        · rw [if_neg q, if_neg q, tl]
          by_cases z : (sgn s (i : Int)).data.toList = []
          · rw [if_pos z, if_pos z]
          · have := sgn_size s (i : Int)
            rw [if_neg z, if_neg z, wt64 (by omega) (by omega)]
theorem one_l0 (s : ByteArray) (hs : s.size ≤ 140737488355328) (f : Int) (d : Nat) : ∀ (k i : Nat), s.size - i = d → i ≤ s.size → d + 2 * s.size + 11 < k →
    token_One.l0 k s f (i : Int) = some (tokR s f (stp blk s d i)) := by
  induction d with
  | zero =>
    intro k i hd hi hk
    obtain ⟨k, rfl⟩ : ∃ m, k = m + 1 := ⟨k - 1, by omega⟩
    simp only [token_One.l0]
    rw [if_neg (by omega), one_j1 s hs f i hi k (by omega)]
    rfl
  | succ d ih =>
    intro k i hd hi hk
    obtain ⟨k, rfl⟩ : ∃ m, k = m + 1 := ⟨k - 1, by omega⟩
    have e1 : wrap64 ((i : Int) + 1) = ((i + 1 : Nat) : Int) := by rw [wt64 (by omega) (by omega)]; omega
    simp only [token_One.l0]
    rw [if_pos (show (i : Int) < (s.size : Int) by omega), if_pos (show (0 : Int) ≤ (i : Int) by omega), blank_is, bs, e1, stp_succ, ih k (i + 1) (by omega) (by omega) (by omega), one_j1 s hs f i hi k (by omega)]
    cases blk (bt s (i : Int)) <;> rfl
theorem clamp_le (s : ByteArray) (a : Int) : clamp s a ≤ s.size := by
  unfold clamp
  split
  · omega
  · split <;> omega
theorem one_is (s : ByteArray) (hs : s.size ≤ 140737488355328) (a : Int) (k : Nat) (hk : 3 * s.size + 20 < k) : token_One.f k s a = some (oneR s a) := by
  have e : mn (mx a 0) (s.size : Int) = (clamp s a : Int) := by
    unfold mn mx clamp
    split <;> split <;> (try split) <;> omega
  have hc := clamp_le s a
  unfold token_One.f
  rw [e]
  exact one_l0 s hs _ (s.size - clamp s a) k (clamp s a) rfl hc (by omega)
theorem rone_j3 (s : ByteArray) (hs : s.size ≤ 140737488355328) (f : Int) (i : Nat) (hi : i ≤ s.size) (k : Nat) (hk : 2 * s.size + 40 < k) : r07_One.j3 k s f i = some (tokR s f i) := by
  obtain ⟨k, rfl⟩ : ∃ m, k = m + 1 := ⟨k - 1, by omega⟩
  simp only [r07_One.j3]
  unfold tokR
  by_cases c : i = s.size
  · rw [if_pos (show (i : Int) = (s.size : Int) by omega), if_pos c]
  · rw [if_neg (show ¬ (i : Int) = (s.size : Int) by omega), if_neg c, if_pos (show (0 : Int) ≤ (i : Int) by omega), if_pos (show (i : Int) < (s.size : Int) by omega), rletter_is, bs]
    by_cases l : ltr (bt s (i : Int)) = true
    · rw [if_pos l, if_pos l]
      exact rname_l1 s hs f i (s.size - i) k i rfl hi (Nat.le_refl _) (by omega)
    · rw [if_neg l, if_neg l, rdigit_is, bs]
      by_cases g : dgt (bt s (i : Int)) = true
      · rw [if_pos g, if_pos g]
        exact rnumber_l2 s hs f i (s.size - i) k i rfl hi (Nat.le_refl _) (fun p h1 h2 => by omega) (by omega)
      · rw [if_neg g, if_neg g]
        by_cases q : bt s (i : Int) = 39
        · have e1 : wrap64 ((i : Int) + 1) = ((i + 1 : Nat) : Int) := by rw [wt64 (by omega) (by omega)]; omega
          have ht2 := rtext_l0 s hs f i s.size k (i + 1) [] (by omega) (by omega) (by simp) (by omega)
          rw [if_pos q, if_pos q]
          unfold r07_text.f
          have e0 : strOfNums [] = (⟨#[]⟩ : ByteArray) := rfl
          rw [e0] at ht2
          rw [e1, ht2, bs]
        · rw [if_neg q, if_neg q, rsign_is s hs (i : Int) k (by omega), bs, tl]
          by_cases z : (sgn s (i : Int)).data.toList = []
          · rw [if_pos z, if_pos z]
          · have := sgn_size s (i : Int)
            rw [if_neg z, if_neg z, wt64 (by omega) (by omega)]
theorem rone_l0 (s : ByteArray) (hs : s.size ≤ 140737488355328) (f : Int) (d : Nat) : ∀ (k i : Nat), s.size - i = d → i ≤ s.size → d + 2 * s.size + 41 < k →
    r07_One.l0 k s f (i : Int) = some (tokR s f (stp blk s d i)) := by
  induction d with
  | zero =>
    intro k i hd hi hk
    obtain ⟨k, rfl⟩ : ∃ m, k = m + 1 := ⟨k - 1, by omega⟩
    simp only [r07_One.l0]
    rw [if_neg (by omega), rone_j3 s hs f i hi k (by omega)]
    rfl
  | succ d ih =>
    intro k i hd hi hk
    obtain ⟨k, rfl⟩ : ∃ m, k = m + 1 := ⟨k - 1, by omega⟩
    have e1 : wrap64 ((i : Int) + 1) = ((i + 1 : Nat) : Int) := by rw [wt64 (by omega) (by omega)]; omega
    simp only [r07_One.l0]
    rw [if_pos (show (i : Int) < (s.size : Int) by omega), if_pos (show (0 : Int) ≤ (i : Int) by omega), rblank_is, bs, e1, stp_succ, ih k (i + 1) (by omega) (by omega) (by omega), rone_j3 s hs f i hi k (by omega)]
    cases blk (bt s (i : Int)) <;> rfl
theorem rone_is (s : ByteArray) (hs : s.size ≤ 140737488355328) (a : Int) (k : Nat) (hk : 3 * s.size + 50 < k) : r07_One.f k s a = some (oneR s a) := by
  have hc := clamp_le s a
  have hl := rone_l0 s hs (clamp s a) (s.size - clamp s a)
  obtain ⟨k, rfl⟩ : ∃ m, k = m + 2 := ⟨k - 2, by omega⟩
  have h2 : r07_One.f (k + 2) s a = r07_One.l0 k s (clamp s a) (clamp s a) := by
    unfold r07_One.f
    by_cases c : a < 0
    · rw [if_pos c]
      simp only [r07_One.j0]
      rw [if_neg (by omega)]
      simp only [r07_One.j1]
      have e : clamp s a = 0 := by unfold clamp; rw [if_pos c]
      rw [e]
      rfl
    · rw [if_neg c]
      simp only [r07_One.j0]
      by_cases c2 : a > (s.size : Int)
      · have e : clamp s a = s.size := by unfold clamp; rw [if_neg c, if_pos c2]
        rw [if_pos c2, e]
        rfl
      · have e : (clamp s a : Int) = a := by unfold clamp; rw [if_neg c, if_neg c2]; omega
        rw [if_neg c2, e]
        rfl
  rw [h2, hl k (clamp s a) rfl hc (by omega)]
  rfl
def mkT (r : Int × ByteArray × Int × Int × Int × Int) : S91 := ⟨r.1, r.2.1, r.2.2.1, r.2.2.2.1⟩
def allR (s : ByteArray) : Nat → List S91 → Int → List S91 × Int
  | 0, _, _ => ([], 4)
  | n + 1, acc, a => if (oneR s a).2.2.2.2.2 = 0 then (if (oneR s a).1 = 0 then (acc ++ [mkT (oneR s a)], 0) else allR s n (acc ++ [mkT (oneR s a)]) (oneR s a).2.2.2.2.1) else ([], (oneR s a).2.2.2.2.2)
theorem allR_succ (s : ByteArray) (n : Nat) (acc : List S91) (a : Int) : allR s (n + 1) acc a = if (oneR s a).2.2.2.2.2 = 0 then (if (oneR s a).1 = 0 then (acc ++ [mkT (oneR s a)], 0) else allR s n (acc ++ [mkT (oneR s a)]) (oneR s a).2.2.2.2.1) else ([], (oneR s a).2.2.2.2.2) := rfl
theorem all_l0 (s : ByteArray) (hs : s.size ≤ 140737488355328) (n : Nat) : ∀ (k : Nat) (acc : List S91) (a : Int), acc.length + n = 1000 → n + 3 * s.size + 60 < k → token_All.l0 k s acc a = some (allR s n acc a) := by
  induction n with
  | zero =>
    intro k acc a h hk
    obtain ⟨k, rfl⟩ : ∃ m, k = m + 1 := ⟨k - 1, by omega⟩
    simp only [token_All.l0]
    rw [if_neg (by omega)]
    rfl
  | succ n ih =>
    intro k acc a h hk
    obtain ⟨k, rfl⟩ : ∃ m, k = m + 1 := ⟨k - 1, by omega⟩
    simp only [token_All.l0]
    rw [if_pos (show (acc.length : Int) < 1000 by omega), one_is s hs a k (by omega), bs, allR_succ]
    generalize oneR s a = r
    by_cases c : r.2.2.2.2.2 = 0
    · rw [if_pos c, if_pos c, if_pos (show acc.length < 3518437208883 by omega), bs, ih k _ _ (by simp; omega) (by omega)]
      by_cases c2 : r.1 = 0
      · rw [if_pos c2, if_pos c2]
        rfl
      · rw [if_neg c2, if_neg c2]
        rfl
    · rw [if_neg c, if_neg c]
theorem all_is (s : ByteArray) (hs : s.size ≤ 140737488355328) (k : Nat) (hk : 3 * s.size + 1100 < k) : token_All.f k s = some (allR s 1000 [] 0) := by
  unfold token_All.f
  exact all_l0 s hs 1000 k [] 0 rfl (by omega)
theorem allR_len (s : ByteArray) (n : Nat) : ∀ (acc : List S91) (a : Int), (allR s n acc a).1.length ≤ acc.length + n := by
  induction n with
  | zero => intro acc a; simp [allR]
  | succ n ih =>
    intro acc a
    rw [allR_succ]
    split
    · split
      · simp
      · have := ih (acc ++ [mkT (oneR s a)]) (oneR s a).2.2.2.2.1
        simp at this
        omega
    · simp
theorem rall_l0 (s : ByteArray) (hs : s.size ≤ 140737488355328) (n : Nat) : ∀ (k j : Nat) (acc : List S91) (a : Int), j + n = 1000 → acc.length ≤ j → n + 3 * s.size + 60 < k → r07_All.l0 k s acc a (j : Int) = some (allR s n acc a) := by
  induction n with
  | zero =>
    intro k j acc a h _ hk
    obtain ⟨k, rfl⟩ : ∃ m, k = m + 1 := ⟨k - 1, by omega⟩
    simp only [r07_All.l0]
    rw [if_neg (by omega)]
    rfl
  | succ n ih =>
    intro k j acc a h hj hk
    obtain ⟨k, rfl⟩ : ∃ m, k = m + 1 := ⟨k - 1, by omega⟩
    have e1 : wrap64 ((j : Int) + 1) = ((j + 1 : Nat) : Int) := by rw [wt64 (by omega) (by omega)]; omega
    simp only [r07_All.l0]
    rw [if_pos (show (j : Int) < 1000 by omega), rone_is s hs a k (by omega), bs, allR_succ, e1]
    generalize oneR s a = r
    by_cases c : r.2.2.2.2.2 = 0
    · rw [if_pos c, if_pos c, if_pos (show acc.length < 3518437208883 by omega), bs, ih k (j + 1) _ _ (by omega) (by simp; omega) (by omega)]
      by_cases c2 : r.1 = 0
      · rw [if_pos c2, if_pos c2]
        rfl
      · rw [if_neg c2, if_neg c2]
        rfl
    · rw [if_neg c, if_neg c]
theorem rall_is (s : ByteArray) (hs : s.size ≤ 140737488355328) (k : Nat) (hk : 3 * s.size + 1100 < k) : r07_All.f k s = some (allR s 1000 [] 0) := by
  unfold r07_All.f
  exact rall_l0 s hs 1000 k 0 [] 0 rfl (by simp) (by omega)
end Go.Proofs.Ytcfgjaggccnoaaa.PParseSmall
namespace Go.Proofs.Ytcfgjaggccnoaaa.PParseSmall
open Go.RowKit Go.Proofs.YtcfgjaggccnoaaaW.PrintWords Go.Proofs.YtcfgjaggccnoaaaW.PrintLast Go.Proofs.YtcfgjaggccnoaaaW.PrintMore
attribute [local go_sem] max2_int min2_int max_two min_two max_three min_three max_four min_four
set_option linter.unusedVariables false
set_option linter.unusedSimpArgs false
set_option maxRecDepth 100000
set_option maxHeartbeats 4000000
def ok4 (e : Int) : Prop := e = 0 ∨ e = 1 ∨ e = 4
theorem tx_ok (s : ByteArray) (d : Nat) : ∀ (i : Nat) (acc : List Int), ok4 (tx s d i acc).1 := by
  induction d with
  | zero => intro i acc; exact .inr (.inl rfl)
  | succ d ih =>
    intro i acc
    rw [tx_succ]
    split
    · split
      · split
        · exact ih _ _
        · split
          · exact .inr (.inr rfl)
          · exact .inl rfl
      · exact ih _ _
    · exact .inr (.inl rfl)
theorem tok_ok (s : ByteArray) (a : Int) (i : Nat) : ok4 (tokR s a i).2.2.2.2.2 := by
  unfold tokR
  split
  · exact .inl rfl
  split
  · unfold nameR
    split
    · exact .inr (.inl rfl)
    · split <;> exact .inl rfl
  split
  · unfold numR
    cases nv s (stp dgt s (s.size - i) i - i) i 0 with
    | none => exact .inr (.inl rfl)
    | some n =>
      simp only [numE]
      split
      · exact .inr (.inl rfl)
      · exact .inl rfl
  split
  · unfold txR
    split
    · exact .inl rfl
    · exact tx_ok _ _ _ _
  split
  · exact .inr (.inl rfl)
  · exact .inl rfl
theorem all_ok (s : ByteArray) (n : Nat) : ∀ (acc : List S91) (a : Int), ok4 (allR s n acc a).2 := by
  induction n with
  | zero => intro acc a; exact .inr (.inr rfl)
  | succ n ih =>
    intro acc a
    rw [allR_succ]
    split
    · split
      · exact .inl rfl
      · exact ih _ _
    · exact tok_ok _ _ _
end Go.Proofs.Ytcfgjaggccnoaaa.PParseSmall
namespace Go.Proofs.Ytcfgjaggccnoaaa.PParseSmall
open Go.RowKit Go.Proofs.YtcfgjaggccnoaaaW.PrintWords Go.Proofs.YtcfgjaggccnoaaaW.PrintLast Go.Proofs.YtcfgjaggccnoaaaW.PrintMore
attribute [local go_sem] max2_int min2_int max_two min_two max_three min_three max_four min_four
set_option linter.unusedVariables false
set_option linter.unusedSimpArgs false
set_option maxRecDepth 100000
set_option maxHeartbeats 4000000
def goodT (t : S91) : Prop := t.f0 = 4 → (t.f1.size : Int) ≤ 65536
theorem tx_len (s : ByteArray) (d : Nat) : ∀ (i : Nat) (acc : List Int), (tx s d i acc).1 = 0 → (tx s d i acc).2.1.length ≤ 65536 := by
  induction d with
  | zero => intro i acc h; exact absurd h (by simp [tx])
  | succ d ih =>
    intro i acc
    rw [tx_succ]
    split
    · split
      · split
        · exact ih _ _
        · split
          · intro h; exact absurd h (by decide)
          · intro _; show acc.length ≤ 65536; omega
      · exact ih _ _
    · intro h; exact absurd h (by decide)
theorem nums_size (l : List Int) : (strOfNums l).size = l.length := by simp [strOfNums, ByteArray.size]
theorem tok_good (s : ByteArray) (a : Int) (i : Nat) : goodT (mkT (tokR s a i)) := by
  unfold goodT mkT tokR
  split
  · exact fun h => absurd (show (0 : Int) = 4 from h) (by decide)
  split
  · unfold nameR
    split
    · exact fun h => absurd (show (0 : Int) = 4 from h) (by decide)
    · split
      · exact fun h => absurd (show (2 : Int) = 4 from h) (by decide)
      · exact fun h => absurd (show (1 : Int) = 4 from h) (by decide)
  split
  · unfold numR
    cases nv s (stp dgt s (s.size - i) i - i) i 0 with
    | none => exact fun h => absurd (show (0 : Int) = 4 from h) (by decide)
    | some n =>
      simp only [numE]
      split
      · exact fun h => absurd (show (0 : Int) = 4 from h) (by decide)
      · exact fun h => absurd (show (3 : Int) = 4 from h) (by decide)
  split
  · unfold txR
    split
    · next h =>
      intro _
      have := tx_len s s.size (i + 1) [] h
      show ((strOfNums (tx s s.size (i + 1) []).2.1).size : Int) ≤ 65536
      rw [nums_size]
      omega
    · exact fun h => absurd (show (0 : Int) = 4 from h) (by decide)
  split
  · exact fun h => absurd (show (0 : Int) = 4 from h) (by decide)
  · exact fun h => absurd (show (5 : Int) = 4 from h) (by decide)
theorem all_good (s : ByteArray) (n : Nat) : ∀ (acc : List S91) (a : Int), (∀ t ∈ acc, goodT t) → (allR s n acc a).2 = 0 → (∀ t ∈ (allR s n acc a).1, goodT t) ∧ ∃ l0 t, (allR s n acc a).1 = l0 ++ [t] ∧ t.f0 = 0 := by
  induction n with
  | zero => intro acc a _ h; exact absurd h (by simp [allR])
  | succ n ih =>
    intro acc a hg
    have hg2 : ∀ t ∈ acc ++ [mkT (oneR s a)], goodT t := by
      intro t ht
      rcases List.mem_append.1 ht with h | h
      · exact hg t h
      · rw [List.mem_singleton.1 h]; unfold oneR; exact tok_good s _ _
    rw [allR_succ]
    split
    · next h0 =>
      split
      · next h1 => intro _; exact ⟨hg2, acc, _, rfl, h1⟩
      · exact ih _ _ hg2
    · next h0 => intro h; exact absurd h h0
theorem rd_mem (l : List S91) (i : Int) (h0 : 0 ≤ i) (h : i < l.length) : rd_T91 l i ∈ l := by
  unfold rd_T91
  rw [List.getD_eq_getElem?_getD, List.getElem?_eq_getElem (by omega)]
  exact List.getElem_mem _
theorem ls_of {s : ByteArray} {l : List S91} (h : allR s 1000 [] 0 = (l, 0)) : Ls l ∧ 0 < l.length := by
  obtain ⟨h1, l0, t, h2, h3⟩ := all_good s 1000 [] 0 (by simp) (by rw [h])
  rw [h] at h1 h2
  simp only at h1 h2
  subst h2
  refine ⟨⟨?_, ?_⟩, by simp⟩
  · unfold tokP
    rw [if_pos ⟨rfl, by simp; omega⟩]
    have : rd_T91 (l0 ++ [t]) (((l0 ++ [t]).length : Int) - 1) = t := by
      unfold rd_T91
      rw [show (((l0 ++ [t]).length : Int) - 1).toNat = l0.length by simp, List.getD_eq_getElem?_getD]
      simp
    rw [this]
    exact h3
  · intro i hk
    by_cases hi : 0 ≤ i ∧ i < ((l0 ++ [t]).length : Int)
    · have e1 : tokP (l0 ++ [t]) i 0 = rd_T91 (l0 ++ [t]) i := if_pos ⟨rfl, hi.2⟩
      rw [e1] at hk ⊢
      exact h1 _ (rd_mem _ i hi.1 hi.2) hk
    · by_cases hi2 : i < ((l0 ++ [t]).length : Int)
      · have e1 : tokP (l0 ++ [t]) i 0 = rd_T91 (l0 ++ [t]) 0 := by
          unfold tokP
          rw [if_pos ⟨rfl, hi2⟩]
          unfold rd_T91
          rw [show i.toNat = (0 : Int).toNat by omega]
        rw [e1] at hk ⊢
        exact h1 _ (rd_mem _ 0 (by omega) (by simp)) hk
      · have e1 : (tokP (l0 ++ [t]) i 0).f0 = 0 := by
          unfold tokP
          rw [if_neg (fun q => hi2 q.2)]
        rw [e1] at hk
        exact absurd hk (by decide)
theorem pe_big (s : ByteArray) (hs : 3000 < (s.size : Int)) (w : World) : Calls Try.prog 5 #[.string s] w fun r w' => r = .returned (.bool true) ∧ Below w.heap.size w w' := by
  have hs1 : decide ((3000 : Int) < (s.size : Int)) = true := decide_eq_true hs
  have hs2 : ((3000 : Int) < (s.size : Int)) = True := eq_true hs
  clear hs
  go_enter Try.func5, Try.ntmps5
  go_wp2_with (first
    | ((with_reducible refine gate_callee (f := 14) rfl ?_); refine goesL_ (some 12) rfl rfl Try.func14 (by kernel_rfl) rfl #[] rfl (by (try simp only [List.map_toArray, List.map_cons, List.map_nil]); first | done | rfl) ?_; refine (live_any w).mono ?_; rintro r' w1 ⟨rfl, hb⟩; refine ⟨_, rfl, ?_⟩; simp only [Act.put, sa_, sz_, ss_]; have HB := Lib.hid hb; clear hb))
  go_ret
  exact ⟨rfl, HB.out⟩
theorem pe_law (s : ByteArray) (hs : ¬ 3000 < (s.size : Int)) (x : S27) (e : Int) (hx : SameOK x) (hE : ∀ w, Calls Try.prog 15 #[.string s] w (Ends w x e)) (hF : ∀ w, Calls Try.prog 19 #[.string s] w (Ends w x e)) (w : World) : Calls Try.prog 5 #[.string s] w fun r w' => r = .returned (.bool true) ∧ Below w.heap.size w w' := by
  cases b0 : (s.toList == ([106, 111, 105, 110] : List UInt8)) with
  | true => exact law_pe0 s hs x e hx hE hF b0 w
  | false =>
    cases b1 : (s.toList == ([108, 101, 102, 116] : List UInt8)) with
    | true => exact law_pe1 s hs x e hx hE hF b0 b1 w
    | false =>
      cases b2 : (s.toList == ([115, 101, 109, 105] : List UInt8)) with
      | true => exact law_pe2 s hs x e hx hE hF b0 b1 b2 w
      | false =>
        cases b3 : (s.toList == ([97, 110, 116, 105] : List UInt8)) with
        | true => exact law_pe3 s hs x e hx hE hF b0 b1 b2 b3 w
        | false => exact law_pe4 s hs x e hx hE hF b0 b1 b2 b3 w
theorem parse_exprs (s : ByteArray) (w : World) : Calls Try.prog 5 #[.string s] w fun r w' => r = .returned (.bool true) ∧ Below w.heap.size w w' := by
  by_cases hs : 3000 < (s.size : Int)
  · exact pe_big s hs w
  have hz : s.size ≤ 140737488355328 := by omega
  have hT := all_is s hz (3 * s.size + 2000) (by omega)
  have hR := rall_is s hz (3 * s.size + 2000) (by omega)
  have hk := all_ok s 1000 [] 0
  have hl := allR_len s 1000 [] 0
  have hg : ∀ l, allR s 1000 [] 0 = (l, 0) → Ls l ∧ 0 < l.length := fun l h => ls_of h
  generalize allR s 1000 [] 0 = a at *
  obtain ⟨l, e0⟩ := a
  simp only [List.length_nil, Nat.zero_add] at hl
  obtain ⟨r, k2, hp, q1, q2, q3, q4, q5⟩ := pr_an l e0 hk
  obtain ⟨q, hq, hf, hx⟩ := expr_rr hp (fun h => hg l (by rw [h]))
  by_cases he : enE l r.i r.e = 0
  · have hre : r.e = 0 := by
      unfold enE at he
      split at he
      · exact absurd he (by decide)
      · exact he
    have hn := q5 hre
    obtain ⟨g1, g2, g3, g4, g5, g6⟩ := q1
    refine pe_law s hs r.x 0 (r_same 1000000 (by decide) r.x (by omega)) (fun w => expr_ok _ s l e0 r w (by omega) hT k2 hp he) (fun w => ?_) w
    have := r_expr_ok _ s l e0 q w (by omega) hR k2 hq (hf.trans he)
    rw [hx he] at this
    exact this
  · exact pe_law s hs zx27 (enE l r.i r.e) (r_same 1000000 (by decide) zx27 (by simp [zx27, nodes, nodesL])) (fun w => expr_err _ s l e0 _ r w (by omega) hT k2 hp rfl he) (fun w => r_expr_err _ s l e0 _ q w (by omega) hR k2 hq hf he) w
end Go.Proofs.Ytcfgjaggccnoaaa.PParseSmall
