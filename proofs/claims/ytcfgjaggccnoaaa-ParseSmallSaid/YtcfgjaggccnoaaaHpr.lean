import Derived.Test.YtcfgjaggccnoaaaHpo
import Derived.Defers
import Derived.Deep.LoopGhost
import Derived.Test.YtcfgjaggccnoaaaPParseSmallx8
namespace Go.Proofs.Ytcfgjaggccnoaaa.PParseSmall
open Go.RowKit Go.Proofs.YtcfgjaggccnoaaaW.PrintWords Go.Proofs.YtcfgjaggccnoaaaW.PrintLast Go.Proofs.YtcfgjaggccnoaaaW.PrintMore
attribute [local go_sem] max2_int min2_int max_two min_two max_three min_three max_four min_four
set_option linter.unusedVariables false
set_option linter.unusedSimpArgs false
set_option maxRecDepth 100000
set_option maxHeartbeats 4000000
/-! live -/
def liveS : ByteArray := ⟨#[97, 46, 120, 32, 43, 32, 49, 32, 42, 32, 50, 32, 60, 32, 121]⟩
def liveT : List S91 := ((token_All.f 100 liveS).getD ([], 7)).1
theorem liveT_eq : token_All.f 100 liveS = some (liveT, 0) := by
  have h : ((token_All.f 100 liveS).map (·.2)) = some 0 := by decide +kernel
  unfold liveT
  cases q : token_All.f 100 liveS with
  | none => rw [q] at h; exact absurd h (by simp)
  | some p =>
    rw [q] at h
    obtain ⟨a, b⟩ := p
    simp only [Option.map_some, Option.some.injEq] at h
    rw [h]
    rfl
def liveR : Re := (pr liveT 100 (.f .or) 0 0 0).getD ⟨0, 0, 7, zx27⟩
theorem liveR_eq : pr liveT 100 (.f .or) 0 0 0 = some liveR := by
  have h : (pr liveT 100 (.f .or) 0 0 0).isSome = true := by decide +kernel
  unfold liveR
  cases q : pr liveT 100 (.f .or) 0 0 0 with
  | none => rw [q] at h; exact absurd h (by simp)
  | some p => rfl
theorem live_1 : enE liveT liveR.i liveR.e = 0 := by decide +kernel
theorem live_2 : liveR.x.f0 = 3 := by decide +kernel
theorem live_3 : liveR.x.f6.length = 2 := by decide +kernel
theorem live_4 : (rd_T27 liveR.x.f6 0).f0 = 7 := by decide +kernel
theorem live_5 : (rd_T27 liveR.x.f6 1).f2.toList = [121] := by decide +kernel
theorem live_6 : liveT.length ≤ 1000000 := by decide +kernel
/-- A tree, laid into a variable of one's own, and a call that draws alone. -/
theorem own_w {w w1 w2 w3 : World} {g5 vc : Nat} {vA : Option Addr} {x : S27} {o0 o1 o2 o3 o4 o5 o6 o7 o8 : Value} (b1 : Below w.heap.size w w1) (t1 : Tr w1 (fun k => w.heap.size ≤ k) x vA vc) (hg : w1.heap.size ≤ g5) (l2 : Below w1.heap.size w1 w2) (b5 : w2.heap[g5]? = some (.cells #[o0, o1, o2, o3, o4, o5, o6, o7, o8] 27 (0, 0)))
    (hd : Drawn0 (((((((((w2.setCell ⟨g5, 0, none⟩ (.int .i64 x.f0)).setCell ⟨g5, 1, none⟩ (.string x.f1)).setCell ⟨g5, 2, none⟩ (.string x.f2)).setCell ⟨g5, 3, none⟩ (.int .i64 x.f3)).setCell ⟨g5, 4, none⟩ (.int .i64 x.f4)).setCell ⟨g5, 5, none⟩ (.int .i64 x.f5.f0)).setCell ⟨g5, 6, none⟩ (.int .i64 x.f5.f1)).setCell ⟨g5, 7, none⟩ (.string x.f5.f2)).setCell ⟨g5, 8, none⟩ (.slice vA x.f6.length vc)) w3) : w3.heap[g5]? = some (.cells (cl27 x vA vc) 27 (0, 0)) ∧ Tr w3 (fun q => w.heap.size ≤ q ∧ q ≠ g5) x vA vc ∧ Below w.heap.size w w3 := by
  obtain ⟨nd, rfl⟩ := hd
  have h1 := below_size b1
  refine ⟨blk_drewN (put9_ b5) nd, ?_, pw_below_drewN ((b1.trans (l2.mono h1)).trans (chg9_.1.mono (by omega))) nd⟩
  have t2 := (t1.mono fun q hl hq => (⟨hq, by omega⟩ : w.heap.size ≤ q ∧ q ≠ g5)).below l2
  exact (t2.chg chg9_ (fun q => q.2 rfl)).below (pw_below_drewN (Below.refl _ _) nd)
theorem add0 (ad : Addr) : ad.add 0 = ad := rfl
theorem live_any (w : World) : Calls Try.prog 14 #[] w fun r w' => r = .returned (.bool true) ∧ Below w.heap.size w w' := by
  obtain ⟨x, hx⟩ : ∃ x, x = liveR.x := ⟨_, rfl⟩
  have HE := Lib.hid (expr_ok 100 liveS liveT 0 liveR w live_6 liveT_eq 100 liveR_eq live_1)
  have h2 := live_2; have h3 := live_3; have h4 := live_4; have h5 := live_5
  rw [← hx] at HE h2 h3 h4 h5
  clear hx
  have h3i : (x.f6.length : Int) = 2 := by omega
  have G2 := Lib.hid h2; have G3 := Lib.hid h3; have G4 := Lib.hid h4; have G5 := Lib.hid h5; clear h2 h3 h4 h5 h3i
  go_enter Try.func14, Try.ntmps14
  go_wp2_with (first
    | ((with_reducible refine gate_callee (f := 15) rfl ?_); refine goesL_ (some 4) rfl rfl Try.func15 (by kernel_rfl) rfl #[.string liveS] rfl (by (try simp only [List.map_toArray, List.map_cons, List.map_nil]); first | done | rfl) ?_; refine (HE.out).mono ?_; rintro r' w1 ⟨vA, vc, rfl, t1, b1⟩; refine ⟨_, rfl, ?_⟩; simp only [Act.put, sa_, sz_, ss_]; simp only [exV]; have T1 := Lib.hid t1; have B1 := Lib.hid b1; clear t1 b1)
    | (((with_reducible refine gate_dst (N := 1) rfl ?_); refine box_event ?hg (N := 1) ?hd (cs := #[.int .i64 0, .string (⟨#[]⟩ : ByteArray), .string (⟨#[]⟩ : ByteArray), .int .i64 0, .int .i64 0, .int .i64 0, .int .i64 0, .string (⟨#[]⟩ : ByteArray), .slice none 0 0]) (t := 27) ?hr ?_; (case hd => rfl); (case hg => rfl); (case hr => first | (go_simp; done) | (go_simp; rfl)); intro gb1 hg_ w2 hb_ hl_; have BKgb1 := am_ hb_; have HLgb1 := am_ hl_; have HGgb1 := am_ (Nat.le_of_eq hg_.symm); obtain ⟨zgb1_0, zgb1_1, zgb1_2, zgb1_3, zgb1_4, zgb1_5, zgb1_6, zgb1_7, zgb1_8, ygb1_0, ygb1_1, ygb1_2, ygb1_3, ygb1_4, ygb1_5, ygb1_6, ygb1_7, ygb1_8⟩ := bw9_ hb_; clear hb_ hl_ hg_; simp only [Act.put, sa_, sz_, ss_]))
    | ((with_reducible refine gate_callee (f := 16) rfl ?_); refine goesL_ (some 8) rfl rfl Try.func16 (by kernel_rfl) rfl #[.int .i64 0] rfl (by (try simp only [List.map_toArray, List.map_cons, List.map_nil]); first | done | rfl) ?_; refine (w09_code.calls 0 0 _ rfl).mono ?_; rintro r' w3 ⟨rfl, hd⟩; refine ⟨_, rfl, ?_⟩; simp only [Act.put, sa_, sz_, ss_]; have h6 : (Int.toNat 0 * 9) = 0 := rfl; have h7 : (Int.toNat 1 * 9) = 9 := rfl; have h2 := G2.out; have h3 := G3.out; have h4 := G4.out; have h5 := G5.out; have h3i : (x.f6.length : Int) = 2 := (by omega); obtain ⟨k3, t3, b3⟩ := own_w B1.out T1.out HGgb1.out HLgb1.out BKgb1.out hd; clear hd zgb1_0 zgb1_1 zgb1_2 zgb1_3 zgb1_4 zgb1_5 zgb1_6 zgb1_7 zgb1_8 ygb1_0 ygb1_1 ygb1_2 ygb1_3 ygb1_4 ygb1_5 ygb1_6 ygb1_7 ygb1_8; have B3 := Lib.hid b3; have T3 := Lib.hid t3; clear b3 t3; obtain ⟨p0, p1, p2, p3, p4, p5, p6, p7, p8, q0, q1, q2, q3, q4, q5, q6, q7, q8⟩ := bw9_ k3; clear k3; obtain ⟨ad, A8, c8, e8, u0, u1, u2, u3, u4, u5, u6, u7, u8⟩ := at_T27 (Kd.F_now T3.out.2) 0 (by decide) (by omega); subst e8; obtain ⟨ad', A9, c9, e9, x0, x1, x2, x3, x4, x5, x6, x7, x8⟩ := at_T27 (Kd.F_now T3.out.2) 1 (by decide) (by omega); cases e9; clear u8 x8; clear T3 B1 T1; rw [h6, h4, add0] at u0; rw [h7] at x2; replace x2 : w3.cell? ⟨ad.block, ad.off + 9 + 2, none⟩ = some (.string (rd_T27 x.f6 1).f2) := x2; clear h6 h7 h4; clear u1 u2 u3 u4 u5 u6 u7 x0 x1 x3 x4 x5 x6 x7 p1 p2 p3 p4 p5 p6 p7))
  go_ret
  exact ⟨rfl, B3.out⟩
end Go.Proofs.Ytcfgjaggccnoaaa.PParseSmall
