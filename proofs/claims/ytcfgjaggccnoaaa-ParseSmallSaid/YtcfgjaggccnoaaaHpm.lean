import Derived.Test.YtcfgjaggccnoaaaHpl
import Derived.Defers
import Derived.Deep.LoopGhost
namespace Go.Proofs.Ytcfgjaggccnoaaa.PParseSmall
open Go.RowKit Go.Proofs.YtcfgjaggccnoaaaW.PrintWords Go.Proofs.YtcfgjaggccnoaaaW.PrintLast Go.Proofs.YtcfgjaggccnoaaaW.PrintMore
attribute [local go_sem] max2_int min2_int max_two min_two max_three min_three max_four min_four
set_option linter.unusedVariables false
set_option linter.unusedSimpArgs false
set_option maxRecDepth 100000
set_option maxHeartbeats 4000000
/-! test -/
section
variable {w0 w w' : World} {g g6 g7 c vc : Nat} {A S vA : Option Addr} {l : List S91} {ss : List ByteArray} {i d e i' d' e' : Int} {x : S27}
theorem CS.start (st : St w g A c l i d e) (ch : Chg g w0 w) (b6 : w.heap[g6]? = some (.cells #[.int .i64 0, .string ⟨#[]⟩, .string ⟨#[]⟩, .int .i64 0, .int .i64 0, .int .i64 0, .int .i64 0, .string ⟨#[]⟩, .slice none 0 0] 27 (0, 0))) {u0 u1 u2 u3 u4 u5 u6 u7 u8 : Value}
    (b7 : w.heap[g7]? = some (.cells #[u0, u1, u2, u3, u4, u5, u6, u7, u8] 27 (0, 0))) (tr : Tr w (fun k => w0.heap.size ≤ k ∧ k ≠ g6 ∧ k ≠ g7) x vA vc) (sg : Sg w g w0.heap.size S ss) (hg : g < w0.heap.size) (h6 : w0.heap.size ≤ g6) (h67 : g6 < g7) :
    CS w0 g g6 g7 A c l S ss (((((((((w.setCell ⟨g7, 0, none⟩ (.int .i64 x.f0)).setCell ⟨g7, 1, none⟩ (.string x.f1)).setCell ⟨g7, 2, none⟩ (.string x.f2)).setCell ⟨g7, 3, none⟩ (.int .i64 x.f3)).setCell ⟨g7, 4, none⟩ (.int .i64 x.f4)).setCell ⟨g7, 5, none⟩ (.int .i64 x.f5.f0)).setCell ⟨g7, 6, none⟩ (.int .i64 x.f5.f1)).setCell ⟨g7, 7, none⟩ (.string x.f5.f2)).setCell ⟨g7, 8, none⟩ (.slice vA x.f6.length vc)) i d e x vA vc :=
  ⟨st.box chg9_ (by omega), ch.own chg9_ (by omega) (by omega), chg9_.box b6 (by omega), put9_ b7, tr.chg chg9_ (by omega), sg.box chg9_ (by omega), hg, h6, h67⟩
theorem CS.done' (h : CS w0 g g6 g7 A c l S ss w i d e x vA vc) {y : S27} {B : Option Addr} {b : Nat} (t : Tr w (fun k => w0.heap.size ≤ k ∧ k ≠ g6 ∧ k ≠ g7) y B b) {v0 v1 v2 v3 v4 v5 v6 v7 v8 : Value} : Done w0 g A c l ⟨i, d, e, y⟩ (.returned (exV y B b)) (((((((((w.setCell ⟨g6, 0, none⟩ v0).setCell ⟨g6, 1, none⟩ v1).setCell ⟨g6, 2, none⟩ v2).setCell ⟨g6, 3, none⟩ v3).setCell ⟨g6, 4, none⟩ v4).setCell ⟨g6, 5, none⟩ v5).setCell ⟨g6, 6, none⟩ v6).setCell ⟨g6, 7, none⟩ v7).setCell ⟨g6, 8, none⟩ v8) :=
  have hg := h.hg; have h6 := h.h6
  ⟨B, b, rfl, h.st.box chg9_ (by omega), h.ch.own chg9_ h6 (by omega), (t.chg chg9_ (fun q => q.2.1 rfl)).mono fun _ _ q => q.1⟩
end
theorem Sg.nil (w : World) (g b0 : Nat) : Sg w g b0 none [] := fun W' _ => ⟨rfl, by simp, fun q => absurd q (Nat.lt_irrefl 0)⟩
section
variable {P : Program} {ops : Array Oper} {Q : Exit → Act → World → Prop} {o : Oper} {rest : List Oper} {a : Act} {W : World} {N' : Tmp} {g : Nat}
theorem litS6 (hgd : o.guard = none) (hd : o.dst = some N') (hg : g < W.heap.size)
    (hrun : (execOp a.eval o).run P W = .ok (.value (.slice (some ⟨W.heap.size, 0, none⟩) 6 6)) (W.alloc (.cells #[.string ⟨#[61]⟩, .string ⟨#[60, 62]⟩, .string ⟨#[60]⟩, .string ⟨#[60, 61]⟩, .string ⟨#[62]⟩, .string ⟨#[62, 61]⟩] 9)))
    (h : ∀ A1 c1 w1, Sg w1 g w1.heap.size A1 six → Below W.heap.size W w1 → wpList P ops Q rest (a.put o.dst (.slice A1 6 c1)) w1) : wpList P ops Q (o :: rest) a W := by
  refine Kd.R_lit Kd.string W.heap.size 9 hgd hd (xs := six) (inner := [.string ⟨#[61]⟩, .string ⟨#[60, 62]⟩, .string ⟨#[60]⟩, .string ⟨#[60, 61]⟩, .string ⟨#[62]⟩, .string ⟨#[62, 61]⟩]) (ok := fun k => k ≠ g) (okp := fun _ => False) hrun ?_ (fun _ q => q.elim) (by omega) (Below.refl _ _) (Nat.le_refl _) (by decide) ?_
  · exact Reps.one (show Kd.M Kd.string _ _ _ (⟨#[61]⟩ : ByteArray) [.string ⟨#[61]⟩] from rfl) (Reps.one (show Kd.M Kd.string _ _ _ (⟨#[60, 62]⟩ : ByteArray) [.string ⟨#[60, 62]⟩] from rfl) (Reps.one (show Kd.M Kd.string _ _ _ (⟨#[60]⟩ : ByteArray) [.string ⟨#[60]⟩] from rfl) (Reps.one (show Kd.M Kd.string _ _ _ (⟨#[60, 61]⟩ : ByteArray) [.string ⟨#[60, 61]⟩] from rfl) (Reps.one (show Kd.M Kd.string _ _ _ (⟨#[62]⟩ : ByteArray) [.string ⟨#[62]⟩] from rfl) (Reps.one (show Kd.M Kd.string _ _ _ (⟨#[62, 61]⟩ : ByteArray) [.string ⟨#[62, 61]⟩] from rfl) (Reps.none _ _))))))
  · intro v1 w1 hr hb _ _
    obtain ⟨A, c, rfl, hs⟩ := Sg.of_R hr
    exact h A c w1 hs hb
end
theorem start_tr {w w1 w2 w3 : World} {gb6 gb7 g : Nat} {o : Obj} {x : S27} {vA : Option Addr} {vc : Nat} (b6 : w1.heap[gb6]? = some o) (h7 : w2.heap.size ≤ gb7) (l1 : Below w.heap.size w w1) (c2 : Chg g w1 w2) (l3 : Below w2.heap.size w2 w3) (t : Tr w2 (fun k => w1.heap.size ≤ k) x vA vc) : Tr w3 (fun k => w.heap.size ≤ k ∧ k ≠ gb6 ∧ k ≠ gb7) x vA vc :=
  (t.mono fun q hl hq => by have h1 := blk_lt b6; have h2 := below_size l1; have h3 := c2.size; exact ⟨by omega, by omega, by omega⟩).below l3
theorem test_some {k : Nat} (hT : GOK k .sum) {w : World} {g : Nat} {A : Option Addr} {c : Nat} {l : List S91} {i0 d0 e0 : Int} {r0 r1 : Re} (h : St w g A c l i0 d0 e0) (h0 : pr l k (.f .sum) i0 d0 e0 = some r0) {s : ByteArray} (hf : six.find? (fun s => isP l r0.i r0.e s) = some s) (h1 : pr l k (.f .sum) (r0.i + 1) r0.d r0.e = some r1) :
    Calls Try.prog 150 #[.pointer (some ⟨g, 0, none⟩)] w (Done w g A c l ⟨r1.i, r1.d, r1.e, ofP (opP s) [r0.x, r1.x]⟩) := by
  obtain ⟨hs, m, hm, rfl, hb⟩ := find_at hf
  have Q1 := Lib.hid h1; clear h1 hf
  have HF := Lib.hid hb; clear hb
  have HM := Lib.hid (show m < 6 from hm); clear hm
  have HS1 := Lib.hid hs; clear hs
  have H := Lib.hid h; clear h
  have H0 := Lib.hid h0; clear h0
  have HT := Lib.hid hT; clear hT
  go_enter Try.func150, Try.ntmps150
  go_wp2_with (first
    | (((with_reducible refine gate_dst (N := 2) rfl ?_); refine box_event ?hg (N := 2) ?hd (cs := #[.int .i64 0, .string (⟨#[]⟩ : ByteArray), .string (⟨#[]⟩ : ByteArray), .int .i64 0, .int .i64 0, .int .i64 0, .int .i64 0, .string (⟨#[]⟩ : ByteArray), .slice none 0 0]) (t := 27) ?hr ?_; (case hd => rfl); (case hg => rfl); (case hr => first | (go_simp; done) | (go_simp; rfl)); intro gb6 hg_ w1 hb_ hl_; have BKgb6 := am_ hb_; have HLgb6 := am_ hl_; have HGgb6 := am_ (Nat.le_of_eq hg_.symm); obtain ⟨zgb6_0, zgb6_1, zgb6_2, zgb6_3, zgb6_4, zgb6_5, zgb6_6, zgb6_7, zgb6_8, ygb6_0, ygb6_1, ygb6_2, ygb6_3, ygb6_4, ygb6_5, ygb6_6, ygb6_7, ygb6_8⟩ := bw9_ hb_; clear hb_ hl_ hg_; simp only [Act.put, sa_, sz_, ss_]); have H1 := Lib.hid (H.out.below HLgb6.out); have HN := Lib.hid (ne_of_le H.out.lt HGgb6.out); clear zgb6_0 zgb6_1 zgb6_2 zgb6_3 zgb6_4 zgb6_5 zgb6_6 zgb6_7 zgb6_8 ygb6_0 ygb6_1 ygb6_2 ygb6_3 ygb6_4 ygb6_5 ygb6_6 ygb6_7 ygb6_8)
    | ((with_reducible refine gate_callee (f := 159) rfl ?_); refine goesL_ (some 8) rfl rfl Try.func159 (by kernel_rfl) rfl #[.pointer (some ⟨g, 0, none⟩)] rfl (by (try simp only [List.map_toArray, List.map_cons, List.map_nil]); first | done | rfl) ?_; refine (HT.out _ _ _ _ _ _ _ _ _ H1.out H0.out).mono ?_; rintro r' w2 ⟨vA, vc, rfl, h2, c2, t2⟩; refine ⟨_, rfl, ?_⟩; simp only [Act.put, sa_, sz_, ss_]; simp only [exV]; have H2 := Lib.hid h2; have C2 := Lib.hid c2; have T2 := Lib.hid t2; clear h2 c2 t2)
    | (((with_reducible refine gate_dst (N := 3) rfl ?_); refine box_event ?hg (N := 3) ?hd (cs := #[.int .i64 0, .string (⟨#[]⟩ : ByteArray), .string (⟨#[]⟩ : ByteArray), .int .i64 0, .int .i64 0, .int .i64 0, .int .i64 0, .string (⟨#[]⟩ : ByteArray), .slice none 0 0]) (t := 27) ?hr ?_; (case hd => rfl); (case hg => rfl); (case hr => first | (go_simp; done) | (go_simp; rfl)); intro gb7 hg_ w3 hb_ hl_; have BKgb7 := am_ hb_; have HLgb7 := am_ hl_; have HGgb7 := am_ (Nat.le_of_eq hg_.symm); obtain ⟨zgb7_0, zgb7_1, zgb7_2, zgb7_3, zgb7_4, zgb7_5, zgb7_6, zgb7_7, zgb7_8, ygb7_0, ygb7_1, ygb7_2, ygb7_3, ygb7_4, ygb7_5, ygb7_6, ygb7_7, ygb7_8⟩ := bw9_ hb_; clear hb_ hl_ hg_; simp only [Act.put, sa_, sz_, ss_]); have HN7 : Hid (g < gb7) := Lib.hid (Nat.lt_of_lt_of_le H2.out.lt HGgb7.out))
    | ((with_reducible refine gate_dst (N := 9) rfl ?_); refine litS6 (N' := 9) (g := g) ?hg ?hd ?hl ?hr ?_; (case hd => rfl); (case hg => rfl); (case hl => exact ((H2.out.below HLgb7.out).box chg9_ HN7.out).lt); (case hr => first | (go_simp; done) | (go_simp; rfl)); intro A9 c9 w9 s9 b9; have S9 := Lib.hid s9; have H9 := Lib.hid ((CS.start (H2.out.below HLgb7.out) (((Chg.below H.out.lt HLgb6.out).trans C2.out).trans (Chg.below H2.out.lt HLgb7.out)) (blk_below (C2.out.box BKgb6.out HN.out) HLgb7.out) BKgb7.out (start_tr BKgb6.out HGgb7.out HLgb6.out C2.out HLgb7.out T2.out) (Sg.nil _ _ _) H.out.lt HGgb6.out (Nat.lt_of_lt_of_le (blk_lt (C2.out.box BKgb6.out HN.out)) HGgb7.out)).below b9); clear s9 b9 zgb7_0 zgb7_1 zgb7_2 zgb7_3 zgb7_4 zgb7_5 zgb7_6 zgb7_7 zgb7_8 ygb7_0 ygb7_1 ygb7_2 ygb7_3 ygb7_4 ygb7_5 ygb7_6 ygb7_7 ygb7_8 BKgb6 BKgb7 HLgb6 HLgb7 HGgb6 HGgb7 H1 H2 C2 T2 HN7 HN; simp only [Act.put, sa_, sz_, ss_]))
  generalize w9.heap.size = b0 at S9
  obtain ⟨i, d, e, x⟩ := r0
  dsimp only at H9 HS1 HF Q1 ⊢
  go_loopg [11] 6 (fun kq v11 w' => ∃ (j : Int), v11 = .int .i64 j ∧ Aside0 (0 ≤ j ∧ j ≤ m ∧ kq = 6 - j.toNat) ∧ Aside0 (CS w g gb6 gb7 A c l none [] w' i d e x vA vc) ∧ Aside0 (Sg w' g b0 A9 six))
  case atStart => exact ⟨0, rfl, ⟨⟨Int.le_refl 0, Int.natCast_nonneg _, by simp⟩⟩, ⟨H9.out⟩, ⟨S9.out⟩⟩
  case round =>
    clear H9 S9
    obtain ⟨j, rfl, HJ, HC, HS⟩ := hrel
    have c1 : j < (6 : Int) := by have := HJ.out.2.1; have := HM.out; omega
    obtain ⟨ad, rfl, hc⟩ := HS.out.cell j HJ.out.1 c1
    have hj := eq_true HJ.out.1
    have c1b : decide (j < (6 : Int)) = true := decide_eq_true c1
    have c1c := eq_true c1
    by_cases c2 : j < m
    · have hm := HF.out j HJ.out.1 c2
      have HM1 := Lib.hid hm; clear hm
      have C2 := Lib.hid c2; clear c2
      go_wp2_with (first
        | ((with_reducible refine gate_callee (f := 121) rfl ?_); refine goesL_ (some 17) rfl rfl Try.func121 (by kernel_rfl) rfl #[.pointer (some ⟨g, 0, none⟩), .string (rdOf ByteArray.empty six j)] rfl (by (try simp only [List.map_toArray, List.map_cons, List.map_nil]); first | done | rfl) ?_; refine (take_no_st HC.out.st _ HM1.out).mono ?_; rintro r' w5 ⟨rfl, h5, c5⟩; refine ⟨_, rfl, ?_⟩; simp only [Act.put, sa_, sz_, ss_]; have H5 := Lib.hid (HC.out.chg c5 h5); have S5 := Lib.hid (HS.out.chg c5); clear h5 c5))
      have ⟨hj0, hj1, hj2⟩ := HJ.out; have hc2 := C2.out; have hm1 := HM.out
      clear HJ hc
      go_roundg (6 - (j + 1).toNat)
      case measure => omega
      case rel => exact ⟨j + 1, by rw [show wrap64 (j + 1) = j + 1 from w64 _ (by omega)], ⟨⟨by omega, by omega, rfl⟩⟩, ⟨H5.out⟩, ⟨S5.out⟩⟩
    · have ej : (m : Int) = j := by have := HJ.out.2.1; omega
      have hS1 := HS1.out
      rw [ej] at hS1 ⊢
      clear c2 HJ HS1 HF HM ej
      have HS1 := Lib.hid hS1; clear hS1
      go_wp2_with (first
        | ((with_reducible refine gate_callee (f := 121) rfl ?_); refine goesL_ (some 17) rfl rfl Try.func121 (by kernel_rfl) rfl #[.pointer (some ⟨g, 0, none⟩), .string (rdOf ByteArray.empty six j)] rfl (by (try simp only [List.map_toArray, List.map_cons, List.map_nil]); first | done | rfl) ?_; refine (take_yes_st HC.out.st _ HS1.out).mono ?_; rintro r' w5 ⟨rfl, h5, c5⟩; refine ⟨_, rfl, ?_⟩; simp only [Act.put, sa_, sz_, ss_]; have H5 := Lib.hid (HC.out.chg c5 h5); clear h5 c5 HC))
      have H6 := Lib.hid (H5.out.below (Below.drew (Below.refl _ _)))
      clear H5 hc
      refine start_ (n := 8) (S := fun w' => w'.heap[gb7]? = some (.cells #[.int .i64 x.f0, .string x.f1, .string x.f2, .int .i64 x.f3, .int .i64 x.f4, .int .i64 x.f5.f0, .int .i64 x.f5.f1, .string x.f5.f2, .slice vA x.f6.length vc] 27 (0, 0))) (ds := [7]) #[false, false, false, false, false, false, false, false] (by kernel_rfl) rfl rfl H6.out.b7 (fun hHeld => ?_)
      generalize w5.drew = w6 at H6 hHeld ⊢
      refine take_ (i := 0) (N := some 18) (v := ?_) (a' := ?_) #[true, false, false, false, false, false, false, false] rfl rfl (by kernel_rfl) (fun _ _ _ h => h) (Or.inl ⟨by rfl, ?_⟩) hHeld ?_ ?_; rotate_left
      · intro w' hS
        go_simp; (with_reducible rfl)
      rotate_left
      · simp only [Act.put, sa_, sz_, ss_, i64_w, i32_w]
        rfl
      refine take_ (i := 2) (N := some 20) (v := ?_) (a' := ?_) #[true, false, true, false, false, false, false, false] rfl rfl (by kernel_rfl) (fun _ _ _ h => h) (Or.inl ⟨by rfl, ?_⟩) hHeld ?_ ?_; rotate_left
      · intro w' hS; obtain ⟨s0, s1, s2, s3, s4, s5, s6, s7, s8, t0, t1, t2, t3, t4, t5, t6, t7, t8⟩ := bw9_ hS
        go_simp; (with_reducible rfl)
      rotate_left
      · simp only [Act.put, sa_, sz_, ss_, i64_w, i32_w]
        rfl
      refine take_ (i := 3) (N := some 21) (v := ?_) (a' := ?_) #[true, false, true, true, false, false, false, false] rfl rfl (by kernel_rfl) (fun _ _ _ h => h) (Or.inl ⟨by rfl, ?_⟩) hHeld ?_ ?_; rotate_left
      · intro w' hS
        go_simp; (with_reducible rfl)
      rotate_left
      · simp only [Act.put, sa_, sz_, ss_, i64_w, i32_w]
        rfl
      refine one_ (i := 1) (N := some 19) #[true, true, true, true, false, false, false, false] rfl rfl (by kernel_rfl) (by decide) (fun K hK => ?_); refine goes_ Try.func123 (by kernel_rfl) rfl #[.string (rdOf ByteArray.empty six j)] (by rfl) rfl rfl (by (try simp only [List.map_toArray, List.map_cons, List.map_nil]); first | done | rfl) ?_; (with_reducible refine (parse_opOf.calls (rdOf ByteArray.empty six j) _ _ (opP_f _)).mono ?_); rintro e' w7 ⟨rfl, nd, rfl⟩; refine ⟨_, rfl, ?_⟩; have H7 := Lib.hid (H6.out.below (pw_below_drewN (Below.refl _ _) nd)); generalize w6.drewN nd = w7 at H7 hK ⊢; clear H6 hHeld; refine hK.out _ _ H7.out.b7 (fun hHeld => ?_); clear hK K; refine norm_ (a' := ?_) ?_ ?_; rotate_left
      · show Act.put _ (some 19) _ = _
        simp only [Act.put, sa_, sz_, ss_, i64_w, i32_w]; rfl
      refine one_ (i := 4) (N := some 22) #[true, true, true, true, true, false, false, false] rfl rfl (by kernel_rfl) (by decide) (fun K hK => ?_); refine goes_ Try.func159 (by kernel_rfl) rfl #[.pointer (some ⟨g, 0, none⟩)] (by rfl) rfl rfl (by (try simp only [List.map_toArray, List.map_cons, List.map_nil]); first | done | rfl) ?_; refine (HT.out _ _ _ _ _ _ _ _ _ H7.out.st Q1.out).mono ?_; rintro e' w8 ⟨yA, yc, rfl, h8, c8, t8⟩; refine ⟨_, rfl, ?_⟩; have H8 := Lib.hid (H7.out.chg c8 h8); have T8 := Lib.hid (Tr.aft H7.out t8); clear c8 h8 t8 H7 hHeld; refine hK.out _ _ H8.out.b7 (fun hHeld => ?_); clear hK K; refine norm_ (a' := ?_) ?_ ?_; rotate_left
      · show Act.put _ (some 22) _ = _
        simp only [Act.put, sa_, sz_, ss_, i64_w, i32_w, exV]; rfl
      refine one_ (i := 5) (N := some 23) #[true, true, true, true, true, true, false, false] rfl rfl (by kernel_rfl) (by decide) (fun K hK => ?_); refine lit2s (by rfl) rfl H8.out.tr T8.out ?hf ?hr ?_; (case hf => exact H8.out.fresh); (case hr => first | (go_simp; done) | (go_simp; rfl)); intro A9 c9 w9 v9 b9; have V9 := Lib.hid v9; have H9 := Lib.hid (H8.out.below b9); clear v9 b9 T8 H8 hHeld; refine hK.out _ _ H9.out.b7 (fun hHeld => ?_); clear hK K; refine norm_ (a' := ?_) ?_ ?_; rotate_left
      · show Act.put _ (some 23) _ = _
        simp only [Act.put, sa_, sz_, ss_, i64_w, i32_w]; rfl
      refine one_ (i := 6) (N := some 24) #[true, true, true, true, true, true, true, false] rfl rfl (by kernel_rfl) (by decide) (fun K hK => ?_); refine goes_ Try.func122 (by kernel_rfl) rfl #[.int .i64 (opP (rdOf ByteArray.empty six j)), .slice A9 2 c9] (by rfl) rfl rfl (by (try simp only [List.map_toArray, List.map_cons, List.map_nil]); first | done | rfl) ?_; refine (of_any (opP (rdOf ByteArray.empty six j)) [x, r1.x] (by simp) V9.out).mono ?_; rintro e' w10 ⟨zA, zc, rfl, t10, b10⟩; refine ⟨_, rfl, ?_⟩; have H10 := Lib.hid (H9.out.below b10); have T10 := Lib.hid (Tr.new H9.out t10); clear t10 b10 V9 H9 hHeld; refine hK.out _ _ H10.out.b7 (fun hHeld => ?_); clear hK K; refine norm_ (a' := ?_) ?_ ?_; rotate_left
      · show Act.put _ (some 24) _ = _
        simp only [Act.put, sa_, sz_, ss_, i64_w, i32_w, exV, ofP]; rfl
      obtain ⟨s0, s1, s2, s3, s4, s5, s6, s7, s8, t0, t1, t2, t3, t4, t5, t6, t7, t8⟩ := bw9_ H10.out.b6
      refine last_ (i := 7) (N := none) #[true, true, true, true, true, true, true, true] rfl rfl (by kernel_rfl) (by decide) (fun K hK => ?_); refine skip_ (w1 := ?_) (by rfl) rfl ?_ ?_; rotate_left
      · go_simp
        rfl
      refine hK.out _ _ ?_; clear hK K; refine done_ (by kernel_rfl) ?_
      clear s0 s1 s2 s3 s4 s5 s6 s7 s8 t0 t1 t2 t3 t4 t5 t6 t7 t8
      try go_wp2
      exact bodyPost_ret (results_cell_row rfl _ _ gb6 27 #[.int .i64 (opP (rdOf ByteArray.empty six j)), .string ⟨#[]⟩, .string ⟨#[]⟩, .int .i64 0, .int .i64 0, .int .i64 0, .int .i64 0, .string ⟨#[]⟩, .slice zA 2 zc] (0, 0) _ rfl (put9_ H10.out.b6) Try.underlying27 rfl (by kernel_rfl)) rfl (H10.out.done' T10.out)

theorem test_no {k : Nat} (hT : GOK k .sum) {w : World} {g : Nat} {A : Option Addr} {c : Nat} {l : List S91} {i0 d0 e0 : Int} {r0 : Re} (h : St w g A c l i0 d0 e0) (h0 : pr l k (.f .sum) i0 d0 e0 = some r0) (hf : six.find? (fun s => isP l r0.i r0.e s) = none) (g1 : isP l r0.i r0.e wIs = false) :
    Calls Try.prog 150 #[.pointer (some ⟨g, 0, none⟩)] w (Done w g A c l r0) := by
  have HF := Lib.hid hf; clear hf
  have G1 := Lib.hid g1; clear g1
  have H := Lib.hid h; clear h
  have H0 := Lib.hid h0; clear h0
  have HT := Lib.hid hT; clear hT
  go_enter Try.func150, Try.ntmps150
  go_wp2_with (first
    | (((with_reducible refine gate_dst (N := 2) rfl ?_); refine box_event ?hg (N := 2) ?hd (cs := #[.int .i64 0, .string (⟨#[]⟩ : ByteArray), .string (⟨#[]⟩ : ByteArray), .int .i64 0, .int .i64 0, .int .i64 0, .int .i64 0, .string (⟨#[]⟩ : ByteArray), .slice none 0 0]) (t := 27) ?hr ?_; (case hd => rfl); (case hg => rfl); (case hr => first | (go_simp; done) | (go_simp; rfl)); intro gb6 hg_ w1 hb_ hl_; have BKgb6 := am_ hb_; have HLgb6 := am_ hl_; have HGgb6 := am_ (Nat.le_of_eq hg_.symm); obtain ⟨zgb6_0, zgb6_1, zgb6_2, zgb6_3, zgb6_4, zgb6_5, zgb6_6, zgb6_7, zgb6_8, ygb6_0, ygb6_1, ygb6_2, ygb6_3, ygb6_4, ygb6_5, ygb6_6, ygb6_7, ygb6_8⟩ := bw9_ hb_; clear hb_ hl_ hg_; simp only [Act.put, sa_, sz_, ss_]); have H1 := Lib.hid (H.out.below HLgb6.out); have HN := Lib.hid (ne_of_le H.out.lt HGgb6.out); clear zgb6_0 zgb6_1 zgb6_2 zgb6_3 zgb6_4 zgb6_5 zgb6_6 zgb6_7 zgb6_8 ygb6_0 ygb6_1 ygb6_2 ygb6_3 ygb6_4 ygb6_5 ygb6_6 ygb6_7 ygb6_8)
    | ((with_reducible refine gate_callee (f := 159) rfl ?_); refine goesL_ (some 8) rfl rfl Try.func159 (by kernel_rfl) rfl #[.pointer (some ⟨g, 0, none⟩)] rfl (by (try simp only [List.map_toArray, List.map_cons, List.map_nil]); first | done | rfl) ?_; refine (HT.out _ _ _ _ _ _ _ _ _ H1.out H0.out).mono ?_; rintro r' w2 ⟨vA, vc, rfl, h2, c2, t2⟩; refine ⟨_, rfl, ?_⟩; simp only [Act.put, sa_, sz_, ss_]; simp only [exV]; have H2 := Lib.hid h2; have C2 := Lib.hid c2; have T2 := Lib.hid t2; clear h2 c2 t2)
    | (((with_reducible refine gate_dst (N := 3) rfl ?_); refine box_event ?hg (N := 3) ?hd (cs := #[.int .i64 0, .string (⟨#[]⟩ : ByteArray), .string (⟨#[]⟩ : ByteArray), .int .i64 0, .int .i64 0, .int .i64 0, .int .i64 0, .string (⟨#[]⟩ : ByteArray), .slice none 0 0]) (t := 27) ?hr ?_; (case hd => rfl); (case hg => rfl); (case hr => first | (go_simp; done) | (go_simp; rfl)); intro gb7 hg_ w3 hb_ hl_; have BKgb7 := am_ hb_; have HLgb7 := am_ hl_; have HGgb7 := am_ (Nat.le_of_eq hg_.symm); obtain ⟨zgb7_0, zgb7_1, zgb7_2, zgb7_3, zgb7_4, zgb7_5, zgb7_6, zgb7_7, zgb7_8, ygb7_0, ygb7_1, ygb7_2, ygb7_3, ygb7_4, ygb7_5, ygb7_6, ygb7_7, ygb7_8⟩ := bw9_ hb_; clear hb_ hl_ hg_; simp only [Act.put, sa_, sz_, ss_]); have HN7 : Hid (g < gb7) := Lib.hid (Nat.lt_of_lt_of_le H2.out.lt HGgb7.out))
    | ((with_reducible refine gate_dst (N := 9) rfl ?_); refine litS6 (N' := 9) (g := g) ?hg ?hd ?hl ?hr ?_; (case hd => rfl); (case hg => rfl); (case hl => exact ((H2.out.below HLgb7.out).box chg9_ HN7.out).lt); (case hr => first | (go_simp; done) | (go_simp; rfl)); intro A9 c9 w9 s9 b9; have S9 := Lib.hid s9; have H9 := Lib.hid ((CS.start (H2.out.below HLgb7.out) (((Chg.below H.out.lt HLgb6.out).trans C2.out).trans (Chg.below H2.out.lt HLgb7.out)) (blk_below (C2.out.box BKgb6.out HN.out) HLgb7.out) BKgb7.out (start_tr BKgb6.out HGgb7.out HLgb6.out C2.out HLgb7.out T2.out) (Sg.nil _ _ _) H.out.lt HGgb6.out (Nat.lt_of_lt_of_le (blk_lt (C2.out.box BKgb6.out HN.out)) HGgb7.out)).below b9); clear s9 b9 zgb7_0 zgb7_1 zgb7_2 zgb7_3 zgb7_4 zgb7_5 zgb7_6 zgb7_7 zgb7_8 ygb7_0 ygb7_1 ygb7_2 ygb7_3 ygb7_4 ygb7_5 ygb7_6 ygb7_7 ygb7_8 BKgb6 BKgb7 HLgb6 HLgb7 HGgb6 HGgb7 H1 H2 C2 T2 HN7 HN; simp only [Act.put, sa_, sz_, ss_]))
  generalize w9.heap.size = b0 at S9
  obtain ⟨i, d, e, x⟩ := r0
  dsimp only at H9 HF G1 ⊢
  go_loopg [11] 6 (fun kq v11 w' => ∃ (j : Int), v11 = .int .i64 j ∧ Aside0 (0 ≤ j ∧ j ≤ 6 ∧ kq = 6 - j.toNat) ∧ Aside0 (CS w g gb6 gb7 A c l none [] w' i d e x vA vc) ∧ Aside0 (Sg w' g b0 A9 six))
  case atStart => exact ⟨0, rfl, ⟨⟨Int.le_refl 0, by decide, by simp⟩⟩, ⟨H9.out⟩, ⟨S9.out⟩⟩
  case round =>
    clear H9 S9
    obtain ⟨j, rfl, HJ, HC, HS⟩ := hrel
    by_cases c1 : j < (6 : Int)
    · obtain ⟨ad, rfl, hc⟩ := HS.out.cell j HJ.out.1 c1
      have hj := eq_true HJ.out.1
      have c1b : decide (j < (6 : Int)) = true := decide_eq_true c1
      have c1c := eq_true c1
      have hm : isP l i e (rdOf ByteArray.empty six j) = false := by
        have := List.find?_eq_none.1 HF.out (rdOf ByteArray.empty six j) (rdOf_mem six j HJ.out.1 c1)
        simpa using this
      have HM1 := Lib.hid hm; clear hm
      have C2 := Lib.hid c1; clear c1
      go_wp2_with (first
        | ((with_reducible refine gate_callee (f := 121) rfl ?_); refine goesL_ (some 17) rfl rfl Try.func121 (by kernel_rfl) rfl #[.pointer (some ⟨g, 0, none⟩), .string (rdOf ByteArray.empty six j)] rfl (by (try simp only [List.map_toArray, List.map_cons, List.map_nil]); first | done | rfl) ?_; refine (take_no_st HC.out.st _ HM1.out).mono ?_; rintro r' w5 ⟨rfl, h5, c5⟩; refine ⟨_, rfl, ?_⟩; simp only [Act.put, sa_, sz_, ss_]; have H5 := Lib.hid (HC.out.chg c5 h5); have S5 := Lib.hid (HS.out.chg c5); clear h5 c5))
      have ⟨hj0, hj1, hj2⟩ := HJ.out; have hc2 := C2.out
      clear HJ hc
      go_roundg (6 - (j + 1).toNat)
      case measure => omega
      case rel => exact ⟨j + 1, by rw [show wrap64 (j + 1) = j + 1 from w64 _ (by omega)], ⟨⟨by omega, by omega, rfl⟩⟩, ⟨H5.out⟩, ⟨S5.out⟩⟩
    · have c1b : decide (j < (6 : Int)) = false := decide_eq_false c1
      clear HJ c1 HS HF
      obtain ⟨p0, p1, p2, p3, p4, p5, p6, p7, p8, q0, q1, q2, q3, q4, q5, q6, q7, q8⟩ := bw9_ HC.out.b6; obtain ⟨s0, s1, s2, s3, s4, s5, s6, s7, s8, t0, t1, t2, t3, t4, t5, t6, t7, t8⟩ := bw9_ HC.out.b7
      clear p0 p1 p2 p3 p4 p5 p6 p7 p8 q0 q1 q2 q3 q4 q5 q6 q7 q8 s0 s1 s2 s3 s4 s5 s6 s7 s8 t0 t1 t2 t3 t4 t5 t6 t7 t8
      go_wp2_with (first
        | ((with_reducible refine gate_callee (f := 121) rfl ?_); refine goesL_ (some 27) rfl rfl Try.func121 (by kernel_rfl) rfl #[.pointer (some ⟨g, 0, none⟩), .string wIs] rfl (by (try simp only [List.map_toArray, List.map_cons, List.map_nil]); first | done | rfl) ?_; refine (take_no_st HC.out.st _ G1.out).mono ?_; rintro r' w5 ⟨rfl, h5, c5⟩; refine ⟨_, rfl, ?_⟩; simp only [Act.put, sa_, sz_, ss_]; have H5 := Lib.hid (HC.out.chg c5 h5); clear h5 c5 HC; obtain ⟨p0, p1, p2, p3, p4, p5, p6, p7, p8, q0, q1, q2, q3, q4, q5, q6, q7, q8⟩ := bw9_ H5.out.b6; obtain ⟨s0, s1, s2, s3, s4, s5, s6, s7, s8, t0, t1, t2, t3, t4, t5, t6, t7, t8⟩ := bw9_ H5.out.b7))
      exact bodyPost_ret (results_cell_row rfl _ _ gb6 27 #[.int .i64 x.f0, .string x.f1, .string x.f2, .int .i64 x.f3, .int .i64 x.f4, .int .i64 x.f5.f0, .int .i64 x.f5.f1, .string x.f5.f2, .slice vA x.f6.length vc] (0, 0) _ rfl (put9_ H5.out.b6) Try.underlying27 rfl (by kernel_rfl)) rfl H5.out.done
theorem test_is {k : Nat} (hT : GOK k .sum) {w : World} {g : Nat} {A : Option Addr} {c : Nat} {l : List S91} {i0 d0 e0 : Int} {r0 : Re} (h : St w g A c l i0 d0 e0) (h0 : pr l k (.f .sum) i0 d0 e0 = some r0) (hf : six.find? (fun s => isP l r0.i r0.e s) = none) (g1 : isP l r0.i r0.e wIs = true) (g2 : isP l (r0.i + 1) r0.e wNot = false) :
    Calls Try.prog 150 #[.pointer (some ⟨g, 0, none⟩)] w (Done w g A c l ⟨muI l (r0.i + 1) r0.e wNull, r0.d, muE l (r0.i + 1) r0.e wNull, ofP 13 [r0.x]⟩) := by
  have HF := Lib.hid hf; clear hf
  have G1 := Lib.hid g1; clear g1
  have G2 := Lib.hid g2; clear g2
  have H := Lib.hid h; clear h
  have H0 := Lib.hid h0; clear h0
  have HT := Lib.hid hT; clear hT
  go_enter Try.func150, Try.ntmps150
  go_wp2_with (first
    | (((with_reducible refine gate_dst (N := 2) rfl ?_); refine box_event ?hg (N := 2) ?hd (cs := #[.int .i64 0, .string (⟨#[]⟩ : ByteArray), .string (⟨#[]⟩ : ByteArray), .int .i64 0, .int .i64 0, .int .i64 0, .int .i64 0, .string (⟨#[]⟩ : ByteArray), .slice none 0 0]) (t := 27) ?hr ?_; (case hd => rfl); (case hg => rfl); (case hr => first | (go_simp; done) | (go_simp; rfl)); intro gb6 hg_ w1 hb_ hl_; have BKgb6 := am_ hb_; have HLgb6 := am_ hl_; have HGgb6 := am_ (Nat.le_of_eq hg_.symm); obtain ⟨zgb6_0, zgb6_1, zgb6_2, zgb6_3, zgb6_4, zgb6_5, zgb6_6, zgb6_7, zgb6_8, ygb6_0, ygb6_1, ygb6_2, ygb6_3, ygb6_4, ygb6_5, ygb6_6, ygb6_7, ygb6_8⟩ := bw9_ hb_; clear hb_ hl_ hg_; simp only [Act.put, sa_, sz_, ss_]); have H1 := Lib.hid (H.out.below HLgb6.out); have HN := Lib.hid (ne_of_le H.out.lt HGgb6.out); clear zgb6_0 zgb6_1 zgb6_2 zgb6_3 zgb6_4 zgb6_5 zgb6_6 zgb6_7 zgb6_8 ygb6_0 ygb6_1 ygb6_2 ygb6_3 ygb6_4 ygb6_5 ygb6_6 ygb6_7 ygb6_8)
    | ((with_reducible refine gate_callee (f := 159) rfl ?_); refine goesL_ (some 8) rfl rfl Try.func159 (by kernel_rfl) rfl #[.pointer (some ⟨g, 0, none⟩)] rfl (by (try simp only [List.map_toArray, List.map_cons, List.map_nil]); first | done | rfl) ?_; refine (HT.out _ _ _ _ _ _ _ _ _ H1.out H0.out).mono ?_; rintro r' w2 ⟨vA, vc, rfl, h2, c2, t2⟩; refine ⟨_, rfl, ?_⟩; simp only [Act.put, sa_, sz_, ss_]; simp only [exV]; have H2 := Lib.hid h2; have C2 := Lib.hid c2; have T2 := Lib.hid t2; clear h2 c2 t2)
    | (((with_reducible refine gate_dst (N := 3) rfl ?_); refine box_event ?hg (N := 3) ?hd (cs := #[.int .i64 0, .string (⟨#[]⟩ : ByteArray), .string (⟨#[]⟩ : ByteArray), .int .i64 0, .int .i64 0, .int .i64 0, .int .i64 0, .string (⟨#[]⟩ : ByteArray), .slice none 0 0]) (t := 27) ?hr ?_; (case hd => rfl); (case hg => rfl); (case hr => first | (go_simp; done) | (go_simp; rfl)); intro gb7 hg_ w3 hb_ hl_; have BKgb7 := am_ hb_; have HLgb7 := am_ hl_; have HGgb7 := am_ (Nat.le_of_eq hg_.symm); obtain ⟨zgb7_0, zgb7_1, zgb7_2, zgb7_3, zgb7_4, zgb7_5, zgb7_6, zgb7_7, zgb7_8, ygb7_0, ygb7_1, ygb7_2, ygb7_3, ygb7_4, ygb7_5, ygb7_6, ygb7_7, ygb7_8⟩ := bw9_ hb_; clear hb_ hl_ hg_; simp only [Act.put, sa_, sz_, ss_]); have HN7 : Hid (g < gb7) := Lib.hid (Nat.lt_of_lt_of_le H2.out.lt HGgb7.out))
    | ((with_reducible refine gate_dst (N := 9) rfl ?_); refine litS6 (N' := 9) (g := g) ?hg ?hd ?hl ?hr ?_; (case hd => rfl); (case hg => rfl); (case hl => exact ((H2.out.below HLgb7.out).box chg9_ HN7.out).lt); (case hr => first | (go_simp; done) | (go_simp; rfl)); intro A9 c9 w9 s9 b9; have S9 := Lib.hid s9; have H9 := Lib.hid ((CS.start (H2.out.below HLgb7.out) (((Chg.below H.out.lt HLgb6.out).trans C2.out).trans (Chg.below H2.out.lt HLgb7.out)) (blk_below (C2.out.box BKgb6.out HN.out) HLgb7.out) BKgb7.out (start_tr BKgb6.out HGgb7.out HLgb6.out C2.out HLgb7.out T2.out) (Sg.nil _ _ _) H.out.lt HGgb6.out (Nat.lt_of_lt_of_le (blk_lt (C2.out.box BKgb6.out HN.out)) HGgb7.out)).below b9); clear s9 b9 zgb7_0 zgb7_1 zgb7_2 zgb7_3 zgb7_4 zgb7_5 zgb7_6 zgb7_7 zgb7_8 ygb7_0 ygb7_1 ygb7_2 ygb7_3 ygb7_4 ygb7_5 ygb7_6 ygb7_7 ygb7_8 BKgb6 BKgb7 HLgb6 HLgb7 HGgb6 HGgb7 H1 H2 C2 T2 HN7 HN; simp only [Act.put, sa_, sz_, ss_]))
  generalize w9.heap.size = b0 at S9
  obtain ⟨i, d, e, x⟩ := r0
  dsimp only at H9 HF G1 G2 ⊢
  go_loopg [11] 6 (fun kq v11 w' => ∃ (j : Int), v11 = .int .i64 j ∧ Aside0 (0 ≤ j ∧ j ≤ 6 ∧ kq = 6 - j.toNat) ∧ Aside0 (CS w g gb6 gb7 A c l none [] w' i d e x vA vc) ∧ Aside0 (Sg w' g b0 A9 six))
  case atStart => exact ⟨0, rfl, ⟨⟨Int.le_refl 0, by decide, by simp⟩⟩, ⟨H9.out⟩, ⟨S9.out⟩⟩
  case round =>
    clear H9 S9
    obtain ⟨j, rfl, HJ, HC, HS⟩ := hrel
    by_cases c1 : j < (6 : Int)
    · obtain ⟨ad, rfl, hc⟩ := HS.out.cell j HJ.out.1 c1
      have hj := eq_true HJ.out.1
      have c1b : decide (j < (6 : Int)) = true := decide_eq_true c1
      have c1c := eq_true c1
      have hm : isP l i e (rdOf ByteArray.empty six j) = false := by
        have := List.find?_eq_none.1 HF.out (rdOf ByteArray.empty six j) (rdOf_mem six j HJ.out.1 c1)
        simpa using this
      have HM1 := Lib.hid hm; clear hm
      have C2 := Lib.hid c1; clear c1
      go_wp2_with (first
        | ((with_reducible refine gate_callee (f := 121) rfl ?_); refine goesL_ (some 17) rfl rfl Try.func121 (by kernel_rfl) rfl #[.pointer (some ⟨g, 0, none⟩), .string (rdOf ByteArray.empty six j)] rfl (by (try simp only [List.map_toArray, List.map_cons, List.map_nil]); first | done | rfl) ?_; refine (take_no_st HC.out.st _ HM1.out).mono ?_; rintro r' w5 ⟨rfl, h5, c5⟩; refine ⟨_, rfl, ?_⟩; simp only [Act.put, sa_, sz_, ss_]; have H5 := Lib.hid (HC.out.chg c5 h5); have S5 := Lib.hid (HS.out.chg c5); clear h5 c5))
      have ⟨hj0, hj1, hj2⟩ := HJ.out; have hc2 := C2.out
      clear HJ hc
      go_roundg (6 - (j + 1).toNat)
      case measure => omega
      case rel => exact ⟨j + 1, by rw [show wrap64 (j + 1) = j + 1 from w64 _ (by omega)], ⟨⟨by omega, by omega, rfl⟩⟩, ⟨H5.out⟩, ⟨S5.out⟩⟩
    · have c1b : decide (j < (6 : Int)) = false := decide_eq_false c1
      clear HJ c1 HS HF
      go_wp2_with (first
        | ((with_reducible refine gate_callee (f := 121) rfl ?_); refine goesL_ (some 27) rfl rfl Try.func121 (by kernel_rfl) rfl #[.pointer (some ⟨g, 0, none⟩), .string wIs] rfl (by (try simp only [List.map_toArray, List.map_cons, List.map_nil]); first | done | rfl) ?_; refine (take_yes_st HC.out.st _ G1.out).mono ?_; rintro r' w5 ⟨rfl, h5, c5⟩; refine ⟨_, rfl, ?_⟩; simp only [Act.put, sa_, sz_, ss_]; have H5 := Lib.hid (HC.out.chg c5 h5); clear h5 c5 HC)
        | ((with_reducible refine gate_callee (f := 121) rfl ?_); refine goesL_ (some 31) rfl rfl Try.func121 (by kernel_rfl) rfl #[.pointer (some ⟨g, 0, none⟩), .string wNot] rfl (by (try simp only [List.map_toArray, List.map_cons, List.map_nil]); first | done | rfl) ?_; refine (take_no_st H5.out.st _ G2.out).mono ?_; rintro r' w6 ⟨rfl, h5, c5⟩; refine ⟨_, rfl, ?_⟩; simp only [Act.put, sa_, sz_, ss_]; have H6 := Lib.hid (H5.out.chg c5 h5); clear h5 c5 H5)
        | ((with_reducible refine gate_callee (f := 160) rfl ?_); refine goesL_ (some 33) rfl rfl Try.func160 (by kernel_rfl) rfl #[.pointer (some ⟨g, 0, none⟩), .string wNull] rfl (by (try simp only [List.map_toArray, List.map_cons, List.map_nil]); first | done | rfl) ?_; refine (must_st H6.out.st _).mono ?_; rintro r' w7 ⟨rfl, h5, c5⟩; refine ⟨_, rfl, ?_⟩; simp only [Act.put, sa_, sz_, ss_]; have H7 := Lib.hid (H6.out.chg c5 h5); clear h5 c5 H6; obtain ⟨p0, p1, p2, p3, p4, p5, p6, p7, p8, q0, q1, q2, q3, q4, q5, q6, q7, q8⟩ := bw9_ H7.out.b6; obtain ⟨s0, s1, s2, s3, s4, s5, s6, s7, s8, t0, t1, t2, t3, t4, t5, t6, t7, t8⟩ := bw9_ H7.out.b7)
        | ((with_reducible refine gate_dst (N := 36) rfl ?_); refine lit1 (N' := 36) ?hg ?hd H7.out.tr ?hf ?hr ?_; (case hd => rfl); (case hg => rfl); (case hf => exact H7.out.fresh); (case hr => first | (go_simp; done) | (go_simp; rfl)); intro A8 c8 w8 v8 b8; have V8 := Lib.hid v8; have H8 := Lib.hid (H7.out.below b8); clear v8 b8 p0 p1 p2 p3 p4 p5 p6 p7 p8 q0 q1 q2 q3 q4 q5 q6 q7 q8 s0 s1 s2 s3 s4 s5 s6 s7 s8 t0 t1 t2 t3 t4 t5 t6 t7 t8; simp only [Act.put, sa_, sz_, ss_])
        | ((with_reducible refine gate_callee (f := 122) rfl ?_); refine goesL_ (some 37) rfl rfl Try.func122 (by kernel_rfl) rfl #[.int .i64 13, .slice A8 1 c8] rfl (by (try simp only [List.map_toArray, List.map_cons, List.map_nil]); first | done | rfl) ?_; refine (of_any 13 [x] (by simp) V8.out).mono ?_; rintro r' w9 ⟨zA, zc, rfl, t9, b9⟩; refine ⟨_, rfl, ?_⟩; simp only [Act.put, sa_, sz_, ss_]; simp only [exV, ofP]; have H9 := Lib.hid (H8.out.below b9); have T9 := Lib.hid (Tr.new H8.out t9); clear t9 b9; obtain ⟨p0, p1, p2, p3, p4, p5, p6, p7, p8, q0, q1, q2, q3, q4, q5, q6, q7, q8⟩ := bw9_ H9.out.b6; obtain ⟨s0, s1, s2, s3, s4, s5, s6, s7, s8, t0, t1, t2, t3, t4, t5, t6, t7, t8⟩ := bw9_ H9.out.b7))
      exact bodyPost_ret (results_cell_row rfl _ _ gb6 27 #[.int .i64 13, .string ⟨#[]⟩, .string ⟨#[]⟩, .int .i64 0, .int .i64 0, .int .i64 0, .int .i64 0, .string ⟨#[]⟩, .slice zA 1 zc] (0, 0) _ rfl (put9_ H9.out.b6) Try.underlying27 rfl (by kernel_rfl)) rfl (H9.out.done' T9.out)
theorem test_isnt {k : Nat} (hT : GOK k .sum) {w : World} {g : Nat} {A : Option Addr} {c : Nat} {l : List S91} {i0 d0 e0 : Int} {r0 : Re} (h : St w g A c l i0 d0 e0) (h0 : pr l k (.f .sum) i0 d0 e0 = some r0) (hf : six.find? (fun s => isP l r0.i r0.e s) = none) (g1 : isP l r0.i r0.e wIs = true) (g2 : isP l (r0.i + 1) r0.e wNot = true) :
    Calls Try.prog 150 #[.pointer (some ⟨g, 0, none⟩)] w (Done w g A c l ⟨muI l (r0.i + 1 + 1) r0.e wNull, r0.d, muE l (r0.i + 1 + 1) r0.e wNull, ofP 14 [r0.x]⟩) := by
  have HF := Lib.hid hf; clear hf
  have G1 := Lib.hid g1; clear g1
  have G2 := Lib.hid g2; clear g2
  have H := Lib.hid h; clear h
  have H0 := Lib.hid h0; clear h0
  have HT := Lib.hid hT; clear hT
  go_enter Try.func150, Try.ntmps150
  go_wp2_with (first
    | (((with_reducible refine gate_dst (N := 2) rfl ?_); refine box_event ?hg (N := 2) ?hd (cs := #[.int .i64 0, .string (⟨#[]⟩ : ByteArray), .string (⟨#[]⟩ : ByteArray), .int .i64 0, .int .i64 0, .int .i64 0, .int .i64 0, .string (⟨#[]⟩ : ByteArray), .slice none 0 0]) (t := 27) ?hr ?_; (case hd => rfl); (case hg => rfl); (case hr => first | (go_simp; done) | (go_simp; rfl)); intro gb6 hg_ w1 hb_ hl_; have BKgb6 := am_ hb_; have HLgb6 := am_ hl_; have HGgb6 := am_ (Nat.le_of_eq hg_.symm); obtain ⟨zgb6_0, zgb6_1, zgb6_2, zgb6_3, zgb6_4, zgb6_5, zgb6_6, zgb6_7, zgb6_8, ygb6_0, ygb6_1, ygb6_2, ygb6_3, ygb6_4, ygb6_5, ygb6_6, ygb6_7, ygb6_8⟩ := bw9_ hb_; clear hb_ hl_ hg_; simp only [Act.put, sa_, sz_, ss_]); have H1 := Lib.hid (H.out.below HLgb6.out); have HN := Lib.hid (ne_of_le H.out.lt HGgb6.out); clear zgb6_0 zgb6_1 zgb6_2 zgb6_3 zgb6_4 zgb6_5 zgb6_6 zgb6_7 zgb6_8 ygb6_0 ygb6_1 ygb6_2 ygb6_3 ygb6_4 ygb6_5 ygb6_6 ygb6_7 ygb6_8)
    | ((with_reducible refine gate_callee (f := 159) rfl ?_); refine goesL_ (some 8) rfl rfl Try.func159 (by kernel_rfl) rfl #[.pointer (some ⟨g, 0, none⟩)] rfl (by (try simp only [List.map_toArray, List.map_cons, List.map_nil]); first | done | rfl) ?_; refine (HT.out _ _ _ _ _ _ _ _ _ H1.out H0.out).mono ?_; rintro r' w2 ⟨vA, vc, rfl, h2, c2, t2⟩; refine ⟨_, rfl, ?_⟩; simp only [Act.put, sa_, sz_, ss_]; simp only [exV]; have H2 := Lib.hid h2; have C2 := Lib.hid c2; have T2 := Lib.hid t2; clear h2 c2 t2)
    | (((with_reducible refine gate_dst (N := 3) rfl ?_); refine box_event ?hg (N := 3) ?hd (cs := #[.int .i64 0, .string (⟨#[]⟩ : ByteArray), .string (⟨#[]⟩ : ByteArray), .int .i64 0, .int .i64 0, .int .i64 0, .int .i64 0, .string (⟨#[]⟩ : ByteArray), .slice none 0 0]) (t := 27) ?hr ?_; (case hd => rfl); (case hg => rfl); (case hr => first | (go_simp; done) | (go_simp; rfl)); intro gb7 hg_ w3 hb_ hl_; have BKgb7 := am_ hb_; have HLgb7 := am_ hl_; have HGgb7 := am_ (Nat.le_of_eq hg_.symm); obtain ⟨zgb7_0, zgb7_1, zgb7_2, zgb7_3, zgb7_4, zgb7_5, zgb7_6, zgb7_7, zgb7_8, ygb7_0, ygb7_1, ygb7_2, ygb7_3, ygb7_4, ygb7_5, ygb7_6, ygb7_7, ygb7_8⟩ := bw9_ hb_; clear hb_ hl_ hg_; simp only [Act.put, sa_, sz_, ss_]); have HN7 : Hid (g < gb7) := Lib.hid (Nat.lt_of_lt_of_le H2.out.lt HGgb7.out))
    | ((with_reducible refine gate_dst (N := 9) rfl ?_); refine litS6 (N' := 9) (g := g) ?hg ?hd ?hl ?hr ?_; (case hd => rfl); (case hg => rfl); (case hl => exact ((H2.out.below HLgb7.out).box chg9_ HN7.out).lt); (case hr => first | (go_simp; done) | (go_simp; rfl)); intro A9 c9 w9 s9 b9; have S9 := Lib.hid s9; have H9 := Lib.hid ((CS.start (H2.out.below HLgb7.out) (((Chg.below H.out.lt HLgb6.out).trans C2.out).trans (Chg.below H2.out.lt HLgb7.out)) (blk_below (C2.out.box BKgb6.out HN.out) HLgb7.out) BKgb7.out (start_tr BKgb6.out HGgb7.out HLgb6.out C2.out HLgb7.out T2.out) (Sg.nil _ _ _) H.out.lt HGgb6.out (Nat.lt_of_lt_of_le (blk_lt (C2.out.box BKgb6.out HN.out)) HGgb7.out)).below b9); clear s9 b9 zgb7_0 zgb7_1 zgb7_2 zgb7_3 zgb7_4 zgb7_5 zgb7_6 zgb7_7 zgb7_8 ygb7_0 ygb7_1 ygb7_2 ygb7_3 ygb7_4 ygb7_5 ygb7_6 ygb7_7 ygb7_8 BKgb6 BKgb7 HLgb6 HLgb7 HGgb6 HGgb7 H1 H2 C2 T2 HN7 HN; simp only [Act.put, sa_, sz_, ss_]))
  generalize w9.heap.size = b0 at S9
  obtain ⟨i, d, e, x⟩ := r0
  dsimp only at H9 HF G1 G2 ⊢
  go_loopg [11] 6 (fun kq v11 w' => ∃ (j : Int), v11 = .int .i64 j ∧ Aside0 (0 ≤ j ∧ j ≤ 6 ∧ kq = 6 - j.toNat) ∧ Aside0 (CS w g gb6 gb7 A c l none [] w' i d e x vA vc) ∧ Aside0 (Sg w' g b0 A9 six))
  case atStart => exact ⟨0, rfl, ⟨⟨Int.le_refl 0, by decide, by simp⟩⟩, ⟨H9.out⟩, ⟨S9.out⟩⟩
  case round =>
    clear H9 S9
    obtain ⟨j, rfl, HJ, HC, HS⟩ := hrel
    by_cases c1 : j < (6 : Int)
    · obtain ⟨ad, rfl, hc⟩ := HS.out.cell j HJ.out.1 c1
      have hj := eq_true HJ.out.1
      have c1b : decide (j < (6 : Int)) = true := decide_eq_true c1
      have c1c := eq_true c1
      have hm : isP l i e (rdOf ByteArray.empty six j) = false := by
        have := List.find?_eq_none.1 HF.out (rdOf ByteArray.empty six j) (rdOf_mem six j HJ.out.1 c1)
        simpa using this
      have HM1 := Lib.hid hm; clear hm
      have C2 := Lib.hid c1; clear c1
      go_wp2_with (first
        | ((with_reducible refine gate_callee (f := 121) rfl ?_); refine goesL_ (some 17) rfl rfl Try.func121 (by kernel_rfl) rfl #[.pointer (some ⟨g, 0, none⟩), .string (rdOf ByteArray.empty six j)] rfl (by (try simp only [List.map_toArray, List.map_cons, List.map_nil]); first | done | rfl) ?_; refine (take_no_st HC.out.st _ HM1.out).mono ?_; rintro r' w5 ⟨rfl, h5, c5⟩; refine ⟨_, rfl, ?_⟩; simp only [Act.put, sa_, sz_, ss_]; have H5 := Lib.hid (HC.out.chg c5 h5); have S5 := Lib.hid (HS.out.chg c5); clear h5 c5))
      have ⟨hj0, hj1, hj2⟩ := HJ.out; have hc2 := C2.out
      clear HJ hc
      go_roundg (6 - (j + 1).toNat)
      case measure => omega
      case rel => exact ⟨j + 1, by rw [show wrap64 (j + 1) = j + 1 from w64 _ (by omega)], ⟨⟨by omega, by omega, rfl⟩⟩, ⟨H5.out⟩, ⟨S5.out⟩⟩
    · have c1b : decide (j < (6 : Int)) = false := decide_eq_false c1
      clear HJ c1 HS HF
      go_wp2_with (first
        | ((with_reducible refine gate_callee (f := 121) rfl ?_); refine goesL_ (some 27) rfl rfl Try.func121 (by kernel_rfl) rfl #[.pointer (some ⟨g, 0, none⟩), .string wIs] rfl (by (try simp only [List.map_toArray, List.map_cons, List.map_nil]); first | done | rfl) ?_; refine (take_yes_st HC.out.st _ G1.out).mono ?_; rintro r' w5 ⟨rfl, h5, c5⟩; refine ⟨_, rfl, ?_⟩; simp only [Act.put, sa_, sz_, ss_]; have H5 := Lib.hid (HC.out.chg c5 h5); clear h5 c5 HC)
        | ((with_reducible refine gate_callee (f := 121) rfl ?_); refine goesL_ (some 31) rfl rfl Try.func121 (by kernel_rfl) rfl #[.pointer (some ⟨g, 0, none⟩), .string wNot] rfl (by (try simp only [List.map_toArray, List.map_cons, List.map_nil]); first | done | rfl) ?_; refine (take_yes_st H5.out.st _ G2.out).mono ?_; rintro r' w6 ⟨rfl, h5, c5⟩; refine ⟨_, rfl, ?_⟩; simp only [Act.put, sa_, sz_, ss_]; have H6 := Lib.hid (H5.out.chg c5 h5); clear h5 c5 H5)
        | ((with_reducible refine gate_callee (f := 160) rfl ?_); refine goesL_ (some 33) rfl rfl Try.func160 (by kernel_rfl) rfl #[.pointer (some ⟨g, 0, none⟩), .string wNull] rfl (by (try simp only [List.map_toArray, List.map_cons, List.map_nil]); first | done | rfl) ?_; refine (must_st H6.out.st _).mono ?_; rintro r' w7 ⟨rfl, h5, c5⟩; refine ⟨_, rfl, ?_⟩; simp only [Act.put, sa_, sz_, ss_]; have H7 := Lib.hid (H6.out.chg c5 h5); clear h5 c5 H6; obtain ⟨p0, p1, p2, p3, p4, p5, p6, p7, p8, q0, q1, q2, q3, q4, q5, q6, q7, q8⟩ := bw9_ H7.out.b6; obtain ⟨s0, s1, s2, s3, s4, s5, s6, s7, s8, t0, t1, t2, t3, t4, t5, t6, t7, t8⟩ := bw9_ H7.out.b7)
        | ((with_reducible refine gate_dst (N := 36) rfl ?_); refine lit1 (N' := 36) ?hg ?hd H7.out.tr ?hf ?hr ?_; (case hd => rfl); (case hg => rfl); (case hf => exact H7.out.fresh); (case hr => first | (go_simp; done) | (go_simp; rfl)); intro A8 c8 w8 v8 b8; have V8 := Lib.hid v8; have H8 := Lib.hid (H7.out.below b8); clear v8 b8 p0 p1 p2 p3 p4 p5 p6 p7 p8 q0 q1 q2 q3 q4 q5 q6 q7 q8 s0 s1 s2 s3 s4 s5 s6 s7 s8 t0 t1 t2 t3 t4 t5 t6 t7 t8; simp only [Act.put, sa_, sz_, ss_])
        | ((with_reducible refine gate_callee (f := 122) rfl ?_); refine goesL_ (some 37) rfl rfl Try.func122 (by kernel_rfl) rfl #[.int .i64 14, .slice A8 1 c8] rfl (by (try simp only [List.map_toArray, List.map_cons, List.map_nil]); first | done | rfl) ?_; refine (of_any 14 [x] (by simp) V8.out).mono ?_; rintro r' w9 ⟨zA, zc, rfl, t9, b9⟩; refine ⟨_, rfl, ?_⟩; simp only [Act.put, sa_, sz_, ss_]; simp only [exV, ofP]; have H9 := Lib.hid (H8.out.below b9); have T9 := Lib.hid (Tr.new H8.out t9); clear t9 b9; obtain ⟨p0, p1, p2, p3, p4, p5, p6, p7, p8, q0, q1, q2, q3, q4, q5, q6, q7, q8⟩ := bw9_ H9.out.b6; obtain ⟨s0, s1, s2, s3, s4, s5, s6, s7, s8, t0, t1, t2, t3, t4, t5, t6, t7, t8⟩ := bw9_ H9.out.b7))
      exact bodyPost_ret (results_cell_row rfl _ _ gb6 27 #[.int .i64 14, .string ⟨#[]⟩, .string ⟨#[]⟩, .int .i64 0, .int .i64 0, .int .i64 0, .int .i64 0, .string ⟨#[]⟩, .slice zA 1 zc] (0, 0) _ rfl (put9_ H9.out.b6) Try.underlying27 rfl (by kernel_rfl)) rfl (H9.out.done' T9.out)
theorem test_ok (k : Nat) (hT : GOK k .sum) : GOK (k + 1) .test := by
  intro w g A c l i d e r h hr
  simp only [pr] at hr
  obtain ⟨r0, h0, hr⟩ := Option.bind_eq_some_iff.1 hr
  change Calls Try.prog 150 _ _ _
  cases hf : six.find? (fun s => isP l r0.i r0.e s) with
  | some s =>
    rw [hf] at hr
    obtain ⟨r1, h1, hr⟩ := Option.bind_eq_some_iff.1 hr
    obtain rfl := Option.some.inj hr
    exact test_some hT h h0 hf h1
  | none =>
    rw [hf] at hr
    obtain rfl := Option.some.inj hr
    unfold tst
    cases g1 : isP l r0.i r0.e wIs with
    | false => rw [if_neg (by decide)]; exact test_no hT h h0 hf g1
    | true =>
      rw [if_pos rfl]
      cases g2 : isP l (r0.i + 1) r0.e wNot with
      | false => rw [if_neg (by decide)]; exact test_is hT h h0 hf g1 g2
      | true => rw [if_pos rfl]; exact test_isnt hT h h0 hf g1 g2
end Go.Proofs.Ytcfgjaggccnoaaa.PParseSmall
