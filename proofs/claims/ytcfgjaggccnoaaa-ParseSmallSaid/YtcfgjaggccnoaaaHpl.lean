import Derived.Test.YtcfgjaggccnoaaaHpk
import Derived.Defers
import Derived.Deep.LoopGhost
namespace Go.Proofs.Ytcfgjaggccnoaaa.PParseSmall
open Go.RowKit Go.Proofs.YtcfgjaggccnoaaaW.PrintWords Go.Proofs.YtcfgjaggccnoaaaW.PrintLast Go.Proofs.YtcfgjaggccnoaaaW.PrintMore
attribute [local go_sem] max2_int min2_int max_two min_two max_three min_three max_four min_four
set_option linter.unusedVariables false
set_option linter.unusedSimpArgs false
set_option maxRecDepth 100000
set_option maxHeartbeats 4000000
/-! or, and, sum, prod -/
theorem Sg.of_R {w : World} {g base : Nat} {v : Value} {ss : List ByteArray} (h : Kd.R Kd.string 9 w base (fun k => k ≠ g) v ss) : ∃ A c, v = .slice A ss.length c ∧ Sg w g w.heap.size A ss := by
  obtain ⟨A, c, rfl, hl, hF⟩ := Kd.R_V (base' := 0) h
  exact ⟨A, c, rfl, Kd.F_bound hF⟩
section
variable {P : Program} {ops : Array Oper} {Q : Exit → Act → World → Prop} {o : Oper} {rest : List Oper} {a : Act} {W : World} {N' : Tmp} {g : Nat}
theorem litS1 {s : ByteArray} (hgd : o.guard = none) (hd : o.dst = some N') (hg : g < W.heap.size)
    (hrun : (execOp a.eval o).run P W = .ok (.value (.slice (some ⟨W.heap.size, 0, none⟩) 1 1)) (W.alloc (.cells #[.string s] 9)))
    (h : ∀ A1 c1 w1, Sg w1 g w1.heap.size A1 [s] → Below W.heap.size W w1 → wpList P ops Q rest (a.put o.dst (.slice A1 1 c1)) w1) : wpList P ops Q (o :: rest) a W := by
  refine Kd.R_lit Kd.string W.heap.size 9 hgd hd (xs := [s]) (inner := [.string s]) (ok := fun k => k ≠ g) (okp := fun _ => False) hrun ?_ (fun _ q => q.elim) (by omega) (Below.refl _ _) (Nat.le_refl _) (by simp) ?_
  · exact Reps.one (show Kd.M Kd.string _ _ _ s [.string s] from rfl) (Reps.none _ _)
  · intro v1 w1 hr hb _ _
    obtain ⟨A, c, rfl, hs⟩ := Sg.of_R hr
    exact h A c w1 hs hb
theorem litS2 {s t : ByteArray} (hgd : o.guard = none) (hd : o.dst = some N') (hg : g < W.heap.size)
    (hrun : (execOp a.eval o).run P W = .ok (.value (.slice (some ⟨W.heap.size, 0, none⟩) 2 2)) (W.alloc (.cells #[.string s, .string t] 9)))
    (h : ∀ A1 c1 w1, Sg w1 g w1.heap.size A1 [s, t] → Below W.heap.size W w1 → wpList P ops Q rest (a.put o.dst (.slice A1 2 c1)) w1) : wpList P ops Q (o :: rest) a W := by
  refine Kd.R_lit Kd.string W.heap.size 9 hgd hd (xs := [s, t]) (inner := [.string s, .string t]) (ok := fun k => k ≠ g) (okp := fun _ => False) hrun ?_ (fun _ q => q.elim) (by omega) (Below.refl _ _) (Nat.le_refl _) (by simp) ?_
  · exact Reps.one (show Kd.M Kd.string _ _ _ s [.string s] from rfl) (Reps.one (show Kd.M Kd.string _ _ _ t [.string t] from rfl) (Reps.none _ _))
  · intro v1 w1 hr hb _ _
    obtain ⟨A, c, rfl, hs⟩ := Sg.of_R hr
    exact h A c w1 hs hb
end
theorem or_ok (k : Nat) (hp : ∀ j, j ≤ k → GOK j .and) : GOK (k + 1) .or := by
  intro w g A c l i d e r h hr
  simp only [pr] at hr
  obtain ⟨r0, h0, hr⟩ := Option.bind_eq_some_iff.1 hr
  have H := Lib.hid h; have H0 := Lib.hid h0; have HR := Lib.hid hr; have HP := Lib.hid hp; clear h h0 hr hp
  change Calls Try.prog 41 _ _ _
  go_enter Try.func41, Try.ntmps41
  go_wp2_with (first
    | (((with_reducible refine gate_dst (N := 2) rfl ?_); refine box_event ?hg (N := 2) ?hd (cs := #[.int .i64 0, .string (⟨#[]⟩ : ByteArray), .string (⟨#[]⟩ : ByteArray), .int .i64 0, .int .i64 0, .int .i64 0, .int .i64 0, .string (⟨#[]⟩ : ByteArray), .slice none 0 0]) (t := 27) ?hr ?_; (case hd => rfl); (case hg => rfl); (case hr => first | (go_simp; done) | (go_simp; rfl)); intro gb hg_ w1 hb_ hl_; have BKgb := am_ hb_; have HLgb := am_ hl_; have HGgb := am_ (Nat.le_of_eq hg_.symm); obtain ⟨zgb_0, zgb_1, zgb_2, zgb_3, zgb_4, zgb_5, zgb_6, zgb_7, zgb_8, ygb_0, ygb_1, ygb_2, ygb_3, ygb_4, ygb_5, ygb_6, ygb_7, ygb_8⟩ := bw9_ hb_; clear hb_ hl_ hg_; simp only [Act.put, sa_, sz_, ss_]); have H1 := Lib.hid (H.out.below HLgb.out); have HG := Lib.hid (Nat.lt_of_lt_of_le H.out.lt HGgb.out); have HN := Lib.hid (ne_of_le H.out.lt HGgb.out); clear zgb_0 zgb_1 zgb_2 zgb_3 zgb_4 zgb_5 zgb_6 zgb_7 zgb_8 ygb_0 ygb_1 ygb_2 ygb_3 ygb_4 ygb_5 ygb_6 ygb_7 ygb_8)
    | ((with_reducible refine gate_dst (N := 6) rfl ?_); refine litS1 (N' := 6) (g := g) (s := wOr) ?hg ?hd H1.out.lt ?hr ?_; (case hd => rfl); (case hg => rfl); (case hr => first | (go_simp; done) | (go_simp; rfl)); intro A2 cc2 w2 s2 b2; have S2 := Lib.hid s2; have B2 := Lib.hid b2; have H2 := Lib.hid (H1.out.below b2); clear s2 b2; simp only [Act.put, sa_, sz_, ss_])
    | ((with_reducible refine gate_callee (f := 79) rfl ?_); refine goesL_ (some 7) rfl rfl Try.func79 (by kernel_rfl) rfl #[.pointer (some ⟨g, 0, none⟩), .func (.func 80) #[.pointer (some ⟨g, 0, none⟩)] #[], .slice A2 1 cc2] rfl (by (try simp only [List.map_toArray, List.map_cons, List.map_nil]); first | done | rfl) ?_; refine (chain_any .and [wOr] (by decide) (by decide) _ HP.out H2.out S2.out H0.out HR.out).mono ?_; rintro r' w3 ⟨vA, vc, rfl, h3, c3, t3⟩; refine ⟨_, rfl, ?_⟩; simp only [Act.put, sa_, sz_, ss_]; simp only [exV]; have H3 := Lib.hid h3; have C3 := Lib.hid c3; have T3 := Lib.hid t3; clear h3 c3 t3; have BK3 := Lib.hid (C3.out.box (blk_below BKgb.out B2.out) HN.out); obtain ⟨s0, s1, s2, s3, s4, s5, s6, s7, s8, q0, q1, q2, q3, q4, q5, q6, q7, q8⟩ := bw9_ BK3.out))
  refine bodyPost_ret (results_cell_row rfl _ _ gb 27 #[.int .i64 r.x.f0, .string r.x.f1, .string r.x.f2, .int .i64 r.x.f3, .int .i64 r.x.f4, .int .i64 r.x.f5.f0, .int .i64 r.x.f5.f1, .string r.x.f5.f2, .slice vA r.x.f6.length vc] (0, 0) _ rfl (put9_ BK3.out) Try.underlying27 rfl (by kernel_rfl)) rfl ⟨vA, vc, rfl, H3.out.box chg9_ HG.out, (((Chg.below H.out.lt HLgb.out).trans (Chg.below H1.out.lt B2.out)).trans C3.out).own chg9_ HGgb.out (Nat.le_of_lt HG.out), ?_⟩
  have hw1 := below_size HLgb.out; have hw2 := below_size B2.out; have hb := blk_lt BKgb.out
  exact ((T3.out.mono fun q hl hq => (⟨by omega, by omega⟩ : w.heap.size ≤ q ∧ q ≠ gb)).chg chg9_ (fun h => h.2 rfl)).mono fun q _ hq => hq.1
theorem and_ok (k : Nat) (hp : ∀ j, j ≤ k → GOK j .not) : GOK (k + 1) .and := by
  intro w g A c l i d e r h hr
  simp only [pr] at hr
  obtain ⟨r0, h0, hr⟩ := Option.bind_eq_some_iff.1 hr
  have H := Lib.hid h; have H0 := Lib.hid h0; have HR := Lib.hid hr; have HP := Lib.hid hp; clear h h0 hr hp
  change Calls Try.prog 80 _ _ _
  go_enter Try.func80, Try.ntmps80
  go_wp2_with (first
    | (((with_reducible refine gate_dst (N := 2) rfl ?_); refine box_event ?hg (N := 2) ?hd (cs := #[.int .i64 0, .string (⟨#[]⟩ : ByteArray), .string (⟨#[]⟩ : ByteArray), .int .i64 0, .int .i64 0, .int .i64 0, .int .i64 0, .string (⟨#[]⟩ : ByteArray), .slice none 0 0]) (t := 27) ?hr ?_; (case hd => rfl); (case hg => rfl); (case hr => first | (go_simp; done) | (go_simp; rfl)); intro gb hg_ w1 hb_ hl_; have BKgb := am_ hb_; have HLgb := am_ hl_; have HGgb := am_ (Nat.le_of_eq hg_.symm); obtain ⟨zgb_0, zgb_1, zgb_2, zgb_3, zgb_4, zgb_5, zgb_6, zgb_7, zgb_8, ygb_0, ygb_1, ygb_2, ygb_3, ygb_4, ygb_5, ygb_6, ygb_7, ygb_8⟩ := bw9_ hb_; clear hb_ hl_ hg_; simp only [Act.put, sa_, sz_, ss_]); have H1 := Lib.hid (H.out.below HLgb.out); have HG := Lib.hid (Nat.lt_of_lt_of_le H.out.lt HGgb.out); have HN := Lib.hid (ne_of_le H.out.lt HGgb.out); clear zgb_0 zgb_1 zgb_2 zgb_3 zgb_4 zgb_5 zgb_6 zgb_7 zgb_8 ygb_0 ygb_1 ygb_2 ygb_3 ygb_4 ygb_5 ygb_6 ygb_7 ygb_8)
    | ((with_reducible refine gate_dst (N := 6) rfl ?_); refine litS1 (N' := 6) (g := g) (s := wAnd) ?hg ?hd H1.out.lt ?hr ?_; (case hd => rfl); (case hg => rfl); (case hr => first | (go_simp; done) | (go_simp; rfl)); intro A2 cc2 w2 s2 b2; have S2 := Lib.hid s2; have B2 := Lib.hid b2; have H2 := Lib.hid (H1.out.below b2); clear s2 b2; simp only [Act.put, sa_, sz_, ss_])
    | ((with_reducible refine gate_callee (f := 79) rfl ?_); refine goesL_ (some 7) rfl rfl Try.func79 (by kernel_rfl) rfl #[.pointer (some ⟨g, 0, none⟩), .func (.func 124) #[.pointer (some ⟨g, 0, none⟩)] #[], .slice A2 1 cc2] rfl (by (try simp only [List.map_toArray, List.map_cons, List.map_nil]); first | done | rfl) ?_; refine (chain_any .not [wAnd] (by decide) (by decide) _ HP.out H2.out S2.out H0.out HR.out).mono ?_; rintro r' w3 ⟨vA, vc, rfl, h3, c3, t3⟩; refine ⟨_, rfl, ?_⟩; simp only [Act.put, sa_, sz_, ss_]; simp only [exV]; have H3 := Lib.hid h3; have C3 := Lib.hid c3; have T3 := Lib.hid t3; clear h3 c3 t3; have BK3 := Lib.hid (C3.out.box (blk_below BKgb.out B2.out) HN.out); obtain ⟨s0, s1, s2, s3, s4, s5, s6, s7, s8, q0, q1, q2, q3, q4, q5, q6, q7, q8⟩ := bw9_ BK3.out))
  refine bodyPost_ret (results_cell_row rfl _ _ gb 27 #[.int .i64 r.x.f0, .string r.x.f1, .string r.x.f2, .int .i64 r.x.f3, .int .i64 r.x.f4, .int .i64 r.x.f5.f0, .int .i64 r.x.f5.f1, .string r.x.f5.f2, .slice vA r.x.f6.length vc] (0, 0) _ rfl (put9_ BK3.out) Try.underlying27 rfl (by kernel_rfl)) rfl ⟨vA, vc, rfl, H3.out.box chg9_ HG.out, (((Chg.below H.out.lt HLgb.out).trans (Chg.below H1.out.lt B2.out)).trans C3.out).own chg9_ HGgb.out (Nat.le_of_lt HG.out), ?_⟩
  have hw1 := below_size HLgb.out; have hw2 := below_size B2.out; have hb := blk_lt BKgb.out
  exact ((T3.out.mono fun q hl hq => (⟨by omega, by omega⟩ : w.heap.size ≤ q ∧ q ≠ gb)).chg chg9_ (fun h => h.2 rfl)).mono fun q _ hq => hq.1
theorem sum_ok (k : Nat) (hp : ∀ j, j ≤ k → GOK j .prod) : GOK (k + 1) .sum := by
  intro w g A c l i d e r h hr
  simp only [pr] at hr
  obtain ⟨r0, h0, hr⟩ := Option.bind_eq_some_iff.1 hr
  have H := Lib.hid h; have H0 := Lib.hid h0; have HR := Lib.hid hr; have HP := Lib.hid hp; clear h h0 hr hp
  change Calls Try.prog 159 _ _ _
  go_enter Try.func159, Try.ntmps159
  go_wp2_with (first
    | (((with_reducible refine gate_dst (N := 2) rfl ?_); refine box_event ?hg (N := 2) ?hd (cs := #[.int .i64 0, .string (⟨#[]⟩ : ByteArray), .string (⟨#[]⟩ : ByteArray), .int .i64 0, .int .i64 0, .int .i64 0, .int .i64 0, .string (⟨#[]⟩ : ByteArray), .slice none 0 0]) (t := 27) ?hr ?_; (case hd => rfl); (case hg => rfl); (case hr => first | (go_simp; done) | (go_simp; rfl)); intro gb hg_ w1 hb_ hl_; have BKgb := am_ hb_; have HLgb := am_ hl_; have HGgb := am_ (Nat.le_of_eq hg_.symm); obtain ⟨zgb_0, zgb_1, zgb_2, zgb_3, zgb_4, zgb_5, zgb_6, zgb_7, zgb_8, ygb_0, ygb_1, ygb_2, ygb_3, ygb_4, ygb_5, ygb_6, ygb_7, ygb_8⟩ := bw9_ hb_; clear hb_ hl_ hg_; simp only [Act.put, sa_, sz_, ss_]); have H1 := Lib.hid (H.out.below HLgb.out); have HG := Lib.hid (Nat.lt_of_lt_of_le H.out.lt HGgb.out); have HN := Lib.hid (ne_of_le H.out.lt HGgb.out); clear zgb_0 zgb_1 zgb_2 zgb_3 zgb_4 zgb_5 zgb_6 zgb_7 zgb_8 ygb_0 ygb_1 ygb_2 ygb_3 ygb_4 ygb_5 ygb_6 ygb_7 ygb_8)
    | ((with_reducible refine gate_dst (N := 6) rfl ?_); refine litS2 (N' := 6) (g := g) (s := wPlus) (t := wMinus) ?hg ?hd H1.out.lt ?hr ?_; (case hd => rfl); (case hg => rfl); (case hr => first | (go_simp; done) | (go_simp; rfl)); intro A2 cc2 w2 s2 b2; have S2 := Lib.hid s2; have B2 := Lib.hid b2; have H2 := Lib.hid (H1.out.below b2); clear s2 b2; simp only [Act.put, sa_, sz_, ss_])
    | ((with_reducible refine gate_callee (f := 79) rfl ?_); refine goesL_ (some 7) rfl rfl Try.func79 (by kernel_rfl) rfl #[.pointer (some ⟨g, 0, none⟩), .func (.func 167) #[.pointer (some ⟨g, 0, none⟩)] #[], .slice A2 2 cc2] rfl (by (try simp only [List.map_toArray, List.map_cons, List.map_nil]); first | done | rfl) ?_; refine (chain_any .prod [wPlus, wMinus] (by decide) (by decide) _ HP.out H2.out S2.out H0.out HR.out).mono ?_; rintro r' w3 ⟨vA, vc, rfl, h3, c3, t3⟩; refine ⟨_, rfl, ?_⟩; simp only [Act.put, sa_, sz_, ss_]; simp only [exV]; have H3 := Lib.hid h3; have C3 := Lib.hid c3; have T3 := Lib.hid t3; clear h3 c3 t3; have BK3 := Lib.hid (C3.out.box (blk_below BKgb.out B2.out) HN.out); obtain ⟨s0, s1, s2, s3, s4, s5, s6, s7, s8, q0, q1, q2, q3, q4, q5, q6, q7, q8⟩ := bw9_ BK3.out))
  refine bodyPost_ret (results_cell_row rfl _ _ gb 27 #[.int .i64 r.x.f0, .string r.x.f1, .string r.x.f2, .int .i64 r.x.f3, .int .i64 r.x.f4, .int .i64 r.x.f5.f0, .int .i64 r.x.f5.f1, .string r.x.f5.f2, .slice vA r.x.f6.length vc] (0, 0) _ rfl (put9_ BK3.out) Try.underlying27 rfl (by kernel_rfl)) rfl ⟨vA, vc, rfl, H3.out.box chg9_ HG.out, (((Chg.below H.out.lt HLgb.out).trans (Chg.below H1.out.lt B2.out)).trans C3.out).own chg9_ HGgb.out (Nat.le_of_lt HG.out), ?_⟩
  have hw1 := below_size HLgb.out; have hw2 := below_size B2.out; have hb := blk_lt BKgb.out
  exact ((T3.out.mono fun q hl hq => (⟨by omega, by omega⟩ : w.heap.size ≤ q ∧ q ≠ gb)).chg chg9_ (fun h => h.2 rfl)).mono fun q _ hq => hq.1
theorem prod_ok (k : Nat) (hp : ∀ j, j ≤ k → GOK j .atom) : GOK (k + 1) .prod := by
  intro w g A c l i d e r h hr
  simp only [pr] at hr
  obtain ⟨r0, h0, hr⟩ := Option.bind_eq_some_iff.1 hr
  have H := Lib.hid h; have H0 := Lib.hid h0; have HR := Lib.hid hr; have HP := Lib.hid hp; clear h h0 hr hp
  change Calls Try.prog 167 _ _ _
  go_enter Try.func167, Try.ntmps167
  go_wp2_with (first
    | (((with_reducible refine gate_dst (N := 2) rfl ?_); refine box_event ?hg (N := 2) ?hd (cs := #[.int .i64 0, .string (⟨#[]⟩ : ByteArray), .string (⟨#[]⟩ : ByteArray), .int .i64 0, .int .i64 0, .int .i64 0, .int .i64 0, .string (⟨#[]⟩ : ByteArray), .slice none 0 0]) (t := 27) ?hr ?_; (case hd => rfl); (case hg => rfl); (case hr => first | (go_simp; done) | (go_simp; rfl)); intro gb hg_ w1 hb_ hl_; have BKgb := am_ hb_; have HLgb := am_ hl_; have HGgb := am_ (Nat.le_of_eq hg_.symm); obtain ⟨zgb_0, zgb_1, zgb_2, zgb_3, zgb_4, zgb_5, zgb_6, zgb_7, zgb_8, ygb_0, ygb_1, ygb_2, ygb_3, ygb_4, ygb_5, ygb_6, ygb_7, ygb_8⟩ := bw9_ hb_; clear hb_ hl_ hg_; simp only [Act.put, sa_, sz_, ss_]); have H1 := Lib.hid (H.out.below HLgb.out); have HG := Lib.hid (Nat.lt_of_lt_of_le H.out.lt HGgb.out); have HN := Lib.hid (ne_of_le H.out.lt HGgb.out); clear zgb_0 zgb_1 zgb_2 zgb_3 zgb_4 zgb_5 zgb_6 zgb_7 zgb_8 ygb_0 ygb_1 ygb_2 ygb_3 ygb_4 ygb_5 ygb_6 ygb_7 ygb_8)
    | ((with_reducible refine gate_dst (N := 6) rfl ?_); refine litS1 (N' := 6) (g := g) (s := wStar) ?hg ?hd H1.out.lt ?hr ?_; (case hd => rfl); (case hg => rfl); (case hr => first | (go_simp; done) | (go_simp; rfl)); intro A2 cc2 w2 s2 b2; have S2 := Lib.hid s2; have B2 := Lib.hid b2; have H2 := Lib.hid (H1.out.below b2); clear s2 b2; simp only [Act.put, sa_, sz_, ss_])
    | ((with_reducible refine gate_callee (f := 79) rfl ?_); refine goesL_ (some 7) rfl rfl Try.func79 (by kernel_rfl) rfl #[.pointer (some ⟨g, 0, none⟩), .func (.func 179) #[.pointer (some ⟨g, 0, none⟩)] #[], .slice A2 1 cc2] rfl (by (try simp only [List.map_toArray, List.map_cons, List.map_nil]); first | done | rfl) ?_; refine (chain_any .atom [wStar] (by decide) (by decide) _ HP.out H2.out S2.out H0.out HR.out).mono ?_; rintro r' w3 ⟨vA, vc, rfl, h3, c3, t3⟩; refine ⟨_, rfl, ?_⟩; simp only [Act.put, sa_, sz_, ss_]; simp only [exV]; have H3 := Lib.hid h3; have C3 := Lib.hid c3; have T3 := Lib.hid t3; clear h3 c3 t3; have BK3 := Lib.hid (C3.out.box (blk_below BKgb.out B2.out) HN.out); obtain ⟨s0, s1, s2, s3, s4, s5, s6, s7, s8, q0, q1, q2, q3, q4, q5, q6, q7, q8⟩ := bw9_ BK3.out))
  refine bodyPost_ret (results_cell_row rfl _ _ gb 27 #[.int .i64 r.x.f0, .string r.x.f1, .string r.x.f2, .int .i64 r.x.f3, .int .i64 r.x.f4, .int .i64 r.x.f5.f0, .int .i64 r.x.f5.f1, .string r.x.f5.f2, .slice vA r.x.f6.length vc] (0, 0) _ rfl (put9_ BK3.out) Try.underlying27 rfl (by kernel_rfl)) rfl ⟨vA, vc, rfl, H3.out.box chg9_ HG.out, (((Chg.below H.out.lt HLgb.out).trans (Chg.below H1.out.lt B2.out)).trans C3.out).own chg9_ HGgb.out (Nat.le_of_lt HG.out), ?_⟩
  have hw1 := below_size HLgb.out; have hw2 := below_size B2.out; have hb := blk_lt BKgb.out
  exact ((T3.out.mono fun q hl hq => (⟨by omega, by omega⟩ : w.heap.size ≤ q ∧ q ≠ gb)).chg chg9_ (fun h => h.2 rfl)).mono fun q _ hq => hq.1
end Go.Proofs.Ytcfgjaggccnoaaa.PParseSmall
