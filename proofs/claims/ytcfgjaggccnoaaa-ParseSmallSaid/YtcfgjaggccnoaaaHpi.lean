import Derived.Test.YtcfgjaggccnoaaaHph
import Derived.Defers
namespace Go.Proofs.Ytcfgjaggccnoaaa.PParseSmall
open Go.RowKit Go.Proofs.YtcfgjaggccnoaaaW.PrintWords Go.Proofs.YtcfgjaggccnoaaaW.PrintLast Go.Proofs.YtcfgjaggccnoaaaW.PrintMore
attribute [local go_sem] max2_int min2_int max_two min_two max_three min_three max_four min_four
set_option linter.unusedVariables false
set_option linter.unusedSimpArgs false
set_option maxRecDepth 100000
set_option maxHeartbeats 4000000
/-! not -/
theorem take_st {w : World} {g : Nat} {A : Option Addr} {c : Nat} {l : List S91} {i d e : Int} (h : St w g A c l i d e) (s : ByteArray) :
    Calls Try.prog 121 #[.pointer (some ⟨g, 0, none⟩), .string s] w fun r w' => r = .returned (.bool (isP l i e s)) ∧ St w' g A c l (isI l i e s) d e ∧ Chg g w w' := by
  unfold isI
  cases hs : isP l i e s with
  | true => rw [if_pos rfl]; exact take_yes_st h s hs
  | false => rw [if_neg (by decide)]; exact take_no_st h s hs
theorem lit1 {P : Program} {ops : Array Oper} {Q : Exit → Act → World → Prop} {o : Oper} {rest : List Oper} {a : Act} {W : World} {x : S27} {A : Option Addr} {c : Nat} {ok : Nat → Prop} {N' : Tmp} (hgd : o.guard = none) (hd : o.dst = some N') (hT : Tr W ok x A c) (hf : ok W.heap.size)
    (hrun : (execOp a.eval o).run P W = .ok (.value (.slice (some ⟨W.heap.size, 0, none⟩) 1 1)) (W.alloc (.cells #[.int .i64 x.f0, .string x.f1, .string x.f2, .int .i64 x.f3, .int .i64 x.f4, .int .i64 x.f5.f0, .int .i64 x.f5.f1, .string x.f5.f2, .slice A x.f6.length c] 27)))
    (h : ∀ A1 c1 w1, Kd.V k27 27 w1 0 ok (.slice A1 1 c1) [x] → Below W.heap.size W w1 → wpList P ops Q rest (a.put o.dst (.slice A1 1 c1)) w1) : wpList P ops Q (o :: rest) a W := by
  refine Kd.N_lit k27 W.heap.size 27 hgd hd (xs := [x]) (ok := ok) (okp := ok) hrun (reps1 hT) (fun _ q => q) hf (Below.refl _ _) (Nat.le_refl _) (by simp) ?_
  intro v1 w1 hn hb _ _
  obtain ⟨A1, c1, rfl, hl, hF⟩ := Kd.N_V (base' := 0) hn
  exact h A1 c1 w1 ⟨A1, c1, rfl, hl, hF⟩ hb
/-- The end of a function that goes up by a deferred call. -/
theorem leave_up {fn : Func} {tmps : Array Value} {w W : World} {g gb : Nat} {A vA : Option Addr} {c vc : Nat} {l : List S91} {i d e : Int} {x : S27}
    (hres : ∀ W', W'.heap[gb]? = some (.cells #[.int .i64 x.f0, .string x.f1, .string x.f2, .int .i64 x.f3, .int .i64 x.f4, .int .i64 x.f5.f0, .int .i64 x.f5.f1, .string x.f5.f2, .slice vA x.f6.length vc] 27 (0, 0)) → (results fn tmps).run Try.prog W' = .ok (exV x vA vc) W')
    (S : St W g A c l i d e) (B : W.heap[gb]? = some (.cells #[.int .i64 x.f0, .string x.f1, .string x.f2, .int .i64 x.f3, .int .i64 x.f4, .int .i64 x.f5.f0, .int .i64 x.f5.f1, .string x.f5.f2, .slice vA x.f6.length vc] 27 (0, 0))) (C : Chg g w W) (T : Tr W (fun k => w.heap.size ≤ k) x vA vc) (hn : gb ≠ g) (hg : g < w.heap.size) (h0 : -1000 ≤ d) (h1 : d ≤ 1000) :
    Leaves Try.prog fn tmps (Done w g A c l ⟨i, d - 1, e, x⟩) [{ target := .fn (.func 152) #[], args := #[.pointer (some ⟨g, 0, none⟩)] }] .returning W := by
  refine leaves_cons (f := 152) (args := #[.pointer (some ⟨g, 0, none⟩)]) (by simp) (by simp [go_sem]) ?_
  refine (up_d g A l.length c i d e _ _ S.ps h0 h1).mono ?_
  rintro e1 u1 w1 ⟨rfl, rfl, rfl⟩
  have K : Chg g W (W.setCell ⟨g, 2, none⟩ (.int .i64 (d - 1))) := (Chg.refl g W).set 2 _
  exact ⟨_, hres _ (K.box B hn), vA, vc, rfl, S.go K (S.ps.deep _) S.i0 S.i1, C.trans K, T.chg K (by omega)⟩
theorem not_no {k : Nat} (hT : GOK k .test) {w : World} {g : Nat} {A : Option Addr} {c : Nat} {l : List S91} {i d e : Int} {r : Re} (h : St w g A c l i d e) (hs : isP l i e wNot = false) (hr : pr l k (.f .test) i d e = some r) :
    Calls Try.prog 124 #[.pointer (some ⟨g, 0, none⟩)] w (Done w g A c l r) := by
  have HS := Lib.hid hs; clear hs
  have H := Lib.hid h; clear h
  have HR := Lib.hid hr; clear hr
  have HT := Lib.hid hT; clear hT
  go_enter_defers Try.func124, Try.ntmps124
  go_wp2_with (first
    | (((with_reducible refine gate_dst (N := 2) rfl ?_); refine box_event ?hg (N := 2) ?hd (cs := #[.int .i64 0, .string (⟨#[]⟩ : ByteArray), .string (⟨#[]⟩ : ByteArray), .int .i64 0, .int .i64 0, .int .i64 0, .int .i64 0, .string (⟨#[]⟩ : ByteArray), .slice none 0 0]) (t := 27) ?hr ?_; (case hd => rfl); (case hg => rfl); (case hr => first | (go_simp; done) | (go_simp; rfl)); intro gb hg_ w1 hb_ hl_; have BKgb := am_ hb_; have HLgb := am_ hl_; have HGgb := am_ (Nat.le_of_eq hg_.symm); obtain ⟨zgb_0, zgb_1, zgb_2, zgb_3, zgb_4, zgb_5, zgb_6, zgb_7, zgb_8, ygb_0, ygb_1, ygb_2, ygb_3, ygb_4, ygb_5, ygb_6, ygb_7, ygb_8⟩ := bw9_ hb_; clear hb_ hl_ hg_; simp only [Act.put, sa_, sz_, ss_]); have H1 := Lib.hid (H.out.below HLgb.out); have HG := Lib.hid (Nat.lt_of_lt_of_le H.out.lt HGgb.out); have HN := Lib.hid (ne_of_le H.out.lt HGgb.out); clear zgb_0 zgb_1 zgb_2 zgb_3 zgb_4 zgb_5 zgb_6 zgb_7 zgb_8 ygb_0 ygb_1 ygb_2 ygb_3 ygb_4 ygb_5 ygb_6 ygb_7 ygb_8)
    | ((with_reducible refine gate_callee (f := 148) rfl ?_); refine goesL_ (some 4) rfl rfl Try.func148 (by kernel_rfl) rfl #[.pointer (some ⟨g, 0, none⟩), .string wNot] rfl (by (try simp only [List.map_toArray, List.map_cons, List.map_nil]); first | done | rfl) ?_; refine (is_st H1.out _ _ HS.out).mono ?_; rintro r' w2 ⟨rfl, h2, c2⟩; refine ⟨_, rfl, ?_⟩; simp only [Act.put, sa_, sz_, ss_]; have H2 := Lib.hid h2; have C2 := Lib.hid c2; clear h2 c2)
    | ((with_reducible refine gate_callee (f := 150) rfl ?_); refine goesL_ (some 7) rfl rfl Try.func150 (by kernel_rfl) rfl #[.pointer (some ⟨g, 0, none⟩)] rfl (by (try simp only [List.map_toArray, List.map_cons, List.map_nil]); first | done | rfl) ?_; refine (HT.out _ _ _ _ _ _ _ _ _ H2.out HR.out).mono ?_; rintro r' w4 ⟨vA, vc, rfl, h4, c4, t4⟩; refine ⟨_, rfl, ?_⟩; simp only [Act.put, sa_, sz_, ss_]; simp only [exV]; have H4 := Lib.hid h4; have C4 := Lib.hid c4; have T4 := Lib.hid t4; clear h4 c4 t4; have BK4 := Lib.hid (C4.out.box (C2.out.box BKgb.out HN.out) HN.out); obtain ⟨s0, s1, s2, s3, s4, s5, s6, s7, s8, r0, r1, r2, r3, r4, r5, r6, r7, r8⟩ := bw9_ BK4.out))
  refine ⟨_, results_cell_row rfl _ _ gb 27 #[.int .i64 r.x.f0, .string r.x.f1, .string r.x.f2, .int .i64 r.x.f3, .int .i64 r.x.f4, .int .i64 r.x.f5.f0, .int .i64 r.x.f5.f1, .string r.x.f5.f2, .slice vA r.x.f6.length vc] (0, 0) _ rfl (put9_ BK4.out) Try.underlying27 rfl (by kernel_rfl), vA, vc, rfl, H4.out.box chg9_ HG.out, (((Chg.below H.out.lt HLgb.out).trans C2.out).trans C4.out).own chg9_ HGgb.out (Nat.le_of_lt HG.out), ?_⟩
  exact ((T4.out.mono fun q hl hq => (⟨Nat.le_trans (Nat.le_trans (below_size HLgb.out) C2.out.size) hq, fun h => absurd (blk_lt (C2.out.box BKgb.out HN.out)) (by omega)⟩ : w.heap.size ≤ q ∧ q ≠ gb)).chg chg9_ (fun h => h.2 rfl)).mono fun q _ hq => hq.1
theorem not_yes {k : Nat} (hT : GOK k .not) {w : World} {g : Nat} {A : Option Addr} {c : Nat} {l : List S91} {i d e : Int} {r : Re} (h : St w g A c l i d e) (hs : isP l i e wNot = true) (h0 : 0 ≤ d) (h1 : d ≤ 100) (h2 : 0 ≤ r.d) (h3 : r.d ≤ 200) (hr : pr l k (.f .not) (isI l i (dnE d e) wNot) (d + 1) (dnE d e) = some r) :
    Calls Try.prog 124 #[.pointer (some ⟨g, 0, none⟩)] w (Done w g A c l ⟨r.i, r.d - 1, r.e, ofP 12 [r.x]⟩) := by
  have HS := Lib.hid hs; clear hs
  have H := Lib.hid h; clear h
  have HR := Lib.hid hr; clear hr
  have HT := Lib.hid hT; clear hT
  have h0' : -1000 ≤ d := by omega
  have h1' : d ≤ 1000 := by omega
  go_enter_defers Try.func124, Try.ntmps124
  go_wp2_with (first
    | (((with_reducible refine gate_dst (N := 2) rfl ?_); refine box_event ?hg (N := 2) ?hd (cs := #[.int .i64 0, .string (⟨#[]⟩ : ByteArray), .string (⟨#[]⟩ : ByteArray), .int .i64 0, .int .i64 0, .int .i64 0, .int .i64 0, .string (⟨#[]⟩ : ByteArray), .slice none 0 0]) (t := 27) ?hr ?_; (case hd => rfl); (case hg => rfl); (case hr => first | (go_simp; done) | (go_simp; rfl)); intro gb hg_ w1 hb_ hl_; have BKgb := am_ hb_; have HLgb := am_ hl_; have HGgb := am_ (Nat.le_of_eq hg_.symm); obtain ⟨zgb_0, zgb_1, zgb_2, zgb_3, zgb_4, zgb_5, zgb_6, zgb_7, zgb_8, ygb_0, ygb_1, ygb_2, ygb_3, ygb_4, ygb_5, ygb_6, ygb_7, ygb_8⟩ := bw9_ hb_; clear hb_ hl_ hg_; simp only [Act.put, sa_, sz_, ss_]); have H1 := Lib.hid (H.out.below HLgb.out); have HG := Lib.hid (Nat.lt_of_lt_of_le H.out.lt HGgb.out); have HN := Lib.hid (ne_of_le H.out.lt HGgb.out); clear zgb_0 zgb_1 zgb_2 zgb_3 zgb_4 zgb_5 zgb_6 zgb_7 zgb_8 ygb_0 ygb_1 ygb_2 ygb_3 ygb_4 ygb_5 ygb_6 ygb_7 ygb_8)
    | ((with_reducible refine gate_callee (f := 148) rfl ?_); refine goesL_ (some 4) rfl rfl Try.func148 (by kernel_rfl) rfl #[.pointer (some ⟨g, 0, none⟩), .string wNot] rfl (by (try simp only [List.map_toArray, List.map_cons, List.map_nil]); first | done | rfl) ?_; refine (is_st H1.out _ _ HS.out).mono ?_; rintro r' w2 ⟨rfl, h2, c2⟩; refine ⟨_, rfl, ?_⟩; simp only [Act.put, sa_, sz_, ss_]; have H2 := Lib.hid h2; have C2 := Lib.hid c2; clear h2 c2)
    | ((with_reducible refine gate_callee (f := 151) rfl ?_); refine goesL_ (some 9) rfl rfl Try.func151 (by kernel_rfl) rfl #[.pointer (some ⟨g, 0, none⟩)] rfl (by (try simp only [List.map_toArray, List.map_cons, List.map_nil]); first | done | rfl) ?_; refine (down_st H2.out h0' h1').mono ?_; rintro r' w3 ⟨rfl, h3, c3⟩; refine ⟨_, rfl, ?_⟩; simp only [Act.put, sa_, sz_, ss_]; have H3 := Lib.hid h3; have C3 := Lib.hid c3; clear h3 c3)
    | ((with_reducible refine gate_callee (f := 121) rfl ?_); refine goesL_ (some 12) rfl rfl Try.func121 (by kernel_rfl) rfl #[.pointer (some ⟨g, 0, none⟩), .string wNot] rfl (by (try simp only [List.map_toArray, List.map_cons, List.map_nil]); first | done | rfl) ?_; refine (take_st H3.out _).mono ?_; rintro r' w4 ⟨rfl, h4, c4⟩; refine ⟨_, rfl, ?_⟩; simp only [Act.put, sa_, sz_, ss_]; have H4 := Lib.hid h4; have C4 := Lib.hid c4; clear h4 c4)
    | ((with_reducible refine gate_callee (f := 124) rfl ?_); refine goesL_ (some 14) rfl rfl Try.func124 (by kernel_rfl) rfl #[.pointer (some ⟨g, 0, none⟩)] rfl (by (try simp only [List.map_toArray, List.map_cons, List.map_nil]); first | done | rfl) ?_; refine (HT.out _ _ _ _ _ _ _ _ _ H4.out HR.out).mono ?_; rintro r' w5 ⟨vA, vc, rfl, h5, c5, t5⟩; refine ⟨_, rfl, ?_⟩; simp only [Act.put, sa_, sz_, ss_]; simp only [exV]; have H5 := Lib.hid h5; have C5 := Lib.hid c5; have T5 := Lib.hid t5; clear h5 c5 t5)
    | ((with_reducible refine gate_dst (N := 15) rfl ?_); refine lit1 (N' := 15) ?hg ?hd T5.out ?hf ?hr ?_; (case hd => rfl); (case hg => rfl); (case hf => exact C5.out.size); (case hr => first | (go_simp; done) | (go_simp; rfl)); intro A6 c6 w6 v6 b6; have V6 := Lib.hid v6; have B6 := Lib.hid b6; clear v6 b6; simp only [Act.put, sa_, sz_, ss_])
    | ((with_reducible refine gate_callee (f := 122) rfl ?_); refine goesL_ (some 16) rfl rfl Try.func122 (by kernel_rfl) rfl #[.int .i64 12, .slice A6 1 c6] rfl (by (try simp only [List.map_toArray, List.map_cons, List.map_nil]); first | done | rfl) ?_; refine (of_any 12 [r.x] (by simp) V6.out).mono ?_; rintro r' w7 ⟨vA, vc, rfl, t7, b7⟩; refine ⟨_, rfl, ?_⟩; simp only [Act.put, sa_, sz_, ss_]; simp only [exV, ofP]; have T7 := Lib.hid t7; have B7 := Lib.hid b7; clear t7 b7; have BK4 := Lib.hid (C4.out.box (C3.out.box (C2.out.box BKgb.out HN.out) HN.out) HN.out); have BK7 := Lib.hid (blk_below (blk_below (C5.out.box BK4.out HN.out) B6.out) B7.out); obtain ⟨s0, s1, s2, s3, s4, s5, s6, s7, s8, r0, r1, r2, r3, r4, r5, r6, r7, r8⟩ := bw9_ BK7.out))
  refine leave_up (gb := gb) (vA := vA) (vc := vc) (x := ofP 12 [r.x]) (fun W' hb => results_cell_row rfl _ _ gb 27 _ (0, 0) _ rfl hb Try.underlying27 rfl (by kernel_rfl)) (((H5.out.below B6.out).below B7.out).box chg9_ HG.out) (put9_ BK7.out) (((((((Chg.below H.out.lt HLgb.out).trans C2.out).trans C3.out).trans C4.out).trans C5.out).trans ((Chg.below H5.out.lt B6.out).trans (Chg.below (H5.out.below B6.out).lt B7.out))).own chg9_ HGgb.out (Nat.le_of_lt HG.out)) ?_ HN.out H.out.lt (by omega) (by omega)
  have hw4 := Nat.le_trans (Nat.le_trans (Nat.le_trans (below_size HLgb.out) C2.out.size) C3.out.size) C4.out.size
  have hw5 := C5.out.size
  have hw6 := below_size B6.out
  exact ((T7.out.mono fun q hl hq => (⟨by rcases hq with hq | hq <;> omega, fun h => absurd (blk_lt BK4.out) (by rcases hq with hq | hq <;> omega)⟩ : w.heap.size ≤ q ∧ q ≠ gb)).chg chg9_ (fun h => h.2 rfl)).mono fun q _ hq => hq.1
end Go.Proofs.Ytcfgjaggccnoaaa.PParseSmall
