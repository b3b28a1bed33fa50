import Derived.Test.YtcfgjaggccnoaaaHpm
import Derived.Defers
import Derived.Deep.LoopGhost
namespace Go.Proofs.Ytcfgjaggccnoaaa.PParseSmall
open Go.RowKit Go.Proofs.YtcfgjaggccnoaaaW.PrintWords Go.Proofs.YtcfgjaggccnoaaaW.PrintLast Go.Proofs.YtcfgjaggccnoaaaW.PrintMore
attribute [local go_sem] max2_int min2_int max_two min_two max_three min_three max_four min_four
set_option linter.unusedVariables false
set_option linter.unusedSimpArgs false
set_option maxRecDepth 100000
set_option maxHeartbeats 4000000
/-! atom -/
theorem chg4_ {gb : Nat} {W : World} {v0 v1 v2 v3 : Value} : Chg gb W ((((W.setCell ⟨gb, 0, none⟩ v0).setCell ⟨gb, 1, none⟩ v1).setCell ⟨gb, 2, none⟩ v2).setCell ⟨gb, 3, none⟩ v3) := ((((Chg.refl gb W).set 0 v0).set 1 v1).set 2 v2).set 3 v3
structure AS (w0 : World) (g g2 : Nat) (A : Option Addr) (c : Nat) (l : List S91) (w : World) (i d e : Int) : Prop where
  st : St w g A c l i d e
  ch : Chg g w0 w
  b2 : w.heap[g2]? = some (.cells #[.int .i64 0, .string ⟨#[]⟩, .string ⟨#[]⟩, .int .i64 0, .int .i64 0, .int .i64 0, .int .i64 0, .string ⟨#[]⟩, .slice none 0 0] 27 (0, 0))
  hg : g < w0.heap.size
  h2 : w0.heap.size ≤ g2
section
variable {w0 w w' : World} {g g2 g3 c vc : Nat} {A vA : Option Addr} {l : List S91} {i d e i' d' e' : Int} {x : S27}
theorem AS.chg (h : AS w0 g g2 A c l w i d e) (k : Chg g w w') (st : St w' g A c l i' d' e') : AS w0 g g2 A c l w' i' d' e' :=
  have hg := h.hg; have h2 := h.h2
  ⟨st, h.ch.trans k, k.box h.b2 (by omega), hg, h2⟩
theorem AS.below (h : AS w0 g g2 A c l w i d e) (k : Below w.heap.size w w') : AS w0 g g2 A c l w' i d e := h.chg (Chg.below h.st.lt k) (h.st.below k)
theorem AS.own (h : AS w0 g g2 A c l w i d e) (k : Chg g3 w w') (h3 : g2 < g3) : AS w0 g g2 A c l w' i d e :=
  have hg := h.hg; have h2 := h.h2
  ⟨h.st.box k (by omega), h.ch.own k (by omega) (by omega), k.box h.b2 (by omega), hg, h2⟩
theorem AS.at1 (h : AS w0 g g2 A c l w i d e) (hi : i < l.length) : AS w0 g g2 A c l (w.setCell ⟨g, 1, none⟩ (.int .i64 (wrap64 (i + 1)))) (i + 1) d e := by
  have h0 := h.st.i0; have hl := h.st.hl
  rw [w64 _ (by omega)]
  exact h.chg ((Chg.refl g w).set 1 _) (h.st.go ((Chg.refl g w).set 1 _) (h.st.ps.at_ _) (by omega) (by omega))
theorem AS.done (h : AS w0 g g2 A c l w i d e) (t : Tr w (fun k => w0.heap.size ≤ k ∧ k ≠ g2) x vA vc) {v0 v1 v2 v3 v4 v5 v6 v7 v8 : Value} : Done w0 g A c l ⟨i, d, e, x⟩ (.returned (exV x vA vc)) (((((((((w.setCell ⟨g2, 0, none⟩ v0).setCell ⟨g2, 1, none⟩ v1).setCell ⟨g2, 2, none⟩ v2).setCell ⟨g2, 3, none⟩ v3).setCell ⟨g2, 4, none⟩ v4).setCell ⟨g2, 5, none⟩ v5).setCell ⟨g2, 6, none⟩ v6).setCell ⟨g2, 7, none⟩ v7).setCell ⟨g2, 8, none⟩ v8) :=
  have hg := h.hg; have h2 := h.h2
  ⟨vA, vc, rfl, h.st.box chg9_ (by omega), h.ch.own chg9_ h2 (by omega), (t.chg chg9_ (fun q => q.2 rfl)).mono fun _ _ q => q.1⟩
theorem AS.aft (h : AS w0 g g2 A c l w i d e) {W : World} (t : Tr W (fun k => w.heap.size ≤ k) x vA vc) : Tr W (fun k => w0.heap.size ≤ k ∧ k ≠ g2) x vA vc :=
  t.mono fun k _ hk => by
    have h1 := blk_lt h.b2; have h3 := h.ch.size
    exact ⟨by omega, by omega⟩
end
theorem op_tr {w0 W W1 : World} {g2 gb4 : Nat} {x : S27} {vA : Option Addr} {vc : Nat} (t : Tr W (fun k => w0.heap.size ≤ k ∧ k ≠ g2) x vA vc) (h4 : W.heap.size ≤ gb4) (b : Below W.heap.size W W1) : Tr W1 (fun k => w0.heap.size ≤ k ∧ k ≠ g2 ∧ k ≠ gb4) x vA vc :=
  (t.mono fun k hk hq => ⟨hq.1, hq.2, by omega⟩).below b
theorem op_ne {w0 W : World} {g g2 gb4 c : Nat} {A : Option Addr} {l : List S91} {i d e : Int} (h : AS w0 g g2 A c l W i d e) (h4 : g2 < gb4) : gb4 ≠ g := by
  have hg := h.hg; have h2 := h.h2
  omega
theorem atom_int {w : World} {g : Nat} {A : Option Addr} {c : Nat} {l : List S91} {i d e : Int} (h : St w g A c l i d e) {s : ByteArray} {n q : Int} (ht : tokP l i e = ⟨3, s, n, q⟩) :
    Calls Try.prog 179 #[.pointer (some ⟨g, 0, none⟩)] w (Done w g A c l ⟨i + 1, d, e, valP 1 n ⟨#[]⟩⟩) := by
  have TL := Lib.hid (tok_le l i e (by rw [ht]; exact (by decide : (3 : Int) ≠ 0))).2
  have H := Lib.hid h; clear h
  have TK := Lib.hid ht; clear ht
  go_enter_defers Try.func179, Try.ntmps179
  go_wp2_with (first
    | (((with_reducible refine gate_dst (N := 2) rfl ?_); refine box_event ?hg (N := 2) ?hd (cs := #[.int .i64 0, .string (⟨#[]⟩ : ByteArray), .string (⟨#[]⟩ : ByteArray), .int .i64 0, .int .i64 0, .int .i64 0, .int .i64 0, .string (⟨#[]⟩ : ByteArray), .slice none 0 0]) (t := 27) ?hr ?_; (case hd => rfl); (case hg => rfl); (case hr => first | (go_simp; done) | (go_simp; rfl)); intro gb2 hg_ w1 hb_ hl_; have BKgb2 := am_ hb_; have HLgb2 := am_ hl_; have HGgb2 := am_ (Nat.le_of_eq hg_.symm); obtain ⟨zgb2_0, zgb2_1, zgb2_2, zgb2_3, zgb2_4, zgb2_5, zgb2_6, zgb2_7, zgb2_8, ygb2_0, ygb2_1, ygb2_2, ygb2_3, ygb2_4, ygb2_5, ygb2_6, ygb2_7, ygb2_8⟩ := bw9_ hb_; clear hb_ hl_ hg_; simp only [Act.put, sa_, sz_, ss_]); have H1 := Lib.hid ((⟨H.out.below HLgb2.out, Chg.below H.out.lt HLgb2.out, BKgb2.out, H.out.lt, HGgb2.out⟩ : AS w g gb2 A c l w1 i d e)); clear BKgb2 HLgb2 HGgb2 zgb2_0 zgb2_1 zgb2_2 zgb2_3 zgb2_4 zgb2_5 zgb2_6 zgb2_7 zgb2_8 ygb2_0 ygb2_1 ygb2_2 ygb2_3 ygb2_4 ygb2_5 ygb2_6 ygb2_7 ygb2_8)
    | ((with_reducible refine gate_callee (f := 81) rfl ?_); refine goesL_ (some 6) rfl rfl Try.func81 (by kernel_rfl) rfl #[.pointer (some ⟨g, 0, none⟩)] rfl (by (try simp only [List.map_toArray, List.map_cons, List.map_nil]); first | done | rfl) ?_; refine (tok_st H1.out.st _ TK.out).mono ?_; rintro r' w2 ⟨rfl, h2, b2⟩; refine ⟨_, rfl, ?_⟩; simp only [Act.put, sa_, sz_, ss_]; have H2 := Lib.hid (H1.out.below b2); clear h2 b2 H1)
    | (((with_reducible refine gate_dst (N := 3) rfl ?_); refine box_event ?hg (N := 3) ?hd (cs := #[.int .i64 0, .string (⟨#[]⟩ : ByteArray), .int .i64 0, .int .i64 0]) (t := 91) ?hr ?_; (case hd => rfl); (case hg => rfl); (case hr => first | (go_simp; done) | (go_simp; rfl)); intro gb3 hg_ w3 hb_ hl_; have BKgb3 := am_ hb_; have HLgb3 := am_ hl_; have HGgb3 := am_ (Nat.le_of_eq hg_.symm); obtain ⟨zgb3_0, zgb3_1, zgb3_2, zgb3_3, ygb3_0, ygb3_1, ygb3_2, ygb3_3⟩ := bw4_ hb_; clear hb_ hl_ hg_; simp only [Act.put, sa_, sz_, ss_]); have H3 := Lib.hid (H2.out.below HLgb3.out); have h23 := Nat.lt_of_lt_of_le (blk_lt H2.out.b2) HGgb3.out; have H23 := Lib.hid h23; have N1 : gb3 ≠ g := ne_of_le H2.out.st.lt HGgb3.out; have N2 := N1.symm; have N3 : gb3 ≠ gb2 := Nat.ne_of_gt h23; have N4 := N3.symm; clear h23 H2; obtain ⟨c0, c1, c2, c3, f0, f1, f2, f3⟩ := bw4_ H3.out.st.ps; obtain ⟨p0, p1, p2, p3, p4, p5, p6, p7, p8, q0, q1, q2, q3, q4, q5, q6, q7, q8⟩ := bw9_ H3.out.b2)
    | ((with_reducible refine gate_callee (f := 188) rfl ?_); refine goesL_ (some 20) rfl rfl Try.func188 (by kernel_rfl) rfl #[.int .i64 n] rfl (by (try simp only [List.map_toArray, List.map_cons, List.map_nil]); first | done | rfl) ?_; refine (val_Int.calls n _ _ _ _ rfl).mono ?_; rintro r' w4 ⟨rfl, b4⟩; refine ⟨_, rfl, ?_⟩; simp only [Act.put, sa_, sz_, ss_]; have H4 := Lib.hid (((H3.out.own chg4_ H23.out).at1 TL.out).below b4); clear b4 H3)
    | ((with_reducible refine gate_callee (f := 187) rfl ?_); refine goesL_ (some 21) rfl rfl Try.func187 (by kernel_rfl) rfl #[.agg #[.int .i64 1, .int .i64 n, .string ⟨#[]⟩]] rfl (by (try simp only [List.map_toArray, List.map_cons, List.map_nil]); first | done | rfl) ?_; refine (val_any 1 n ⟨#[]⟩ w4).mono ?_; rintro r' w5 ⟨zA, zc, rfl, t5, b5⟩; refine ⟨_, rfl, ?_⟩; simp only [Act.put, sa_, sz_, ss_]; simp only [exV, valP, List.length_nil]; have H5 := Lib.hid (H4.out.below b5); have T5 := Lib.hid t5; clear b5 t5 H4 p0 p1 p2 p3 p4 p5 p6 p7 p8 q0 q1 q2 q3 q4 q5 q6 q7 q8; obtain ⟨p0, p1, p2, p3, p4, p5, p6, p7, p8, q0, q1, q2, q3, q4, q5, q6, q7, q8⟩ := bw9_ H5.out.b2))
  refine ⟨_, results_cell_row rfl _ _ gb2 27 #[.int .i64 16, .string ⟨#[]⟩, .string ⟨#[]⟩, .int .i64 0, .int .i64 0, .int .i64 1, .int .i64 n, .string ⟨#[]⟩, .slice zA 0 zc] (0, 0) _ rfl (put9_ H5.out.b2) Try.underlying27 rfl (by kernel_rfl), H5.out.done (T5.out _ _)⟩
theorem atom_txt {w : World} {g : Nat} {A : Option Addr} {c : Nat} {l : List S91} {i d e : Int} (h : St w g A c l i d e) {s : ByteArray} {n q : Int} (ht : tokP l i e = ⟨4, s, n, q⟩) (hv : val_Text.f s = some (2, 0, s)) :
    Calls Try.prog 179 #[.pointer (some ⟨g, 0, none⟩)] w (Done w g A c l ⟨i + 1, d, e, valP 2 0 s⟩) := by
  have HV := Lib.hid hv; clear hv
  have TL := Lib.hid (tok_le l i e (by rw [ht]; exact (by decide : (4 : Int) ≠ 0))).2
  have H := Lib.hid h; clear h
  have TK := Lib.hid ht; clear ht
  go_enter_defers Try.func179, Try.ntmps179
  go_wp2_with (first
    | (((with_reducible refine gate_dst (N := 2) rfl ?_); refine box_event ?hg (N := 2) ?hd (cs := #[.int .i64 0, .string (⟨#[]⟩ : ByteArray), .string (⟨#[]⟩ : ByteArray), .int .i64 0, .int .i64 0, .int .i64 0, .int .i64 0, .string (⟨#[]⟩ : ByteArray), .slice none 0 0]) (t := 27) ?hr ?_; (case hd => rfl); (case hg => rfl); (case hr => first | (go_simp; done) | (go_simp; rfl)); intro gb2 hg_ w1 hb_ hl_; have BKgb2 := am_ hb_; have HLgb2 := am_ hl_; have HGgb2 := am_ (Nat.le_of_eq hg_.symm); obtain ⟨zgb2_0, zgb2_1, zgb2_2, zgb2_3, zgb2_4, zgb2_5, zgb2_6, zgb2_7, zgb2_8, ygb2_0, ygb2_1, ygb2_2, ygb2_3, ygb2_4, ygb2_5, ygb2_6, ygb2_7, ygb2_8⟩ := bw9_ hb_; clear hb_ hl_ hg_; simp only [Act.put, sa_, sz_, ss_]); have H1 := Lib.hid ((⟨H.out.below HLgb2.out, Chg.below H.out.lt HLgb2.out, BKgb2.out, H.out.lt, HGgb2.out⟩ : AS w g gb2 A c l w1 i d e)); clear BKgb2 HLgb2 HGgb2 zgb2_0 zgb2_1 zgb2_2 zgb2_3 zgb2_4 zgb2_5 zgb2_6 zgb2_7 zgb2_8 ygb2_0 ygb2_1 ygb2_2 ygb2_3 ygb2_4 ygb2_5 ygb2_6 ygb2_7 ygb2_8)
    | ((with_reducible refine gate_callee (f := 81) rfl ?_); refine goesL_ (some 6) rfl rfl Try.func81 (by kernel_rfl) rfl #[.pointer (some ⟨g, 0, none⟩)] rfl (by (try simp only [List.map_toArray, List.map_cons, List.map_nil]); first | done | rfl) ?_; refine (tok_st H1.out.st _ TK.out).mono ?_; rintro r' w2 ⟨rfl, h2, b2⟩; refine ⟨_, rfl, ?_⟩; simp only [Act.put, sa_, sz_, ss_]; have H2 := Lib.hid (H1.out.below b2); clear h2 b2 H1)
    | (((with_reducible refine gate_dst (N := 3) rfl ?_); refine box_event ?hg (N := 3) ?hd (cs := #[.int .i64 0, .string (⟨#[]⟩ : ByteArray), .int .i64 0, .int .i64 0]) (t := 91) ?hr ?_; (case hd => rfl); (case hg => rfl); (case hr => first | (go_simp; done) | (go_simp; rfl)); intro gb3 hg_ w3 hb_ hl_; have BKgb3 := am_ hb_; have HLgb3 := am_ hl_; have HGgb3 := am_ (Nat.le_of_eq hg_.symm); obtain ⟨zgb3_0, zgb3_1, zgb3_2, zgb3_3, ygb3_0, ygb3_1, ygb3_2, ygb3_3⟩ := bw4_ hb_; clear hb_ hl_ hg_; simp only [Act.put, sa_, sz_, ss_]); have H3 := Lib.hid (H2.out.below HLgb3.out); have h23 := Nat.lt_of_lt_of_le (blk_lt H2.out.b2) HGgb3.out; have H23 := Lib.hid h23; have N1 : gb3 ≠ g := ne_of_le H2.out.st.lt HGgb3.out; have N2 := N1.symm; have N3 : gb3 ≠ gb2 := Nat.ne_of_gt h23; have N4 := N3.symm; clear h23 H2; obtain ⟨c0, c1, c2, c3, f0, f1, f2, f3⟩ := bw4_ H3.out.st.ps; obtain ⟨p0, p1, p2, p3, p4, p5, p6, p7, p8, q0, q1, q2, q3, q4, q5, q6, q7, q8⟩ := bw9_ H3.out.b2)
    | ((with_reducible refine gate_callee (f := 189) rfl ?_); refine goesL_ (some 35) rfl rfl Try.func189 (by kernel_rfl) rfl #[.string s] rfl (by (try simp only [List.map_toArray, List.map_cons, List.map_nil]); first | done | rfl) ?_; refine (val_Text.calls s _ _ _ _ HV.out).mono ?_; rintro r' w4 ⟨rfl, b4⟩; refine ⟨_, rfl, ?_⟩; simp only [Act.put, sa_, sz_, ss_]; have H4 := Lib.hid (((H3.out.own chg4_ H23.out).at1 TL.out).below b4); clear b4 H3)
    | ((with_reducible refine gate_callee (f := 187) rfl ?_); refine goesL_ (some 36) rfl rfl Try.func187 (by kernel_rfl) rfl #[.agg #[.int .i64 2, .int .i64 0, .string s]] rfl (by (try simp only [List.map_toArray, List.map_cons, List.map_nil]); first | done | rfl) ?_; refine (val_any 2 0 s w4).mono ?_; rintro r' w5 ⟨zA, zc, rfl, t5, b5⟩; refine ⟨_, rfl, ?_⟩; simp only [Act.put, sa_, sz_, ss_]; simp only [exV, valP, List.length_nil]; have H5 := Lib.hid (H4.out.below b5); have T5 := Lib.hid t5; clear b5 t5 H4 p0 p1 p2 p3 p4 p5 p6 p7 p8 q0 q1 q2 q3 q4 q5 q6 q7 q8; obtain ⟨p0, p1, p2, p3, p4, p5, p6, p7, p8, q0, q1, q2, q3, q4, q5, q6, q7, q8⟩ := bw9_ H5.out.b2))
  refine ⟨_, results_cell_row rfl _ _ gb2 27 #[.int .i64 16, .string ⟨#[]⟩, .string ⟨#[]⟩, .int .i64 0, .int .i64 0, .int .i64 2, .int .i64 0, .string s, .slice zA 0 zc] (0, 0) _ rfl (put9_ H5.out.b2) Try.underlying27 rfl (by kernel_rfl), H5.out.done (T5.out _ _)⟩
theorem atom_big {w : World} {g : Nat} {A : Option Addr} {c : Nat} {l : List S91} {i d e : Int} (h : St w g A c l i d e) {s : ByteArray} {n q : Int} (ht : tokP l i e = ⟨4, s, n, q⟩) (hv : val_Text.f s = some (0, 0, ⟨#[]⟩)) :
    Calls Try.prog 179 #[.pointer (some ⟨g, 0, none⟩)] w (Done w g A c l ⟨i + 1, d, e, valP 0 0 ⟨#[]⟩⟩) := by
  have HV := Lib.hid hv; clear hv
  have TL := Lib.hid (tok_le l i e (by rw [ht]; exact (by decide : (4 : Int) ≠ 0))).2
  have H := Lib.hid h; clear h
  have TK := Lib.hid ht; clear ht
  go_enter_defers Try.func179, Try.ntmps179
  go_wp2_with (first
    | (((with_reducible refine gate_dst (N := 2) rfl ?_); refine box_event ?hg (N := 2) ?hd (cs := #[.int .i64 0, .string (⟨#[]⟩ : ByteArray), .string (⟨#[]⟩ : ByteArray), .int .i64 0, .int .i64 0, .int .i64 0, .int .i64 0, .string (⟨#[]⟩ : ByteArray), .slice none 0 0]) (t := 27) ?hr ?_; (case hd => rfl); (case hg => rfl); (case hr => first | (go_simp; done) | (go_simp; rfl)); intro gb2 hg_ w1 hb_ hl_; have BKgb2 := am_ hb_; have HLgb2 := am_ hl_; have HGgb2 := am_ (Nat.le_of_eq hg_.symm); obtain ⟨zgb2_0, zgb2_1, zgb2_2, zgb2_3, zgb2_4, zgb2_5, zgb2_6, zgb2_7, zgb2_8, ygb2_0, ygb2_1, ygb2_2, ygb2_3, ygb2_4, ygb2_5, ygb2_6, ygb2_7, ygb2_8⟩ := bw9_ hb_; clear hb_ hl_ hg_; simp only [Act.put, sa_, sz_, ss_]); have H1 := Lib.hid ((⟨H.out.below HLgb2.out, Chg.below H.out.lt HLgb2.out, BKgb2.out, H.out.lt, HGgb2.out⟩ : AS w g gb2 A c l w1 i d e)); clear BKgb2 HLgb2 HGgb2 zgb2_0 zgb2_1 zgb2_2 zgb2_3 zgb2_4 zgb2_5 zgb2_6 zgb2_7 zgb2_8 ygb2_0 ygb2_1 ygb2_2 ygb2_3 ygb2_4 ygb2_5 ygb2_6 ygb2_7 ygb2_8)
    | ((with_reducible refine gate_callee (f := 81) rfl ?_); refine goesL_ (some 6) rfl rfl Try.func81 (by kernel_rfl) rfl #[.pointer (some ⟨g, 0, none⟩)] rfl (by (try simp only [List.map_toArray, List.map_cons, List.map_nil]); first | done | rfl) ?_; refine (tok_st H1.out.st _ TK.out).mono ?_; rintro r' w2 ⟨rfl, h2, b2⟩; refine ⟨_, rfl, ?_⟩; simp only [Act.put, sa_, sz_, ss_]; have H2 := Lib.hid (H1.out.below b2); clear h2 b2 H1)
    | (((with_reducible refine gate_dst (N := 3) rfl ?_); refine box_event ?hg (N := 3) ?hd (cs := #[.int .i64 0, .string (⟨#[]⟩ : ByteArray), .int .i64 0, .int .i64 0]) (t := 91) ?hr ?_; (case hd => rfl); (case hg => rfl); (case hr => first | (go_simp; done) | (go_simp; rfl)); intro gb3 hg_ w3 hb_ hl_; have BKgb3 := am_ hb_; have HLgb3 := am_ hl_; have HGgb3 := am_ (Nat.le_of_eq hg_.symm); obtain ⟨zgb3_0, zgb3_1, zgb3_2, zgb3_3, ygb3_0, ygb3_1, ygb3_2, ygb3_3⟩ := bw4_ hb_; clear hb_ hl_ hg_; simp only [Act.put, sa_, sz_, ss_]); have H3 := Lib.hid (H2.out.below HLgb3.out); have h23 := Nat.lt_of_lt_of_le (blk_lt H2.out.b2) HGgb3.out; have H23 := Lib.hid h23; have N1 : gb3 ≠ g := ne_of_le H2.out.st.lt HGgb3.out; have N2 := N1.symm; have N3 : gb3 ≠ gb2 := Nat.ne_of_gt h23; have N4 := N3.symm; clear h23 H2; obtain ⟨c0, c1, c2, c3, f0, f1, f2, f3⟩ := bw4_ H3.out.st.ps; obtain ⟨p0, p1, p2, p3, p4, p5, p6, p7, p8, q0, q1, q2, q3, q4, q5, q6, q7, q8⟩ := bw9_ H3.out.b2)
    | ((with_reducible refine gate_callee (f := 189) rfl ?_); refine goesL_ (some 35) rfl rfl Try.func189 (by kernel_rfl) rfl #[.string s] rfl (by (try simp only [List.map_toArray, List.map_cons, List.map_nil]); first | done | rfl) ?_; refine (val_Text.calls s _ _ _ _ HV.out).mono ?_; rintro r' w4 ⟨rfl, b4⟩; refine ⟨_, rfl, ?_⟩; simp only [Act.put, sa_, sz_, ss_]; have H4 := Lib.hid (((H3.out.own chg4_ H23.out).at1 TL.out).below b4); clear b4 H3)
    | ((with_reducible refine gate_callee (f := 187) rfl ?_); refine goesL_ (some 36) rfl rfl Try.func187 (by kernel_rfl) rfl #[.agg #[.int .i64 0, .int .i64 0, .string ⟨#[]⟩]] rfl (by (try simp only [List.map_toArray, List.map_cons, List.map_nil]); first | done | rfl) ?_; refine (val_any 0 0 ⟨#[]⟩ w4).mono ?_; rintro r' w5 ⟨zA, zc, rfl, t5, b5⟩; refine ⟨_, rfl, ?_⟩; simp only [Act.put, sa_, sz_, ss_]; simp only [exV, valP, List.length_nil]; have H5 := Lib.hid (H4.out.below b5); have T5 := Lib.hid t5; clear b5 t5 H4 p0 p1 p2 p3 p4 p5 p6 p7 p8 q0 q1 q2 q3 q4 q5 q6 q7 q8; obtain ⟨p0, p1, p2, p3, p4, p5, p6, p7, p8, q0, q1, q2, q3, q4, q5, q6, q7, q8⟩ := bw9_ H5.out.b2))
  refine ⟨_, results_cell_row rfl _ _ gb2 27 #[.int .i64 16, .string ⟨#[]⟩, .string ⟨#[]⟩, .int .i64 0, .int .i64 0, .int .i64 0, .int .i64 0, .string ⟨#[]⟩, .slice zA 0 zc] (0, 0) _ rfl (put9_ H5.out.b2) Try.underlying27 rfl (by kernel_rfl), H5.out.done (T5.out _ _)⟩
theorem atom_null {w : World} {g : Nat} {A : Option Addr} {c : Nat} {l : List S91} {i d e : Int} (h : St w g A c l i d e) {t0 n q : Int} {s : ByteArray} (ht : tokP l i e = ⟨t0, s, n, q⟩) (n3 : t0 ≠ 3) (n4 : t0 ≠ 4) (g1 : isP l i e wNull = true) :
    Calls Try.prog 179 #[.pointer (some ⟨g, 0, none⟩)] w (Done w g A c l ⟨i + 1, d, e, valP 0 0 ⟨#[]⟩⟩) := by
  have e3 : (t0 == 3) = false := beq_eq_false_iff_ne.2 n3
  have e4 : (t0 == 4) = false := beq_eq_false_iff_ne.2 n4
  clear n3 n4
  have G1 := Lib.hid g1; clear g1
  have H := Lib.hid h; clear h
  have TK := Lib.hid ht; clear ht
  go_enter_defers Try.func179, Try.ntmps179
  go_wp2_with (first
    | (((with_reducible refine gate_dst (N := 2) rfl ?_); refine box_event ?hg (N := 2) ?hd (cs := #[.int .i64 0, .string (⟨#[]⟩ : ByteArray), .string (⟨#[]⟩ : ByteArray), .int .i64 0, .int .i64 0, .int .i64 0, .int .i64 0, .string (⟨#[]⟩ : ByteArray), .slice none 0 0]) (t := 27) ?hr ?_; (case hd => rfl); (case hg => rfl); (case hr => first | (go_simp; done) | (go_simp; rfl)); intro gb2 hg_ w1 hb_ hl_; have BKgb2 := am_ hb_; have HLgb2 := am_ hl_; have HGgb2 := am_ (Nat.le_of_eq hg_.symm); obtain ⟨zgb2_0, zgb2_1, zgb2_2, zgb2_3, zgb2_4, zgb2_5, zgb2_6, zgb2_7, zgb2_8, ygb2_0, ygb2_1, ygb2_2, ygb2_3, ygb2_4, ygb2_5, ygb2_6, ygb2_7, ygb2_8⟩ := bw9_ hb_; clear hb_ hl_ hg_; simp only [Act.put, sa_, sz_, ss_]); have H1 := Lib.hid ((⟨H.out.below HLgb2.out, Chg.below H.out.lt HLgb2.out, BKgb2.out, H.out.lt, HGgb2.out⟩ : AS w g gb2 A c l w1 i d e)); clear BKgb2 HLgb2 HGgb2 zgb2_0 zgb2_1 zgb2_2 zgb2_3 zgb2_4 zgb2_5 zgb2_6 zgb2_7 zgb2_8 ygb2_0 ygb2_1 ygb2_2 ygb2_3 ygb2_4 ygb2_5 ygb2_6 ygb2_7 ygb2_8)
    | ((with_reducible refine gate_callee (f := 81) rfl ?_); refine goesL_ (some 6) rfl rfl Try.func81 (by kernel_rfl) rfl #[.pointer (some ⟨g, 0, none⟩)] rfl (by (try simp only [List.map_toArray, List.map_cons, List.map_nil]); first | done | rfl) ?_; refine (tok_st H1.out.st _ TK.out).mono ?_; rintro r' w2 ⟨rfl, h2, b2⟩; refine ⟨_, rfl, ?_⟩; simp only [Act.put, sa_, sz_, ss_]; have H2 := Lib.hid (H1.out.below b2); clear h2 b2 H1)
    | (((with_reducible refine gate_dst (N := 3) rfl ?_); refine box_event ?hg (N := 3) ?hd (cs := #[.int .i64 0, .string (⟨#[]⟩ : ByteArray), .int .i64 0, .int .i64 0]) (t := 91) ?hr ?_; (case hd => rfl); (case hg => rfl); (case hr => first | (go_simp; done) | (go_simp; rfl)); intro gb3 hg_ w3 hb_ hl_; have BKgb3 := am_ hb_; have HLgb3 := am_ hl_; have HGgb3 := am_ (Nat.le_of_eq hg_.symm); obtain ⟨zgb3_0, zgb3_1, zgb3_2, zgb3_3, ygb3_0, ygb3_1, ygb3_2, ygb3_3⟩ := bw4_ hb_; clear hb_ hl_ hg_; simp only [Act.put, sa_, sz_, ss_]); have H3 := Lib.hid (H2.out.below HLgb3.out); have h23 := Nat.lt_of_lt_of_le (blk_lt H2.out.b2) HGgb3.out; have H23 := Lib.hid h23; have N1 : gb3 ≠ g := ne_of_le H2.out.st.lt HGgb3.out; have N2 := N1.symm; have N3 : gb3 ≠ gb2 := Nat.ne_of_gt h23; have N4 := N3.symm; clear h23 H2; obtain ⟨c0, c1, c2, c3, f0, f1, f2, f3⟩ := bw4_ H3.out.st.ps; obtain ⟨p0, p1, p2, p3, p4, p5, p6, p7, p8, q0, q1, q2, q3, q4, q5, q6, q7, q8⟩ := bw9_ H3.out.b2)
    | ((with_reducible refine gate_callee (f := 121) rfl ?_); refine goesL_ (some 39) rfl rfl Try.func121 (by kernel_rfl) rfl #[.pointer (some ⟨g, 0, none⟩), .string wNull] rfl (by (try simp only [List.map_toArray, List.map_cons, List.map_nil]); first | done | rfl) ?_; refine (take_yes_st (H3.out.own chg4_ H23.out).st _ G1.out).mono ?_; rintro r' w4 ⟨rfl, h4, c4⟩; refine ⟨_, rfl, ?_⟩; simp only [Act.put, sa_, sz_, ss_]; have H4 := Lib.hid ((H3.out.own chg4_ H23.out).chg c4 h4); clear h4 c4 H3)
    | ((with_reducible refine gate_callee (f := 190) rfl ?_); refine goesL_ (some 40) rfl rfl Try.func190 (by kernel_rfl) rfl #[] rfl (by (try simp only [List.map_toArray, List.map_cons, List.map_nil]); first | done | rfl) ?_; refine (val_Null.calls _ _ _ _ rfl).mono ?_; rintro r' w5 ⟨rfl, b5⟩; refine ⟨_, rfl, ?_⟩; simp only [Act.put, sa_, sz_, ss_]; have H5 := Lib.hid (H4.out.below b5); clear b5 H4)
    | ((with_reducible refine gate_callee (f := 187) rfl ?_); refine goesL_ (some 41) rfl rfl Try.func187 (by kernel_rfl) rfl #[.agg #[.int .i64 0, .int .i64 0, .string ⟨#[]⟩]] rfl (by (try simp only [List.map_toArray, List.map_cons, List.map_nil]); first | done | rfl) ?_; refine (val_any 0 0 ⟨#[]⟩ w5).mono ?_; rintro r' w6 ⟨zA, zc, rfl, t6, b6⟩; refine ⟨_, rfl, ?_⟩; simp only [Act.put, sa_, sz_, ss_]; simp only [exV, valP, List.length_nil]; have H6 := Lib.hid (H5.out.below b6); have T6 := Lib.hid t6; clear b6 t6 H5 p0 p1 p2 p3 p4 p5 p6 p7 p8 q0 q1 q2 q3 q4 q5 q6 q7 q8; obtain ⟨p0, p1, p2, p3, p4, p5, p6, p7, p8, q0, q1, q2, q3, q4, q5, q6, q7, q8⟩ := bw9_ H6.out.b2))
  refine ⟨_, results_cell_row rfl _ _ gb2 27 #[.int .i64 16, .string ⟨#[]⟩, .string ⟨#[]⟩, .int .i64 0, .int .i64 0, .int .i64 0, .int .i64 0, .string ⟨#[]⟩, .slice zA 0 zc] (0, 0) _ rfl (put9_ H6.out.b2) Try.underlying27 rfl (by kernel_rfl), H6.out.done (T6.out _ _)⟩
theorem atom_col {w : World} {g : Nat} {A : Option Addr} {c : Nat} {l : List S91} {i d e : Int} (h : St w g A c l i d e) {t0 n q : Int} {s : ByteArray} (ht : tokP l i e = ⟨t0, s, n, q⟩) (n3 : t0 ≠ 3) (n4 : t0 ≠ 4) (g1 : isP l i e wNull = false) (g2 : isP l i e wOpen = false) :
    Calls Try.prog 179 #[.pointer (some ⟨g, 0, none⟩)] w (Done w g A c l ⟨coI l i e, d, coE l i e, coX l i e⟩) := by
  have e3 : (t0 == 3) = false := beq_eq_false_iff_ne.2 n3
  have e4 : (t0 == 4) = false := beq_eq_false_iff_ne.2 n4
  clear n3 n4
  have G1 := Lib.hid g1; clear g1
  have G2 := Lib.hid g2; clear g2
  generalize hx : coX l i e = x
  have H := Lib.hid h; clear h
  have TK := Lib.hid ht; clear ht
  go_enter_defers Try.func179, Try.ntmps179
  go_wp2_with (first
    | (((with_reducible refine gate_dst (N := 2) rfl ?_); refine box_event ?hg (N := 2) ?hd (cs := #[.int .i64 0, .string (⟨#[]⟩ : ByteArray), .string (⟨#[]⟩ : ByteArray), .int .i64 0, .int .i64 0, .int .i64 0, .int .i64 0, .string (⟨#[]⟩ : ByteArray), .slice none 0 0]) (t := 27) ?hr ?_; (case hd => rfl); (case hg => rfl); (case hr => first | (go_simp; done) | (go_simp; rfl)); intro gb2 hg_ w1 hb_ hl_; have BKgb2 := am_ hb_; have HLgb2 := am_ hl_; have HGgb2 := am_ (Nat.le_of_eq hg_.symm); obtain ⟨zgb2_0, zgb2_1, zgb2_2, zgb2_3, zgb2_4, zgb2_5, zgb2_6, zgb2_7, zgb2_8, ygb2_0, ygb2_1, ygb2_2, ygb2_3, ygb2_4, ygb2_5, ygb2_6, ygb2_7, ygb2_8⟩ := bw9_ hb_; clear hb_ hl_ hg_; simp only [Act.put, sa_, sz_, ss_]); have H1 := Lib.hid ((⟨H.out.below HLgb2.out, Chg.below H.out.lt HLgb2.out, BKgb2.out, H.out.lt, HGgb2.out⟩ : AS w g gb2 A c l w1 i d e)); clear BKgb2 HLgb2 HGgb2 zgb2_0 zgb2_1 zgb2_2 zgb2_3 zgb2_4 zgb2_5 zgb2_6 zgb2_7 zgb2_8 ygb2_0 ygb2_1 ygb2_2 ygb2_3 ygb2_4 ygb2_5 ygb2_6 ygb2_7 ygb2_8)
    | ((with_reducible refine gate_callee (f := 81) rfl ?_); refine goesL_ (some 6) rfl rfl Try.func81 (by kernel_rfl) rfl #[.pointer (some ⟨g, 0, none⟩)] rfl (by (try simp only [List.map_toArray, List.map_cons, List.map_nil]); first | done | rfl) ?_; refine (tok_st H1.out.st _ TK.out).mono ?_; rintro r' w2 ⟨rfl, h2, b2⟩; refine ⟨_, rfl, ?_⟩; simp only [Act.put, sa_, sz_, ss_]; have H2 := Lib.hid (H1.out.below b2); clear h2 b2 H1)
    | (((with_reducible refine gate_dst (N := 3) rfl ?_); refine box_event ?hg (N := 3) ?hd (cs := #[.int .i64 0, .string (⟨#[]⟩ : ByteArray), .int .i64 0, .int .i64 0]) (t := 91) ?hr ?_; (case hd => rfl); (case hg => rfl); (case hr => first | (go_simp; done) | (go_simp; rfl)); intro gb3 hg_ w3 hb_ hl_; have BKgb3 := am_ hb_; have HLgb3 := am_ hl_; have HGgb3 := am_ (Nat.le_of_eq hg_.symm); obtain ⟨zgb3_0, zgb3_1, zgb3_2, zgb3_3, ygb3_0, ygb3_1, ygb3_2, ygb3_3⟩ := bw4_ hb_; clear hb_ hl_ hg_; simp only [Act.put, sa_, sz_, ss_]); have H3 := Lib.hid (H2.out.below HLgb3.out); have h23 := Nat.lt_of_lt_of_le (blk_lt H2.out.b2) HGgb3.out; have H23 := Lib.hid h23; have N1 : gb3 ≠ g := ne_of_le H2.out.st.lt HGgb3.out; have N2 := N1.symm; have N3 : gb3 ≠ gb2 := Nat.ne_of_gt h23; have N4 := N3.symm; clear h23 H2; obtain ⟨c0, c1, c2, c3, f0, f1, f2, f3⟩ := bw4_ H3.out.st.ps; obtain ⟨p0, p1, p2, p3, p4, p5, p6, p7, p8, q0, q1, q2, q3, q4, q5, q6, q7, q8⟩ := bw9_ H3.out.b2)
    | ((with_reducible refine gate_callee (f := 121) rfl ?_); refine goesL_ (some 39) rfl rfl Try.func121 (by kernel_rfl) rfl #[.pointer (some ⟨g, 0, none⟩), .string wNull] rfl (by (try simp only [List.map_toArray, List.map_cons, List.map_nil]); first | done | rfl) ?_; refine (take_no_st (H3.out.own chg4_ H23.out).st _ G1.out).mono ?_; rintro r' w4 ⟨rfl, h4, c4⟩; refine ⟨_, rfl, ?_⟩; simp only [Act.put, sa_, sz_, ss_]; have H4 := Lib.hid ((H3.out.own chg4_ H23.out).chg c4 h4); clear h4 c4 H3)
    | ((with_reducible refine gate_callee (f := 148) rfl ?_); refine goesL_ (some 44) rfl rfl Try.func148 (by kernel_rfl) rfl #[.pointer (some ⟨g, 0, none⟩), .string wOpen] rfl (by (try simp only [List.map_toArray, List.map_cons, List.map_nil]); first | done | rfl) ?_; refine (is_st H4.out.st _ _ G2.out).mono ?_; rintro r' w5 ⟨rfl, h5, c5⟩; refine ⟨_, rfl, ?_⟩; simp only [Act.put, sa_, sz_, ss_]; have H5 := Lib.hid (H4.out.chg c5 h5); clear h5 c5 H4)
    | ((with_reducible refine gate_callee (f := 191) rfl ?_); refine goesL_ (some 56) rfl rfl Try.func191 (by kernel_rfl) rfl #[.pointer (some ⟨g, 0, none⟩)] rfl (by (try simp only [List.map_toArray, List.map_cons, List.map_nil]); first | done | rfl) ?_; refine (col_st H5.out.st).mono ?_; rintro r' w6 ⟨zA, zc, rfl, h6, c6, t6⟩; refine ⟨_, rfl, ?_⟩; simp only [Act.put, sa_, sz_, ss_]; rw [hx] at t6 ⊢; simp only [exV]; have H6 := Lib.hid (H5.out.chg c6 h6); have T6 := Lib.hid t6; clear h6 c6 t6 H5 p0 p1 p2 p3 p4 p5 p6 p7 p8 q0 q1 q2 q3 q4 q5 q6 q7 q8; obtain ⟨p0, p1, p2, p3, p4, p5, p6, p7, p8, q0, q1, q2, q3, q4, q5, q6, q7, q8⟩ := bw9_ H6.out.b2))
  refine ⟨_, results_cell_row rfl _ _ gb2 27 #[.int .i64 x.f0, .string x.f1, .string x.f2, .int .i64 x.f3, .int .i64 x.f4, .int .i64 x.f5.f0, .int .i64 x.f5.f1, .string x.f5.f2, .slice zA x.f6.length zc] (0, 0) _ rfl (put9_ H6.out.b2) Try.underlying27 rfl (by kernel_rfl), H6.out.done (T6.out _ _)⟩
theorem atom_open {k : Nat} (hT : GOK k .or) {w : World} {g : Nat} {A : Option Addr} {c : Nat} {l : List S91} {i d e : Int} (h : St w g A c l i d e) {t0 n q : Int} {s : ByteArray} (ht : tokP l i e = ⟨t0, s, n, q⟩) (n3 : t0 ≠ 3) (n4 : t0 ≠ 4) {r : Re} (g1 : isP l i e wNull = false) (g2 : isP l i e wOpen = true) (h0 : 0 ≤ d) (h1 : d ≤ 100) (h2 : 0 ≤ r.d) (h3 : r.d ≤ 200) (hr : pr l k (.f .or) (isI l i (dnE d e) wOpen) (d + 1) (dnE d e) = some r) :
    Calls Try.prog 179 #[.pointer (some ⟨g, 0, none⟩)] w (Done w g A c l ⟨muI l r.i r.e wShut, r.d - 1, muE l r.i r.e wShut, r.x⟩) := by
  have e3 : (t0 == 3) = false := beq_eq_false_iff_ne.2 n3
  have e4 : (t0 == 4) = false := beq_eq_false_iff_ne.2 n4
  clear n3 n4
  have G1 := Lib.hid g1; clear g1
  have G2 := Lib.hid g2; clear g2
  have HR := Lib.hid hr; clear hr
  have HT := Lib.hid hT; clear hT
  have h0' : -1000 ≤ d := by omega
  have h1' : d ≤ 1000 := by omega
  have H := Lib.hid h; clear h
  have TK := Lib.hid ht; clear ht
  go_enter_defers Try.func179, Try.ntmps179
  go_wp2_with (first
    | (((with_reducible refine gate_dst (N := 2) rfl ?_); refine box_event ?hg (N := 2) ?hd (cs := #[.int .i64 0, .string (⟨#[]⟩ : ByteArray), .string (⟨#[]⟩ : ByteArray), .int .i64 0, .int .i64 0, .int .i64 0, .int .i64 0, .string (⟨#[]⟩ : ByteArray), .slice none 0 0]) (t := 27) ?hr ?_; (case hd => rfl); (case hg => rfl); (case hr => first | (go_simp; done) | (go_simp; rfl)); intro gb2 hg_ w1 hb_ hl_; have BKgb2 := am_ hb_; have HLgb2 := am_ hl_; have HGgb2 := am_ (Nat.le_of_eq hg_.symm); obtain ⟨zgb2_0, zgb2_1, zgb2_2, zgb2_3, zgb2_4, zgb2_5, zgb2_6, zgb2_7, zgb2_8, ygb2_0, ygb2_1, ygb2_2, ygb2_3, ygb2_4, ygb2_5, ygb2_6, ygb2_7, ygb2_8⟩ := bw9_ hb_; clear hb_ hl_ hg_; simp only [Act.put, sa_, sz_, ss_]); have H1 := Lib.hid ((⟨H.out.below HLgb2.out, Chg.below H.out.lt HLgb2.out, BKgb2.out, H.out.lt, HGgb2.out⟩ : AS w g gb2 A c l w1 i d e)); clear BKgb2 HLgb2 HGgb2 zgb2_0 zgb2_1 zgb2_2 zgb2_3 zgb2_4 zgb2_5 zgb2_6 zgb2_7 zgb2_8 ygb2_0 ygb2_1 ygb2_2 ygb2_3 ygb2_4 ygb2_5 ygb2_6 ygb2_7 ygb2_8)
    | ((with_reducible refine gate_callee (f := 81) rfl ?_); refine goesL_ (some 6) rfl rfl Try.func81 (by kernel_rfl) rfl #[.pointer (some ⟨g, 0, none⟩)] rfl (by (try simp only [List.map_toArray, List.map_cons, List.map_nil]); first | done | rfl) ?_; refine (tok_st H1.out.st _ TK.out).mono ?_; rintro r' w2 ⟨rfl, h2, b2⟩; refine ⟨_, rfl, ?_⟩; simp only [Act.put, sa_, sz_, ss_]; have H2 := Lib.hid (H1.out.below b2); clear h2 b2 H1)
    | (((with_reducible refine gate_dst (N := 3) rfl ?_); refine box_event ?hg (N := 3) ?hd (cs := #[.int .i64 0, .string (⟨#[]⟩ : ByteArray), .int .i64 0, .int .i64 0]) (t := 91) ?hr ?_; (case hd => rfl); (case hg => rfl); (case hr => first | (go_simp; done) | (go_simp; rfl)); intro gb3 hg_ w3 hb_ hl_; have BKgb3 := am_ hb_; have HLgb3 := am_ hl_; have HGgb3 := am_ (Nat.le_of_eq hg_.symm); obtain ⟨zgb3_0, zgb3_1, zgb3_2, zgb3_3, ygb3_0, ygb3_1, ygb3_2, ygb3_3⟩ := bw4_ hb_; clear hb_ hl_ hg_; simp only [Act.put, sa_, sz_, ss_]); have H3 := Lib.hid (H2.out.below HLgb3.out); have h23 := Nat.lt_of_lt_of_le (blk_lt H2.out.b2) HGgb3.out; have H23 := Lib.hid h23; have N1 : gb3 ≠ g := ne_of_le H2.out.st.lt HGgb3.out; have N2 := N1.symm; have N3 : gb3 ≠ gb2 := Nat.ne_of_gt h23; have N4 := N3.symm; clear h23 H2; obtain ⟨c0, c1, c2, c3, f0, f1, f2, f3⟩ := bw4_ H3.out.st.ps; obtain ⟨p0, p1, p2, p3, p4, p5, p6, p7, p8, q0, q1, q2, q3, q4, q5, q6, q7, q8⟩ := bw9_ H3.out.b2)
    | ((with_reducible refine gate_callee (f := 121) rfl ?_); refine goesL_ (some 39) rfl rfl Try.func121 (by kernel_rfl) rfl #[.pointer (some ⟨g, 0, none⟩), .string wNull] rfl (by (try simp only [List.map_toArray, List.map_cons, List.map_nil]); first | done | rfl) ?_; refine (take_no_st (H3.out.own chg4_ H23.out).st _ G1.out).mono ?_; rintro r' w4 ⟨rfl, h4, c4⟩; refine ⟨_, rfl, ?_⟩; simp only [Act.put, sa_, sz_, ss_]; have H4 := Lib.hid ((H3.out.own chg4_ H23.out).chg c4 h4); clear h4 c4 H3)
    | ((with_reducible refine gate_callee (f := 148) rfl ?_); refine goesL_ (some 44) rfl rfl Try.func148 (by kernel_rfl) rfl #[.pointer (some ⟨g, 0, none⟩), .string wOpen] rfl (by (try simp only [List.map_toArray, List.map_cons, List.map_nil]); first | done | rfl) ?_; refine (is_st H4.out.st _ _ G2.out).mono ?_; rintro r' w5 ⟨rfl, h5, c5⟩; refine ⟨_, rfl, ?_⟩; simp only [Act.put, sa_, sz_, ss_]; have H5 := Lib.hid (H4.out.chg c5 h5); clear h5 c5 H4)
    | ((with_reducible refine gate_callee (f := 151) rfl ?_); refine goesL_ (some 46) rfl rfl Try.func151 (by kernel_rfl) rfl #[.pointer (some ⟨g, 0, none⟩)] rfl (by (try simp only [List.map_toArray, List.map_cons, List.map_nil]); first | done | rfl) ?_; refine (down_st H5.out.st h0' h1').mono ?_; rintro r' w6 ⟨rfl, h6, c6⟩; refine ⟨_, rfl, ?_⟩; simp only [Act.put, sa_, sz_, ss_]; have H6 := Lib.hid (H5.out.chg c6 h6); clear h6 c6 H5)
    | ((with_reducible refine gate_callee (f := 121) rfl ?_); refine goesL_ (some 49) rfl rfl Try.func121 (by kernel_rfl) rfl #[.pointer (some ⟨g, 0, none⟩), .string wOpen] rfl (by (try simp only [List.map_toArray, List.map_cons, List.map_nil]); first | done | rfl) ?_; refine (take_st H6.out.st _).mono ?_; rintro r' w7 ⟨rfl, h7, c7⟩; refine ⟨_, rfl, ?_⟩; simp only [Act.put, sa_, sz_, ss_]; have H7 := Lib.hid (H6.out.chg c7 h7); clear h7 c7 H6)
    | ((with_reducible refine gate_callee (f := 41) rfl ?_); refine goesL_ (some 51) rfl rfl Try.func41 (by kernel_rfl) rfl #[.pointer (some ⟨g, 0, none⟩)] rfl (by (try simp only [List.map_toArray, List.map_cons, List.map_nil]); first | done | rfl) ?_; refine (HT.out _ _ _ _ _ _ _ _ _ H7.out.st HR.out).mono ?_; rintro r' w8 ⟨zA, zc, rfl, h8, c8, t8⟩; refine ⟨_, rfl, ?_⟩; simp only [Act.put, sa_, sz_, ss_]; simp only [exV]; have H8 := Lib.hid (H7.out.chg c8 h8); have T8 := Lib.hid (H7.out.aft t8); clear h8 c8 t8 H7 p0 p1 p2 p3 p4 p5 p6 p7 p8 q0 q1 q2 q3 q4 q5 q6 q7 q8 c0 c1 c2 c3 f0 f1 f2 f3 BKgb3 zgb3_0 zgb3_1 zgb3_2 zgb3_3 ygb3_0 ygb3_1 ygb3_2 ygb3_3)
    | (((with_reducible refine gate_dst (N := 4) rfl ?_); refine box_event ?hg (N := 4) ?hd (cs := #[.int .i64 0, .string (⟨#[]⟩ : ByteArray), .string (⟨#[]⟩ : ByteArray), .int .i64 0, .int .i64 0, .int .i64 0, .int .i64 0, .string (⟨#[]⟩ : ByteArray), .slice none 0 0]) (t := 27) ?hr ?_; (case hd => rfl); (case hg => rfl); (case hr => first | (go_simp; done) | (go_simp; rfl)); intro gb4 hg_ w9 hb_ hl_; have BKgb4 := am_ hb_; have HLgb4 := am_ hl_; have HGgb4 := am_ (Nat.le_of_eq hg_.symm); obtain ⟨zgb4_0, zgb4_1, zgb4_2, zgb4_3, zgb4_4, zgb4_5, zgb4_6, zgb4_7, zgb4_8, ygb4_0, ygb4_1, ygb4_2, ygb4_3, ygb4_4, ygb4_5, ygb4_6, ygb4_7, ygb4_8⟩ := bw9_ hb_; clear hb_ hl_ hg_; simp only [Act.put, sa_, sz_, ss_]); have H9 := Lib.hid (H8.out.below HLgb4.out); have h24 := Nat.lt_of_lt_of_le (blk_lt H8.out.b2) HGgb4.out; have H24 := Lib.hid h24; have N5 : gb4 ≠ gb2 := Nat.ne_of_gt h24; have N6 := N5.symm; have T9 := Lib.hid (op_tr T8.out HGgb4.out HLgb4.out))
    | ((with_reducible refine gate_callee (f := 160) rfl ?_); refine goesL_ (some 53) rfl rfl Try.func160 (by kernel_rfl) rfl #[.pointer (some ⟨g, 0, none⟩), .string wShut] rfl (by (try simp only [List.map_toArray, List.map_cons, List.map_nil]); first | done | rfl) ?_; refine (must_st (H9.out.own chg9_ H24.out).st _).mono ?_; rintro r' w10 ⟨rfl, h10, c10⟩; refine ⟨_, rfl, ?_⟩; simp only [Act.put, sa_, sz_, ss_]; have H10 := Lib.hid ((H9.out.own chg9_ H24.out).chg c10 h10); have T10 := Lib.hid (((T9.out.chg chg9_ (fun q => q.2.2 rfl)).chg c10 (fun q => absurd q.1 (Nat.not_le_of_lt H9.out.hg))).mono fun _ _ q => (⟨q.1, q.2.1⟩ : _ ∧ _)); have B10 := Lib.hid (c10.box (put9_ BKgb4.out) (op_ne H9.out H24.out)); clear h10 c10 zgb4_0 zgb4_1 zgb4_2 zgb4_3 zgb4_4 zgb4_5 zgb4_6 zgb4_7 zgb4_8 ygb4_0 ygb4_1 ygb4_2 ygb4_3 ygb4_4 ygb4_5 ygb4_6 ygb4_7 ygb4_8; obtain ⟨p0, p1, p2, p3, p4, p5, p6, p7, p8, q0, q1, q2, q3, q4, q5, q6, q7, q8⟩ := bw9_ H10.out.b2; obtain ⟨s0, s1, s2, s3, s4, s5, s6, s7, s8, t0, t1, t2, t3, t4, t5, t6, t7, t8⟩ := bw9_ B10.out))
  have h2g := H10.out.h2; have hg2 := H10.out.hg
  exact leave_up (gb := gb2) (vA := zA) (vc := zc) (x := r.x) (fun W' hb => results_cell_row rfl _ _ gb2 27 _ (0, 0) _ rfl hb Try.underlying27 rfl (by kernel_rfl)) (H10.out.st.box chg9_ (by omega)) (put9_ H10.out.b2) (H10.out.ch.own chg9_ h2g (by omega)) ((T10.out.chg chg9_ (fun q => q.2 rfl)).mono fun _ _ q => q.1) (by omega) hg2 (by omega) (by omega)
theorem atom_ok (k : Nat) (hT : GOK k .or) : GOK (k + 1) .atom := by
  intro w g A c l i d e r h hr
  simp only [pr] at hr
  change Calls Try.prog 179 _ _ _
  rcases ht : tokP l i e with ⟨t0, s, n, q⟩
  rw [ht] at hr
  dsimp only at hr
  by_cases h3 : t0 = 3
  · subst h3
    rw [if_pos rfl] at hr
    obtain rfl := Option.some.inj hr
    exact atom_int h ht
  rw [if_neg h3] at hr
  by_cases h4 : t0 = 4
  · subst h4
    rw [if_pos rfl] at hr
    obtain rfl := Option.some.inj hr
    unfold txP
    by_cases hs : (s.size : Int) > 65536
    · rw [if_pos hs]
      exact atom_big h ht (by unfold val_Text.f; rw [if_pos hs]; rfl)
    · rw [if_neg hs]
      exact atom_txt h ht (by unfold val_Text.f; rw [if_neg hs])
  rw [if_neg h4] at hr
  cases g1 : isP l i e wNull with
  | true =>
    rw [g1, if_pos rfl] at hr
    obtain rfl := Option.some.inj hr
    exact atom_null h ht h3 h4 g1
  | false =>
    rw [g1, if_neg (by decide)] at hr
    cases g2 : isP l i e wOpen with
    | false =>
      rw [g2, if_neg (by decide)] at hr
      obtain rfl := Option.some.inj hr
      exact atom_col h ht h3 h4 g1 g2
    | true =>
      rw [g2, if_pos rfl] at hr
      by_cases hd : 0 ≤ d ∧ d ≤ 100
      · rw [if_pos hd] at hr
        obtain ⟨r1, hr1, hr⟩ := Option.bind_eq_some_iff.1 hr
        by_cases hq : 0 ≤ r1.d ∧ r1.d ≤ 200
        · rw [if_pos hq] at hr
          obtain rfl := Option.some.inj hr
          exact atom_open hT h ht h3 h4 g1 g2 hd.1 hd.2 hq.1 hq.2 hr1
        · rw [if_neg hq] at hr
          exact absurd hr (by simp)
      · rw [if_neg hd] at hr
        exact absurd hr (by simp)
end Go.Proofs.Ytcfgjaggccnoaaa.PParseSmall
