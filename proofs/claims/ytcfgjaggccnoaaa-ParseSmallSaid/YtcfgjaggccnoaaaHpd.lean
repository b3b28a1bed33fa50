import Derived.Test.YtcfgjaggccnoaaaHpc
namespace Go.Proofs.Ytcfgjaggccnoaaa.PParseSmall
open Go.RowKit Go.Proofs.YtcfgjaggccnoaaaW.PrintWords Go.Proofs.YtcfgjaggccnoaaaW.PrintLast Go.Proofs.YtcfgjaggccnoaaaW.PrintMore
attribute [local go_sem] max2_int min2_int max_two min_two max_three min_three max_four min_four
set_option linter.unusedVariables false
set_option linter.unusedSimpArgs false
set_option maxRecDepth 100000
set_option maxHeartbeats 4000000
theorem Chg.far {g b : Nat} {w w1 : World} (h : Chg g w w1) (hp : w.heap.size ≤ b) (hg : g ≤ b) (j : Nat) (u : Value) : Chg g w (w1.setCell ⟨b, j, none⟩ u) := ⟨h.1.setCell hg _, keep_far h.2 hp u⟩
theorem name_yes {g : Nat} {A : Option Addr} {c : Nat} {i d e : Int} {w : World} {l : List S91} (h : Ps w g A l.length c i d e) (hC : Kd.C k91 w A l.length l) (h0 : 0 ≤ i) (h1 : i ≤ l.length) (hl : l.length ≤ 1000000) (hk : (tokP l i e).f0 = 1) :
    Calls Try.prog 194 #[.pointer (some ⟨g, 0, none⟩)] w fun r w' => r = .returned (.string (tokP l i e).f1) ∧ Ps w' g A l.length c (i + 1) d e ∧ Chg g w w' := by
  have T := Lib.hid (tok_any h hC h0)
  have HL := Lib.hid (show g < w.heap.size from h.lt)
  have H := Lib.hid h; have h2 : i ≤ 1000000 := by omega
  clear h hC h1 hl
  generalize tokP l i e = t at *
  have q1 : (t.f0 == 1) = true := beq_iff_eq.2 hk
  have q2 : (t.f0 != 1) = false := by rw [hk]; rfl
  clear hk
  go_enter Try.func194, Try.ntmps194
  go_wp2_with (first | ((with_reducible refine gate_callee (f := 81) rfl ?_); refine goesL_ (some 5) rfl rfl Try.func81 (by kernel_rfl) rfl #[.pointer (some ⟨g, 0, none⟩)] rfl (by (try simp only [List.map_toArray, List.map_cons, List.map_nil]); first | done | rfl) ?_; refine (T.out).mono ?_; rintro r' w1 ⟨rfl, hb1⟩; refine ⟨_, rfl, ?_⟩; simp only [Act.put, sa_, sz_, ss_]; have H1 := Lib.hid (H.out.below hb1); have HB := Lib.hid hb1; clear hb1) | (((with_reducible refine gate_dst (N := 3) rfl ?_); refine box_event ?hg (N := 3) ?hd (cs := #[.int .i64 0, .string (⟨#[]⟩ : ByteArray), .int .i64 0, .int .i64 0]) (t := 91) ?hr ?_; (case hd => rfl); (case hg => rfl); (case hr => first | (go_simp; done) | (go_simp; rfl)); intro gb hg_ w2 hb_ hl_; have BKgb := am_ hb_; have HLgb := am_ hl_; have HGgb := am_ (Nat.le_of_eq hg_.symm); obtain ⟨zgb_0, zgb_1, zgb_2, zgb_3, ygb_0, ygb_1, ygb_2, ygb_3⟩ := bw4_ hb_; clear hb_ hl_ hg_; simp only [Act.put, sa_, sz_, ss_]); have H2 := H1.out.below HLgb.out; obtain ⟨c0, c1, c2, c3, f0, f1, f2, f3⟩ := bw4_ H2; have HN := ne_of_le H1.out.lt HGgb.out; have HM := HN.symm; have H3 := Lib.hid H2; clear H2))
  have HY := am_ (Nat.le_trans HB.out.size HGgb.out); have HZ := am_ (Nat.le_trans (Nat.le_of_lt HL.out) HY.out)
  have HQ := am_ ((Chg.below HL.out HB.out).trans (Chg.below H1.out.lt HLgb.out))
  go_ret
  refine ⟨rfl, ?_, ?_⟩
  · refine Ps.at_ (i := i) ?_ _
    repeat (first | (with_reducible exact H3.out) | refine Ps.far ?_ HN _)
  · repeat (first | (with_reducible exact HQ.out) | refine Chg.set ?_ _ _ | refine Chg.far ?_ HY.out HZ.out _ _)
theorem name_no {g : Nat} {A : Option Addr} {c : Nat} {i d e : Int} {w : World} {l : List S91} (h : Ps w g A l.length c i d e) (hC : Kd.C k91 w A l.length l) (h0 : 0 ≤ i) (hk : (tokP l i e).f0 ≠ 1) :
    Calls Try.prog 194 #[.pointer (some ⟨g, 0, none⟩)] w fun r w' => r = .returned (.string ⟨#[]⟩) ∧ Ps w' g A l.length c i d (flE e 1) ∧ Chg g w w' := by
  have T := Lib.hid (tok_any h hC h0)
  have HL := Lib.hid (show g < w.heap.size from h.lt)
  have H := Lib.hid h
  clear h hC
  generalize tokP l i e = t at *
  have q2 : (t.f0 != 1) = true := bne_iff_ne.2 hk
  clear hk
  go_enter Try.func194, Try.ntmps194
  go_wp2_with (first | ((with_reducible refine gate_callee (f := 81) rfl ?_); refine goesL_ (some 5) rfl rfl Try.func81 (by kernel_rfl) rfl #[.pointer (some ⟨g, 0, none⟩)] rfl (by (try simp only [List.map_toArray, List.map_cons, List.map_nil]); first | done | rfl) ?_; refine (T.out).mono ?_; rintro r' w1 ⟨rfl, hb1⟩; refine ⟨_, rfl, ?_⟩; simp only [Act.put, sa_, sz_, ss_]; have H1 := Lib.hid (H.out.below hb1); have HB := Lib.hid hb1; clear hb1) | (((with_reducible refine gate_dst (N := 3) rfl ?_); refine box_event ?hg (N := 3) ?hd (cs := #[.int .i64 0, .string (⟨#[]⟩ : ByteArray), .int .i64 0, .int .i64 0]) (t := 91) ?hr ?_; (case hd => rfl); (case hg => rfl); (case hr => first | (go_simp; done) | (go_simp; rfl)); intro gb hg_ w2 hb_ hl_; have BKgb := am_ hb_; have HLgb := am_ hl_; have HGgb := am_ (Nat.le_of_eq hg_.symm); obtain ⟨zgb_0, zgb_1, zgb_2, zgb_3, ygb_0, ygb_1, ygb_2, ygb_3⟩ := bw4_ hb_; clear hb_ hl_ hg_; simp only [Act.put, sa_, sz_, ss_]); have HN := am_ (ne_of_le H1.out.lt HGgb.out); have H3 := Lib.hid (H1.out.below HLgb.out)) | (go_at_call 82; refine (fail_any (A := A) (n := l.length) (c := c) (i := i) (d := d) (e := e) ?hp 1).mono ?_; (case hp => repeat (first | (with_reducible exact H3.out) | refine Ps.far ?_ HN.out _)); rintro r' w3 ⟨rfl, hp3, hc3⟩))
  have HY := am_ (Nat.le_trans HB.out.size HGgb.out); have HZ := am_ (Nat.le_trans (Nat.le_of_lt HL.out) HY.out)
  have HQ := am_ ((Chg.below HL.out HB.out).trans (Chg.below H1.out.lt HLgb.out))
  go_ret
  refine ⟨rfl, hp3, Chg.trans ?_ hc3⟩
  repeat (first | (with_reducible exact HQ.out) | refine Chg.far ?_ HY.out HZ.out _ _)
theorem field91 (w : World) (x y z : Int) (s : ByteArray) : (Instr.field 91 (.agg #[.int .i64 x, .string s, .int .i64 y, .int .i64 z]) 0).run Try.prog w = .ok (.int .i64 x) w := by kernel_rfl
theorem tok_agg {g : Nat} {A : Option Addr} {c : Nat} {i d e : Int} {w : World} {l : List S91} (h : Ps w g A l.length c i d e) (hC : Kd.C k91 w A l.length l) (h0 : 0 ≤ i) (t : S91) (ht : tokP l i e = t) :
    Calls Try.prog 81 #[.pointer (some ⟨g, 0, none⟩)] w fun r w' => r = .returned (.agg #[.int .i64 t.f0, .string t.f1, .int .i64 t.f2, .int .i64 t.f3]) ∧ Below w.heap.size w w' := ht ▸ tok_any h hC h0
theorem end_err {g : Nat} {A : Option Addr} {n c : Nat} {i d e : Int} {w : World} (h : Ps w g A n c i d e) (he : e ≠ 0) :
    Calls Try.prog 42 #[.pointer (some ⟨g, 0, none⟩)] w fun r w' => r = .returned (.tuple #[]) ∧ Ps w' g A n c i d e ∧ Chg g w w' := by
  have HE := Lib.hid he; have H := Lib.hid h; clear he h
  go_enter Try.func42, Try.ntmps42
  go_wp2_with (go_at_call 43; refine (ok_no H.out HE.out).mono ?_; rintro r' w4 ⟨rfl, rfl⟩)
  go_end0
  exact ⟨rfl, H.out, Chg.refl _ _⟩
theorem end_ok {g : Nat} {A : Option Addr} {c : Nat} {i d : Int} {w : World} {l : List S91} (h : Ps w g A l.length c i d 0) (hC : Kd.C k91 w A l.length l) (h0 : 0 ≤ i) (hk : (tokP l i 0).f0 = 0) :
    Calls Try.prog 42 #[.pointer (some ⟨g, 0, none⟩)] w fun r w' => r = .returned (.tuple #[]) ∧ Ps w' g A l.length c i d 0 ∧ Chg g w w' := by
  obtain ⟨t, ht⟩ : ∃ t, tokP l i 0 = t := ⟨_, rfl⟩
  have T := Lib.hid (tok_agg h hC h0 t ht)
  rw [ht] at hk
  have HL := Lib.hid (show g < w.heap.size from h.lt)
  have H := Lib.hid h
  have q2 : (t.f0 != 0) = false := by rw [hk]; rfl
  clear h hC ht hk
  have hu91 := field91
  go_enter Try.func42, Try.ntmps42
  go_wp2_with (first | (go_at_call 43; refine (ok_yes H.out).mono ?_; rintro r' w4 ⟨rfl, rfl⟩) | (go_at_call 81; refine T.out.mono ?_; rintro r' w1 ⟨rfl, hb1⟩; have H1 := Lib.hid (H.out.below hb1); have HB := Lib.hid hb1; clear hb1))
  go_end0
  exact ⟨rfl, H1.out, Chg.below HL.out HB.out⟩
theorem end_no {g : Nat} {A : Option Addr} {c : Nat} {i d : Int} {w : World} {l : List S91} (h : Ps w g A l.length c i d 0) (hC : Kd.C k91 w A l.length l) (h0 : 0 ≤ i) (hk : (tokP l i 0).f0 ≠ 0) :
    Calls Try.prog 42 #[.pointer (some ⟨g, 0, none⟩)] w fun r w' => r = .returned (.tuple #[]) ∧ Ps w' g A l.length c i d 1 ∧ Chg g w w' := by
  obtain ⟨t, ht⟩ : ∃ t, tokP l i 0 = t := ⟨_, rfl⟩
  have T := Lib.hid (tok_agg h hC h0 t ht)
  rw [ht] at hk
  have HL := Lib.hid (show g < w.heap.size from h.lt)
  have H := Lib.hid h
  have q2 : (t.f0 != 0) = true := bne_iff_ne.2 hk
  clear h hC ht hk
  have hu91 := field91
  go_enter Try.func42, Try.ntmps42
  go_wp2_with (first | (go_at_call 43; refine (ok_yes H.out).mono ?_; rintro r' w4 ⟨rfl, rfl⟩) | (go_at_call 81; refine T.out.mono ?_; rintro r' w1 ⟨rfl, hb1⟩; have H1 := Lib.hid (H.out.below hb1); have HB := Lib.hid hb1; clear hb1) | (go_at_call 82; refine (fail_any H1.out 1).mono ?_; rintro r' w2 ⟨rfl, hp2, hc2⟩))
  go_end0
  exact ⟨rfl, hp2, (Chg.below HL.out HB.out).trans hc2⟩
end Go.Proofs.Ytcfgjaggccnoaaa.PParseSmall
