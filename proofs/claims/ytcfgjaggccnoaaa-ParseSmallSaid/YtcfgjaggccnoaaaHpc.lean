import Derived.Test.YtcfgjaggccnoaaaHpb
namespace Go.Proofs.Ytcfgjaggccnoaaa.PParseSmall
open Go.RowKit Go.Proofs.YtcfgjaggccnoaaaW.PrintWords Go.Proofs.YtcfgjaggccnoaaaW.PrintLast Go.Proofs.YtcfgjaggccnoaaaW.PrintMore
attribute [local go_sem] max2_int min2_int max_two min_two max_three min_three max_four min_four
set_option linter.unusedVariables false
set_option linter.unusedSimpArgs false
set_option maxRecDepth 100000
set_option maxHeartbeats 4000000
def isT (t : S91) (s : ByteArray) : Bool := (t.f0 == 2 || t.f0 == 5) && (t.f1.toList == s.toList)
def isP (l : List S91) (i e : Int) (s : ByteArray) : Bool := e == 0 && isT (tokP l i e) s
theorem ne_of_le {a b c : Nat} (h : a < b) (k : b ≤ c) : c ≠ a := by omega
theorem is_any {g : Nat} {A : Option Addr} {c : Nat} {i d e : Int} {w : World} {l : List S91} (h : Ps w g A l.length c i d e) (hC : Kd.C k91 w A l.length l) (h0 : 0 ≤ i) (s : ByteArray) :
    Calls Try.prog 148 #[.pointer (some ⟨g, 0, none⟩), .string s] w fun r w' => r = .returned (.bool (isP l i e s)) ∧ Below w.heap.size w w' := by
  have T := Lib.hid (tok_any h hC h0)
  unfold isP
  generalize tokP l i e = t at *
  have H := Lib.hid h; clear h hC h0
  by_cases he : e = 0
  · subst he
    by_cases k2 : t.f0 = 2
    · have q2 : (t.f0 == 2) = true := beq_iff_eq.2 k2
      have r2 : isT t s = (t.f1.toList == s.toList) := by unfold isT; rw [q2]; rfl
      have R := am_ r2; clear r2 k2
      go_enter Try.func148, Try.ntmps148
      go_wp2_with (first | ((with_reducible refine gate_callee (f := 81) rfl ?_); refine goesL_ (some 7) rfl rfl Try.func81 (by kernel_rfl) rfl #[.pointer (some ⟨g, 0, none⟩)] rfl (by (try simp only [List.map_toArray, List.map_cons, List.map_nil]); first | done | rfl) ?_; refine (T.out).mono ?_; rintro r' w1 ⟨rfl, hb1⟩; refine ⟨_, rfl, ?_⟩; simp only [Act.put, sa_, sz_, ss_]) | (((with_reducible refine gate_dst (N := 5) rfl ?_); refine box_event ?hg (N := 5) ?hd (cs := #[.int .i64 0, .string (⟨#[]⟩ : ByteArray), .int .i64 0, .int .i64 0]) (t := 91) ?hr ?_; (case hd => rfl); (case hg => rfl); (case hr => first | (go_simp; done) | (go_simp; rfl)); intro gb hg_ w2 hb_ hl_; have BKgb := am_ hb_; have HLgb := am_ hl_; have HGgb := am_ (Nat.le_of_eq hg_.symm); obtain ⟨zgb_0, zgb_1, zgb_2, zgb_3, ygb_0, ygb_1, ygb_2, ygb_3⟩ := bw4_ hb_; clear hb_ hl_ hg_; simp only [Act.put, sa_, sz_, ss_])) | (go_at_call 43; have H1 := H.out.below hb1; have HN := am_ (ne_of_le H1.lt HGgb.out); have H2 := am_ (H1.below HLgb.out); refine (ok_yes (A := A) (n := l.length) (c := c) (i := i) (d := d) ?hp).mono ?_; (case hp => repeat (first | (with_reducible exact H2.out) | refine Ps.far ?_ HN.out _)); rintro r' w4 ⟨rfl, rfl⟩))
      have HX := am_ (hb1.trans (HLgb.out.mono hb1.size)); have HY := am_ (Nat.le_trans hb1.size HGgb.out)
      go_ret
      exact ⟨by rw [R.out]; rfl, by repeat (first | (with_reducible exact HX.out) | refine below_set ?_ HY.out)⟩
    · have q2 : (t.f0 == 2) = false := beq_eq_false_iff_ne.2 k2
      by_cases k5 : t.f0 = 5
      · have q5 : (t.f0 == 5) = true := beq_iff_eq.2 k5
        have r2 : isT t s = (t.f1.toList == s.toList) := by unfold isT; rw [q2, q5]; rfl
        have R := am_ r2; clear r2 k2 k5
        go_enter Try.func148, Try.ntmps148
        go_wp2_with (first | ((with_reducible refine gate_callee (f := 81) rfl ?_); refine goesL_ (some 7) rfl rfl Try.func81 (by kernel_rfl) rfl #[.pointer (some ⟨g, 0, none⟩)] rfl (by (try simp only [List.map_toArray, List.map_cons, List.map_nil]); first | done | rfl) ?_; refine (T.out).mono ?_; rintro r' w1 ⟨rfl, hb1⟩; refine ⟨_, rfl, ?_⟩; simp only [Act.put, sa_, sz_, ss_]) | (((with_reducible refine gate_dst (N := 5) rfl ?_); refine box_event ?hg (N := 5) ?hd (cs := #[.int .i64 0, .string (⟨#[]⟩ : ByteArray), .int .i64 0, .int .i64 0]) (t := 91) ?hr ?_; (case hd => rfl); (case hg => rfl); (case hr => first | (go_simp; done) | (go_simp; rfl)); intro gb hg_ w2 hb_ hl_; have BKgb := am_ hb_; have HLgb := am_ hl_; have HGgb := am_ (Nat.le_of_eq hg_.symm); obtain ⟨zgb_0, zgb_1, zgb_2, zgb_3, ygb_0, ygb_1, ygb_2, ygb_3⟩ := bw4_ hb_; clear hb_ hl_ hg_; simp only [Act.put, sa_, sz_, ss_])) | (go_at_call 43; have H1 := H.out.below hb1; have HN := am_ (ne_of_le H1.lt HGgb.out); have H2 := am_ (H1.below HLgb.out); refine (ok_yes (A := A) (n := l.length) (c := c) (i := i) (d := d) ?hp).mono ?_; (case hp => repeat (first | (with_reducible exact H2.out) | refine Ps.far ?_ HN.out _)); rintro r' w4 ⟨rfl, rfl⟩))
        have HX := am_ (hb1.trans (HLgb.out.mono hb1.size)); have HY := am_ (Nat.le_trans hb1.size HGgb.out)
        go_ret
        exact ⟨by rw [R.out]; rfl, by repeat (first | (with_reducible exact HX.out) | refine below_set ?_ HY.out)⟩
      · have q5 : (t.f0 == 5) = false := beq_eq_false_iff_ne.2 k5
        have r2 : isT t s = false := by unfold isT; rw [q2, q5]; rfl
        have R := am_ r2; clear r2 k2 k5
        go_enter Try.func148, Try.ntmps148
        go_wp2_with (first | ((with_reducible refine gate_callee (f := 81) rfl ?_); refine goesL_ (some 7) rfl rfl Try.func81 (by kernel_rfl) rfl #[.pointer (some ⟨g, 0, none⟩)] rfl (by (try simp only [List.map_toArray, List.map_cons, List.map_nil]); first | done | rfl) ?_; refine (T.out).mono ?_; rintro r' w1 ⟨rfl, hb1⟩; refine ⟨_, rfl, ?_⟩; simp only [Act.put, sa_, sz_, ss_]) | (((with_reducible refine gate_dst (N := 5) rfl ?_); refine box_event ?hg (N := 5) ?hd (cs := #[.int .i64 0, .string (⟨#[]⟩ : ByteArray), .int .i64 0, .int .i64 0]) (t := 91) ?hr ?_; (case hd => rfl); (case hg => rfl); (case hr => first | (go_simp; done) | (go_simp; rfl)); intro gb hg_ w2 hb_ hl_; have BKgb := am_ hb_; have HLgb := am_ hl_; have HGgb := am_ (Nat.le_of_eq hg_.symm); obtain ⟨zgb_0, zgb_1, zgb_2, zgb_3, ygb_0, ygb_1, ygb_2, ygb_3⟩ := bw4_ hb_; clear hb_ hl_ hg_; simp only [Act.put, sa_, sz_, ss_])) | (go_at_call 43; have H1 := H.out.below hb1; have HN := am_ (ne_of_le H1.lt HGgb.out); have H2 := am_ (H1.below HLgb.out); refine (ok_yes (A := A) (n := l.length) (c := c) (i := i) (d := d) ?hp).mono ?_; (case hp => repeat (first | (with_reducible exact H2.out) | refine Ps.far ?_ HN.out _)); rintro r' w4 ⟨rfl, rfl⟩))
        have HX := am_ (hb1.trans (HLgb.out.mono hb1.size)); have HY := am_ (Nat.le_trans hb1.size HGgb.out)
        go_ret
        exact ⟨by rw [R.out]; rfl, by repeat (first | (with_reducible exact HX.out) | refine below_set ?_ HY.out)⟩
  · have HE := am_ he
    have r2 : (e == 0 && isT t s) = false := by rw [beq_eq_false_iff_ne.2 he]; rfl
    have R := am_ r2; clear r2 he
    go_enter Try.func148, Try.ntmps148
    go_wp2_with (first | ((with_reducible refine gate_callee (f := 81) rfl ?_); refine goesL_ (some 7) rfl rfl Try.func81 (by kernel_rfl) rfl #[.pointer (some ⟨g, 0, none⟩)] rfl (by (try simp only [List.map_toArray, List.map_cons, List.map_nil]); first | done | rfl) ?_; refine (T.out).mono ?_; rintro r' w1 ⟨rfl, hb1⟩; refine ⟨_, rfl, ?_⟩; simp only [Act.put, sa_, sz_, ss_]) | (((with_reducible refine gate_dst (N := 5) rfl ?_); refine box_event ?hg (N := 5) ?hd (cs := #[.int .i64 0, .string (⟨#[]⟩ : ByteArray), .int .i64 0, .int .i64 0]) (t := 91) ?hr ?_; (case hd => rfl); (case hg => rfl); (case hr => first | (go_simp; done) | (go_simp; rfl)); intro gb hg_ w2 hb_ hl_; have BKgb := am_ hb_; have HLgb := am_ hl_; have HGgb := am_ (Nat.le_of_eq hg_.symm); obtain ⟨zgb_0, zgb_1, zgb_2, zgb_3, ygb_0, ygb_1, ygb_2, ygb_3⟩ := bw4_ hb_; clear hb_ hl_ hg_; simp only [Act.put, sa_, sz_, ss_])) | (go_at_call 43; have H1 := H.out.below hb1; have HN := am_ (ne_of_le H1.lt HGgb.out); have H2 := am_ (H1.below HLgb.out); refine (ok_no (A := A) (n := l.length) (c := c) (i := i) (d := d) (e := e) ?hp HE.out).mono ?_; (case hp => repeat (first | (with_reducible exact H2.out) | refine Ps.far ?_ HN.out _)); rintro r' w4 ⟨rfl, rfl⟩))
    have HX := am_ (hb1.trans (HLgb.out.mono hb1.size)); have HY := am_ (Nat.le_trans hb1.size HGgb.out)
    go_ret
    exact ⟨by rw [R.out]; rfl, by repeat (first | (with_reducible exact HX.out) | refine below_set ?_ HY.out)⟩
theorem take_yes {g : Nat} {A : Option Addr} {c : Nat} {i d e : Int} {w : World} {l : List S91} (h : Ps w g A l.length c i d e) (hC : Kd.C k91 w A l.length l) (h0 : 0 ≤ i) (h1 : i ≤ l.length) (hl : l.length ≤ 1000000) (s : ByteArray) (hs : isP l i e s = true) :
    Calls Try.prog 121 #[.pointer (some ⟨g, 0, none⟩), .string s] w fun r w' => r = .returned (.bool true) ∧ Ps w' g A l.length c (i + 1) d e ∧ Chg g w w' := by
  have T := Lib.hid (is_any h hC h0 s); rw [hs] at T
  have HL := Lib.hid (show g < w.heap.size from h.lt)
  have H := Lib.hid h; have h2 : i ≤ 1000000 := by omega
  clear h hC hs h1 hl
  go_enter Try.func121, Try.ntmps121
  go_wp2_with (((with_reducible refine gate_callee (f := 148) rfl ?_); refine goesL_ (some 7) rfl rfl Try.func148 (by kernel_rfl) rfl #[.pointer (some ⟨g, 0, none⟩), .string s] rfl (by (try simp only [List.map_toArray, List.map_cons, List.map_nil]); first | done | rfl) ?_; refine (T.out).mono ?_; rintro r' w1 ⟨rfl, hb1⟩; refine ⟨_, rfl, ?_⟩; simp only [Act.put, sa_, sz_, ss_]; have H1 := H.out.below hb1; have HB := Lib.hid hb1; clear hb1; obtain ⟨c0, c1, c2, c3, f0, f1, f2, f3⟩ := bw4_ H1; have H2 := Lib.hid (H1.at_ (i + 1)); clear H1))
  go_ret
  exact ⟨rfl, H2.out, (Chg.below HL.out HB.out).set 1 _⟩
theorem take_no {g : Nat} {A : Option Addr} {c : Nat} {i d e : Int} {w : World} {l : List S91} (h : Ps w g A l.length c i d e) (hC : Kd.C k91 w A l.length l) (h0 : 0 ≤ i) (s : ByteArray) (hs : isP l i e s = false) :
    Calls Try.prog 121 #[.pointer (some ⟨g, 0, none⟩), .string s] w fun r w' => r = .returned (.bool false) ∧ Ps w' g A l.length c i d e ∧ Chg g w w' := by
  have T := Lib.hid (is_any h hC h0 s); rw [hs] at T
  have HL := Lib.hid (show g < w.heap.size from h.lt)
  have H := Lib.hid h; clear h hC hs
  go_enter Try.func121, Try.ntmps121
  go_wp2_with (((with_reducible refine gate_callee (f := 148) rfl ?_); refine goesL_ (some 7) rfl rfl Try.func148 (by kernel_rfl) rfl #[.pointer (some ⟨g, 0, none⟩), .string s] rfl (by (try simp only [List.map_toArray, List.map_cons, List.map_nil]); first | done | rfl) ?_; refine (T.out).mono ?_; rintro r' w1 ⟨rfl, hb1⟩; refine ⟨_, rfl, ?_⟩; simp only [Act.put, sa_, sz_, ss_]))
  go_wp2
  go_ret
  exact ⟨rfl, H.out.below hb1, Chg.below HL.out hb1⟩
theorem must_yes {g : Nat} {A : Option Addr} {c : Nat} {i d e : Int} {w : World} {l : List S91} (h : Ps w g A l.length c i d e) (hC : Kd.C k91 w A l.length l) (h0 : 0 ≤ i) (h1 : i ≤ l.length) (hl : l.length ≤ 1000000) (s : ByteArray) (hs : isP l i e s = true) :
    Calls Try.prog 160 #[.pointer (some ⟨g, 0, none⟩), .string s] w fun r w' => r = .returned (.tuple #[]) ∧ Ps w' g A l.length c (i + 1) d e ∧ Chg g w w' := by
  have T := Lib.hid (take_yes h hC h0 h1 hl s hs); clear h hC hs
  go_enter Try.func160, Try.ntmps160
  go_wp2_with (((with_reducible refine gate_callee (f := 121) rfl ?_); refine goesL_ (some 6) rfl rfl Try.func121 (by kernel_rfl) rfl #[.pointer (some ⟨g, 0, none⟩), .string s] rfl (by (try simp only [List.map_toArray, List.map_cons, List.map_nil]); first | done | rfl) ?_; refine (T.out).mono ?_; rintro r' w1 ⟨rfl, hp, hc⟩; refine ⟨_, rfl, ?_⟩; simp only [Act.put, sa_, sz_, ss_]))
  go_wp2
  go_end0
  exact ⟨rfl, hp, hc⟩
theorem must_no {g : Nat} {A : Option Addr} {c : Nat} {i d e : Int} {w : World} {l : List S91} (h : Ps w g A l.length c i d e) (hC : Kd.C k91 w A l.length l) (h0 : 0 ≤ i) (s : ByteArray) (hs : isP l i e s = false) :
    Calls Try.prog 160 #[.pointer (some ⟨g, 0, none⟩), .string s] w fun r w' => r = .returned (.tuple #[]) ∧ Ps w' g A l.length c i d (flE e 1) ∧ Chg g w w' := by
  have T := Lib.hid (take_no h hC h0 s hs); clear h hC hs
  go_enter Try.func160, Try.ntmps160
  go_wp2_with (first | ((with_reducible refine gate_callee (f := 121) rfl ?_); refine goesL_ (some 6) rfl rfl Try.func121 (by kernel_rfl) rfl #[.pointer (some ⟨g, 0, none⟩), .string s] rfl (by (try simp only [List.map_toArray, List.map_cons, List.map_nil]); first | done | rfl) ?_; refine (T.out).mono ?_; rintro r' w1 ⟨rfl, hp, hc⟩; refine ⟨_, rfl, ?_⟩; simp only [Act.put, sa_, sz_, ss_]) | (go_at_call 82; refine (fail_any hp 1).mono ?_; rintro r' w2 ⟨rfl, hp2, hc2⟩))
  go_end0
  exact ⟨rfl, hp2, hc.trans hc2⟩
end Go.Proofs.Ytcfgjaggccnoaaa.PParseSmall
