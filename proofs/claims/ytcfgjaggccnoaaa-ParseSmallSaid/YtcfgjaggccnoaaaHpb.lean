import Derived.Test.YtcfgjaggccnoaaaHpb0
namespace Go.Proofs.Ytcfgjaggccnoaaa.PParseSmall
open Go.RowKit Go.Proofs.YtcfgjaggccnoaaaW.PrintWords Go.Proofs.YtcfgjaggccnoaaaW.PrintLast Go.Proofs.YtcfgjaggccnoaaaW.PrintMore
attribute [local go_sem] max2_int min2_int max_two min_two max_three min_three max_four min_four
set_option linter.unusedVariables false
set_option linter.unusedSimpArgs false
set_option maxRecDepth 100000
set_option maxHeartbeats 4000000
theorem tok_err {g : Nat} {A : Option Addr} {n c : Nat} {i d e : Int} {w : World} (h : Ps w g A n c i d e) (he : e ≠ 0) :
    Calls Try.prog 81 #[.pointer (some ⟨g, 0, none⟩)] w fun r w' => r = .returned (tkV ⟨0, ⟨#[]⟩, 0, 0⟩) ∧ Below w.heap.size w w' := by
  have HE := Lib.hid he; clear he
  have H := Lib.hid h; clear h
  go_enter Try.func81, Try.ntmps81
  go_wp2_with (((with_reducible refine gate_dst (N := 2) rfl ?_); refine box_event ?hg (N := 2) ?hd (cs := #[.int .i64 0, .string (⟨#[]⟩ : ByteArray), .int .i64 0, .int .i64 0]) (t := 91) ?hr ?_; (case hd => rfl); (case hg => rfl); (case hr => first | (go_simp; done) | (go_simp; rfl)); intro gb hg_ w1 hb_ hl_; have BKgb := am_ hb_; have HLgb := am_ hl_; have HGgb := am_ (Nat.le_of_eq hg_.symm); obtain ⟨zgb_0, zgb_1, zgb_2, zgb_3, ygb_0, ygb_1, ygb_2, ygb_3⟩ := bw4_ hb_; clear hb_ hl_ hg_; simp only [Act.put, sa_, sz_, ss_]))
  have H1 := Lib.hid (H.out.below HLgb.out); have HL := HLgb
  obtain ⟨c0, c1, c2, c3, f0, f1, f2, f3⟩ := bw4_ H1.out
  have HG := HGgb
  go_quiet ((go_at_call 43; exact Calls.quiet_of_same (ok_no (H1.out.drewN _) HE.out)))
  go_wp2
  exact bodyPost_ret (results_cell_row rfl _ _ gb 91 #[.int .i64 0, .string (⟨#[]⟩ : ByteArray), .int .i64 0, .int .i64 0] (0, 0) _ rfl (put4_ BKgb.out) Try.underlying91 rfl (by kernel_rfl)) rfl ⟨rfl, by repeat (first | (with_reducible exact HL.out) | refine below_set ?_ HG.out | apply pw_below_drewN)⟩
theorem tok_end {g : Nat} {A : Option Addr} {n c : Nat} {i d : Int} {w : World} (h : Ps w g A n c i d 0) (hi : (n : Int) ≤ i) :
    Calls Try.prog 81 #[.pointer (some ⟨g, 0, none⟩)] w fun r w' => r = .returned (tkV ⟨0, ⟨#[]⟩, 0, 0⟩) ∧ Below w.heap.size w w' := by
  have hd : decide ((n : Int) ≤ i) = true := decide_eq_true hi
  have H := Lib.hid h; clear h
  go_enter Try.func81, Try.ntmps81
  go_wp2_with (((with_reducible refine gate_dst (N := 2) rfl ?_); refine box_event ?hg (N := 2) ?hd (cs := #[.int .i64 0, .string (⟨#[]⟩ : ByteArray), .int .i64 0, .int .i64 0]) (t := 91) ?hr ?_; (case hd => rfl); (case hg => rfl); (case hr => first | (go_simp; done) | (go_simp; rfl)); intro gb hg_ w1 hb_ hl_; have BKgb := am_ hb_; have HLgb := am_ hl_; have HGgb := am_ (Nat.le_of_eq hg_.symm); obtain ⟨zgb_0, zgb_1, zgb_2, zgb_3, ygb_0, ygb_1, ygb_2, ygb_3⟩ := bw4_ hb_; clear hb_ hl_ hg_; simp only [Act.put, sa_, sz_, ss_]))
  have H1 := Lib.hid (H.out.below HLgb.out); have HL := HLgb
  obtain ⟨c0, c1, c2, c3, f0, f1, f2, f3⟩ := bw4_ H1.out
  have HG := HGgb
  go_quiet ((go_at_call 43; exact Calls.quiet_of_same (ok_yes (H1.out.drewN _))))
  go_wp2
  exact bodyPost_ret (results_cell_row rfl _ _ gb 91 #[.int .i64 0, .string (⟨#[]⟩ : ByteArray), .int .i64 0, .int .i64 0] (0, 0) _ rfl (put4_ BKgb.out) Try.underlying91 rfl (by kernel_rfl)) rfl ⟨rfl, by repeat (first | (with_reducible exact HL.out) | refine below_set ?_ HG.out | apply pw_below_drewN)⟩
theorem tok_in {g n : Nat} {A : Option Addr} {c : Nat} {i d : Int} {w : World} {l : List S91} (h : Ps w g A n c i d 0) (hC : Kd.C k91 w A n l) (h0 : 0 ≤ i) (hi : i < (n : Int)) :
    Calls Try.prog 81 #[.pointer (some ⟨g, 0, none⟩)] w fun r w' => r = .returned (tkV (rd_T91 l i)) ∧ Below w.heap.size w w' := by
  have hd : decide ((n : Int) ≤ i) = false := decide_eq_false (by omega)
  have H := Lib.hid h; have HC := Lib.hid hC; clear h hC
  go_enter Try.func81, Try.ntmps81
  go_wp2_with (((with_reducible refine gate_dst (N := 2) rfl ?_); refine box_event ?hg (N := 2) ?hd (cs := #[.int .i64 0, .string (⟨#[]⟩ : ByteArray), .int .i64 0, .int .i64 0]) (t := 91) ?hr ?_; (case hd => rfl); (case hg => rfl); (case hr => first | (go_simp; done) | (go_simp; rfl)); intro gb hg_ w1 hb_ hl_; have BKgb := am_ hb_; have HLgb := am_ hl_; have HGgb := am_ (Nat.le_of_eq hg_.symm); obtain ⟨zgb_0, zgb_1, zgb_2, zgb_3, ygb_0, ygb_1, ygb_2, ygb_3⟩ := bw4_ hb_; clear hb_ hl_ hg_; simp only [Act.put, sa_, sz_, ss_]))
  have H1 := Lib.hid (H.out.below HLgb.out)
  obtain ⟨ad, rfl, t0, t1, t2, t3⟩ := at_T91 (Kd.C_old HC.out HLgb.out) i h0 hi
  have HL := HLgb
  obtain ⟨c0, c1, c2, c3, f0, f1, f2, f3⟩ := bw4_ H1.out
  have HG := HGgb
  go_quiet ((go_at_call 43; exact Calls.quiet_of_same (ok_yes (H1.out.drewN _))))
  go_wp2
  have H2 := H1.out.drewN nq; have HL2 := pw_below_drewN HL.out nq; have B2 := blk_drewN BKgb.out nq
  obtain ⟨ad2, e2, t0', t1', t2', t3'⟩ := at_T91 (Kd.C_old HC.out HL2) i h0 hi
  obtain rfl : ad = ad2 := by injection e2
  clear c0 c1 c2 c3 f0 f1 f2 f3 zgb_0 zgb_1 zgb_2 zgb_3 ygb_0 ygb_1 ygb_2 ygb_3 t0 t1 t2 t3 H1 HL BKgb HLgb e2
  generalize w1.drewN nq = w2 at *
  have H3 := Lib.hid H2; have HL3 := Lib.hid HL2; clear H2 HL2
  obtain ⟨c0, c1, c2, c3, f0, f1, f2, f3⟩ := bw4_ H3.out
  obtain ⟨b0, b1, b2, b3, k0, k1, k2, k3⟩ := bw4_ B2
  go_still_tail 10, (by kernel_rfl)
  change wpList _ _ _ _ _ w2.drew
  go_wp2
  exact bodyPost_ret (results_cell_row rfl _ _ gb 91 #[.int .i64 (rd_T91 l i).f0, .string (rd_T91 l i).f1, .int .i64 (rd_T91 l i).f2, .int .i64 (rd_T91 l i).f3] (0, 0) _ rfl (put4_ (blk_drew B2)) Try.underlying91 rfl (by kernel_rfl)) rfl ⟨rfl, by repeat (first | (with_reducible exact HL3.out) | refine below_set ?_ HG.out | apply pw_below_drewN | refine Below.drew ?_)⟩
theorem tok_any {g : Nat} {A : Option Addr} {c : Nat} {i d e : Int} {w : World} {l : List S91} (h : Ps w g A l.length c i d e) (hC : Kd.C k91 w A l.length l) (h0 : 0 ≤ i) :
    Calls Try.prog 81 #[.pointer (some ⟨g, 0, none⟩)] w fun r w' => r = .returned (tkV (tokP l i e)) ∧ Below w.heap.size w w' := by
  unfold tokP
  by_cases he : e = 0
  · subst he
    by_cases hi : i < l.length
    · rw [if_pos ⟨rfl, hi⟩]
      exact tok_in h hC h0 hi
    · rw [if_neg (fun q => hi q.2)]
      exact tok_end h (by omega)
  · rw [if_neg (fun q => he q.1)]
    exact tok_err h he
end Go.Proofs.Ytcfgjaggccnoaaa.PParseSmall
