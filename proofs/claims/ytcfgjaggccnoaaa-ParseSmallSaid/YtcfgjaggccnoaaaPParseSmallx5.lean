import Derived.Test.YtcfgjaggccnoaaaPParseSmallx0
import Derived.Test.YtcfgjaggccnoaaaPParseSmallx4
namespace Go.Proofs.Ytcfgjaggccnoaaa.PParseSmall
open Go.RowKit Go.Proofs.YtcfgjaggccnoaaaW.PrintWords Go.Proofs.YtcfgjaggccnoaaaW.PrintLast Go.Proofs.YtcfgjaggccnoaaaW.PrintMore
attribute [local go_sem] max2_int min2_int max_two min_two max_three min_three max_four min_four
set_option linter.unusedVariables false
set_option maxHeartbeats 8000000
set_option linter.unusedSimpArgs false
set_option maxRecDepth 100000

def parse_parser_down.f (s0_0 : List (S91)) (s0_1 : Int) (s0_2 : Int) (s0_3 : Int) : Option (Int × Int × Int) := if (wrap64 (s0_2 + 1)) > 50 then ((parse_parser_fail.f s0_0 s0_1 (wrap64 (s0_2 + 1)) s0_3 4).bind fun bt171 => (some (bt171.1, bt171.2.1, bt171.2.2))) else (some (s0_1, wrap64 (s0_2 + 1), s0_3))
theorem parse_parser_down.calls (g : Nat) (s0_0 : List (S91)) (s0_1 : Int) (s0_2 : Int) (s0_3 : Int) (r1 : Int) (r2 : Int) (r3 : Int) (w0 w : World) (hI : IsS89 w0 w g s0_0 s0_1 s0_2 s0_3) (hB : Below w0.heap.size w0 w) (h : parse_parser_down.f s0_0 s0_1 s0_2 s0_3 = some (r1, r2, r3)) :
  Calls Try.prog 151 #[.pointer (some ⟨g, 0, none⟩)] w fun e w' => e = .returned (.tuple #[]) ∧ IsS89 w0 w' g s0_0 r1 r2 r3 ∧ Below w0.heap.size w0 w' ∧ KeepBut w w' g none := by
 have HI0 := am_ hI; have HK := am_ (KeepBut.refl w g none); have HL := am_ hB.size; clear hI; have HW0 := am_ hB.size; have HB := am_ hB; clear hB; have H : (if (wrap64 (s0_2 + 1)) > 50 then ((parse_parser_fail.f s0_0 s0_1 (wrap64 (s0_2 + 1)) s0_3 4).bind fun bt171 => (some (bt171.1, bt171.2.1, bt171.2.2))) else (some (s0_1, wrap64 (s0_2 + 1), s0_3))) = some (r1, r2, r3) := h; clear h
 by_cases c2 : (wrap64 (s0_2 + 1)) > 50
 ·rw [if_pos c2] at H
  have c2b0 : decide (50 < (wrap64 (s0_2 + 1))) = true := decide_eq_true c2; clear c2; replace H := Option.bind_eq_some_iff.mp H; obtain ⟨⟨t171, t172, t173⟩, A30, H⟩ := H; replace H : (some (t171, t172, t173)) = some (r1, r2, r3) := H; have A3 := am_ A30; clear A30; simp only [Option.some.injEq, Prod.mk.injEq] at H; obtain ⟨rfl, rfl, rfl⟩ := H; obtain ⟨ASz4_0, cSz4_0, HGz4, hgz4, HSz4_0⟩ := HI0.out; have hcz4_0 := cellS89_0 HGz4; have hcz4_1 := cellS89_1 HGz4; have hcz4_2 := cellS89_2 HGz4; have hcz4_3 := cellS89_3 HGz4; have hfz4_1 := blk_frozen HGz4 1; have hfz4_2 := blk_frozen HGz4 2; have hfz4_3 := blk_frozen HGz4 3; clear HGz4 hgz4
  go_enter Try.func151, Try.ntmps151
  go_wp2_with (first | ((with_reducible refine gate_callee (f := 82) rfl ?_); refine goesL_ (some 15) rfl rfl Try.func82 (by kernel_rfl) rfl #[.pointer (some ⟨g, 0, none⟩), .int .i64 4] rfl (by (try simp only [List.map_toArray, List.map_cons, List.map_nil]); first | done | rfl | (simp only [List.length_drop, List.length_take]; rfl)) ?_; (with_reducible refine (parse_parser_fail.calls g s0_0 s0_1 (wrap64 (s0_2 + 1)) s0_3 4 t171 t172 t173 w0 _ ?side1 ?side2 A3.out).mono ?_); (case side1 => repeat (first | (with_reducible first | exact HI0.out | apply IsS89.alloc | apply IsS89.drewN | apply IsS89.drew | apply IsS89.set_1 | apply IsS89.set_2 | apply IsS89.set_3) | exact HI0.out)); (case side2 => repeat (first | (with_reducible first | exact HB.out | apply below_alloc | apply pw_below_drewN | apply below_drew1 | refine below_set ?_ (IsS89.ge HI0.out)) | exact HB.out)); rintro e w5 ⟨rfl, hi, hb, hk⟩; refine ⟨_, rfl, ?_⟩; replace HK := am_ (KeepBut.trans (by repeat (first | (with_reducible first | exact HK.out | apply KeepBut.set_ | apply keep_drewN | apply keep_drew | apply keep_alloc) | exact HK.out)) hk (.inl rfl)); replace HI0 := am_ (hi); replace HB := am_ (hb); (try clear hb); (try clear hb2); (try clear hk); (try clear hi)))
  first | go_end0 | ((try simp only [Exit.inBlock, Exit.then]); refine bodyPost_ret (results_none rfl _ _ _) rfl ?_)
  exact ⟨ew_, by repeat (first | (with_reducible first | exact HI0.out | apply IsS89.alloc | apply IsS89.drewN | apply IsS89.drew | apply IsS89.set_1 | apply IsS89.set_2 | apply IsS89.set_3) | exact HI0.out), by repeat (first | (with_reducible first | exact HB.out | apply below_alloc | apply pw_below_drewN | apply below_drew1 | refine below_set ?_ (IsS89.ge HI0.out)) | exact HB.out), by repeat (first | (with_reducible first | exact HK.out | apply KeepBut.set_ | apply keep_drewN | apply keep_drew | apply keep_alloc) | exact HK.out)⟩
 ·rw [if_neg c2] at H
  have c2b0 : decide (50 < (wrap64 (s0_2 + 1))) = false := decide_eq_false c2; clear c2; simp only [Option.some.injEq, Prod.mk.injEq] at H; obtain ⟨rfl, rfl, rfl⟩ := H; obtain ⟨ASz6_0, cSz6_0, HGz6, hgz6, HSz6_0⟩ := HI0.out; have hcz6_0 := cellS89_0 HGz6; have hcz6_1 := cellS89_1 HGz6; have hcz6_2 := cellS89_2 HGz6; have hcz6_3 := cellS89_3 HGz6; have hfz6_1 := blk_frozen HGz6 1; have hfz6_2 := blk_frozen HGz6 2; have hfz6_3 := blk_frozen HGz6 3; clear HGz6 hgz6
  go_enter Try.func151, Try.ntmps151
  go_wp2
  first | go_end0 | ((try simp only [Exit.inBlock, Exit.then]); refine bodyPost_ret (results_none rfl _ _ _) rfl ?_)
  exact ⟨ew_, by repeat (first | (with_reducible first | exact HI0.out | apply IsS89.alloc | apply IsS89.drewN | apply IsS89.drew | apply IsS89.set_1 | apply IsS89.set_2 | apply IsS89.set_3) | exact HI0.out), by repeat (first | (with_reducible first | exact HB.out | apply below_alloc | apply pw_below_drewN | apply below_drew1 | refine below_set ?_ (IsS89.ge HI0.out)) | exact HB.out), by repeat (first | (with_reducible first | exact HK.out | apply KeepBut.set_ | apply keep_drewN | apply keep_drew | apply keep_alloc) | exact HK.out)⟩

def parse_parser_up.f (s0_0 : List (S91)) (s0_1 : Int) (s0_2 : Int) (s0_3 : Int) : Option (Int × Int × Int) := some (s0_1, wrap64 (s0_2 - 1), s0_3)
theorem parse_parser_up.calls (g : Nat) (s0_0 : List (S91)) (s0_1 : Int) (s0_2 : Int) (s0_3 : Int) (r1 : Int) (r2 : Int) (r3 : Int) (w0 w : World) (hI : IsS89 w0 w g s0_0 s0_1 s0_2 s0_3) (hB : Below w0.heap.size w0 w) (h : parse_parser_up.f s0_0 s0_1 s0_2 s0_3 = some (r1, r2, r3)) :
  Calls Try.prog 152 #[.pointer (some ⟨g, 0, none⟩)] w fun e w' => e = .returned (.tuple #[]) ∧ IsS89 w0 w' g s0_0 r1 r2 r3 ∧ Below w0.heap.size w0 w' ∧ KeepBut w w' g none := by
 have HI0 := am_ hI; have HK := am_ (KeepBut.refl w g none); have HL := am_ hB.size; clear hI; have HW0 := am_ hB.size; have HB := am_ hB; clear hB; have H : (some (s0_1, wrap64 (s0_2 - 1), s0_3)) = some (r1, r2, r3) := h; clear h; simp only [Option.some.injEq, Prod.mk.injEq] at H; obtain ⟨rfl, rfl, rfl⟩ := H; obtain ⟨ASz2_0, cSz2_0, HGz2, hgz2, HSz2_0⟩ := HI0.out; have hcz2_0 := cellS89_0 HGz2; have hcz2_1 := cellS89_1 HGz2; have hcz2_2 := cellS89_2 HGz2; have hcz2_3 := cellS89_3 HGz2; have hfz2_1 := blk_frozen HGz2 1; have hfz2_2 := blk_frozen HGz2 2; have hfz2_3 := blk_frozen HGz2 3; clear HGz2 hgz2
 go_enter Try.func152, Try.ntmps152
 go_wp2
 first | go_end0 | ((try simp only [Exit.inBlock, Exit.then]); refine bodyPost_ret (results_none rfl _ _ _) rfl ?_)
 exact ⟨ew_, by repeat (first | (with_reducible first | exact HI0.out | apply IsS89.alloc | apply IsS89.drewN | apply IsS89.drew | apply IsS89.set_1 | apply IsS89.set_2 | apply IsS89.set_3) | exact HI0.out), by repeat (first | (with_reducible first | exact HB.out | apply below_alloc | apply pw_below_drewN | apply below_drew1 | refine below_set ?_ (IsS89.ge HI0.out)) | exact HB.out), by repeat (first | (with_reducible first | exact HK.out | apply KeepBut.set_ | apply keep_drewN | apply keep_drew | apply keep_alloc) | exact HK.out)⟩

def tree_Val.f (a0_0 : Int) (a0_1 : Int) (a0_2 : ByteArray) : Option (Int × ByteArray × ByteArray × Int × Int × Int × Int × ByteArray × (List (S27))) := some (16, (⟨#[]⟩ : ByteArray), (⟨#[]⟩ : ByteArray), 0, 0, a0_0, a0_1, a0_2, ([] : List (S27)))
theorem tree_Val.calls (a0_0 : Int) (a0_1 : Int) (a0_2 : ByteArray) (r1 : Int) (r2 : ByteArray) (r3 : ByteArray) (r4 : Int) (r5 : Int) (r6 : Int) (r7 : Int) (r8 : ByteArray) (r9 : List (S27)) (w : World) (h : tree_Val.f a0_0 a0_1 a0_2 = some (r1, r2, r3, r4, r5, r6, r7, r8, r9)) :
  Calls Try.prog 187 #[.agg #[.int .i64 a0_0, .int .i64 a0_1, .string a0_2]] w fun e w' => ∃ v8_ : Value, e = .returned (.agg #[.int .i64 r1, .string r2, .string r3, .int .i64 r4, .int .i64 r5, .int .i64 r6, .int .i64 r7, .string r8, v8_]) ∧ Kd.R k27 27 w' w.heap.size (fun _ => True) v8_ r9 ∧ Below w.heap.size w w' := by
 have hu25 := Try.underlying25; have hu27 := Try.underlying27; have HB := am_ (Below.refl w.heap.size w); have H : (some (16, (⟨#[]⟩ : ByteArray), (⟨#[]⟩ : ByteArray), 0, 0, a0_0, a0_1, a0_2, ([] : List (S27)))) = some (r1, r2, r3, r4, r5, r6, r7, r8, r9) := h; clear h; simp only [Option.some.injEq, Prod.mk.injEq] at H; obtain ⟨rfl, rfl, rfl, rfl, rfl, rfl, rfl, rfl, rfl⟩ := H
 go_enter Try.func187, Try.ntmps187
 go_wp2_with (first | ((with_reducible refine gate_dst (N := 1) rfl ?_); refine box_event ?hg (N := 1) ?hd (cs := #[.int .i64 a0_0, .int .i64 a0_1, .string a0_2]) (t := 25) ?hr ?_; (case hd => rfl); (case hg => rfl); (case hr => first | (go_simp; done) | (go_simp; rfl)); intro gb174 hg w2 hbox hb; have BK174 := am_ (hbox); have GW174 := am_ ((by rw [hg]; exact (below_size (bl_)) : w.heap.size ≤ gb174)); have GE174 := am_ ((by rw [hg]; exact (below_size (bl_)) : w.heap.size ≤ gb174)); replace HB := am_ (below_step (bl_) hb); clear hb hbox hg) | ((with_reducible refine gate_dst (N := 2) rfl ?_); refine box_event ?hg (N := 2) ?hd (cs := #[.int .i64 0, .string (⟨#[]⟩ : ByteArray), .string (⟨#[]⟩ : ByteArray), .int .i64 0, .int .i64 0, .int .i64 0, .int .i64 0, .string (⟨#[]⟩ : ByteArray), .slice none 0 0]) (t := 27) ?hr ?_; (case hd => rfl); (case hg => rfl); (case hr => first | (go_simp; done) | (go_simp; rfl)); intro gb175 hg w3 hbox hb; have n0_ := am_ (blk_below (bk_ BK174.out) hb); have n1_ := am_ (below_step (bl_) hb); have n2_ := am_ (hbox); have n3_ := am_ ((by rw [hg]; exact (below_size (bl_)) : w.heap.size ≤ gb175)); have n4_ := am_ ((by rw [hg]; exact (below_size (bl_)) : w.heap.size ≤ gb175)); have n5_ := am_ ((by rw [hg]; exact Nat.ne_of_lt (blk_lt (g := gb174) (o := .cells #[.int .i64 a0_0, .int .i64 a0_1, .string a0_2] 25 (0, 0)) (bk_ BK174.out)) : gb174 ≠ gb175)); have n6_ := am_ ((by rw [hg]; exact Nat.ne_of_gt (blk_lt (g := gb174) (o := .cells #[.int .i64 a0_0, .int .i64 a0_1, .string a0_2] 25 (0, 0)) (bk_ BK174.out)) : gb175 ≠ gb174)); clear BK174; clear HB; have BK174 := n0_; have HB := n1_; have BK175 := n2_; have GW175 := n3_; have GE175 := n4_; have NB174_175 := n5_; have NB175_174 := n6_; clear n0_ n1_ n2_ n3_ n4_ n5_ n6_; clear hb hbox hg; have hnb4 := NB174_175.out; have hnc4 := NB175_174.out; obtain ⟨hcz5_0, hcz5_1, hcz5_2, hfz5_0, hfz5_1, hfz5_2⟩ := bw3_ BK174.out; obtain ⟨hcz6_0, hcz6_1, hcz6_2, hcz6_3, hcz6_4, hcz6_5, hcz6_6, hcz6_7, hcz6_8, hfz6_0, hfz6_1, hfz6_2, hfz6_3, hfz6_4, hfz6_5, hfz6_6, hfz6_7, hfz6_8⟩ := bw9_ BK175.out))
 refine bodyPost_ret (results_cell_row rfl _ _ gb175 27 #[.int .i64 16, .string (⟨#[]⟩ : ByteArray), .string (⟨#[]⟩ : ByteArray), .int .i64 0, .int .i64 0, .int .i64 a0_0, .int .i64 a0_1, .string a0_2, .slice none 0 0] (0, 0) _ rfl (by refine bp_ ?_; refine blk_put (cs := #[.int .i64 16, .string (⟨#[]⟩ : ByteArray), .string (⟨#[]⟩ : ByteArray), .int .i64 0, .int .i64 0, .int .i64 a0_0, .int .i64 a0_1, .string a0_2, .slice none 0 0]) ?_ 8 _ rfl; refine bp_ ?_; refine blk_put (cs := #[.int .i64 16, .string (⟨#[]⟩ : ByteArray), .string (⟨#[]⟩ : ByteArray), .int .i64 0, .int .i64 0, .int .i64 a0_0, .int .i64 a0_1, .string (⟨#[]⟩ : ByteArray), .slice none 0 0]) ?_ 7 _ rfl; refine bp_ ?_; refine blk_put (cs := #[.int .i64 16, .string (⟨#[]⟩ : ByteArray), .string (⟨#[]⟩ : ByteArray), .int .i64 0, .int .i64 0, .int .i64 a0_0, .int .i64 0, .string (⟨#[]⟩ : ByteArray), .slice none 0 0]) ?_ 6 _ rfl; refine bp_ ?_; refine blk_put (cs := #[.int .i64 16, .string (⟨#[]⟩ : ByteArray), .string (⟨#[]⟩ : ByteArray), .int .i64 0, .int .i64 0, .int .i64 0, .int .i64 0, .string (⟨#[]⟩ : ByteArray), .slice none 0 0]) ?_ 5 _ rfl; refine bp_ ?_; refine blk_put (cs := #[.int .i64 16, .string (⟨#[]⟩ : ByteArray), .string (⟨#[]⟩ : ByteArray), .int .i64 0, .int .i64 0, .int .i64 0, .int .i64 0, .string (⟨#[]⟩ : ByteArray), .slice none 0 0]) ?_ 4 _ rfl; refine bp_ ?_; refine blk_put (cs := #[.int .i64 16, .string (⟨#[]⟩ : ByteArray), .string (⟨#[]⟩ : ByteArray), .int .i64 0, .int .i64 0, .int .i64 0, .int .i64 0, .string (⟨#[]⟩ : ByteArray), .slice none 0 0]) ?_ 3 _ rfl; refine bp_ ?_; refine blk_put (cs := #[.int .i64 16, .string (⟨#[]⟩ : ByteArray), .string (⟨#[]⟩ : ByteArray), .int .i64 0, .int .i64 0, .int .i64 0, .int .i64 0, .string (⟨#[]⟩ : ByteArray), .slice none 0 0]) ?_ 2 _ rfl; refine bp_ ?_; refine blk_put (cs := #[.int .i64 16, .string (⟨#[]⟩ : ByteArray), .string (⟨#[]⟩ : ByteArray), .int .i64 0, .int .i64 0, .int .i64 0, .int .i64 0, .string (⟨#[]⟩ : ByteArray), .slice none 0 0]) ?_ 1 _ rfl; refine bp_ ?_; refine blk_put (cs := #[.int .i64 0, .string (⟨#[]⟩ : ByteArray), .string (⟨#[]⟩ : ByteArray), .int .i64 0, .int .i64 0, .int .i64 0, .int .i64 0, .string (⟨#[]⟩ : ByteArray), .slice none 0 0]) ?_ 0 _ rfl; refine bp_ ?_; exact BK175.out) Try.underlying27 rfl (by kernel_rfl)) rfl ?_; exact ⟨_, ew_, by first | exact Kd.R_nil _ _ _ _ _ | exact Kd.N_nil _ _ _ _ _ | exact Kd.V_nil _ _ _ _ _ | exact Kd.Q_nil _ _ _ _ _ | exact Kd.S_nil _ _ _ _ _, bl_⟩

def val_Int.f (a0 : Int) : Option (Int × Int × ByteArray) := some (1, a0, (⟨#[]⟩ : ByteArray))
theorem val_Int.calls (a0 : Int) (r1 : Int) (r2 : Int) (r3 : ByteArray) (w : World) (h : val_Int.f a0 = some (r1, r2, r3)) :
  Calls Try.prog 188 #[.int .i64 a0] w fun e w' => e = .returned (.agg #[.int .i64 r1, .int .i64 r2, .string r3]) ∧ Below w.heap.size w w' := by
 have hu25 := Try.underlying25; have HB := am_ (Below.refl w.heap.size w); have H : (some (1, a0, (⟨#[]⟩ : ByteArray))) = some (r1, r2, r3) := h; clear h; simp only [Option.some.injEq, Prod.mk.injEq] at H; obtain ⟨rfl, rfl, rfl⟩ := H
 go_enter Try.func188, Try.ntmps188
 go_wp2_with (first | ((with_reducible refine gate_dst (N := 2) rfl ?_); refine box_event ?hg (N := 2) ?hd (cs := #[.int .i64 0, .int .i64 0, .string (⟨#[]⟩ : ByteArray)]) (t := 25) ?hr ?_; (case hd => rfl); (case hg => rfl); (case hr => first | (go_simp; done) | (go_simp; rfl)); intro gb176 hg w2 hbox hb; have BK176 := am_ (hbox); have GW176 := am_ ((by rw [hg]; exact (below_size (bl_)) : w.heap.size ≤ gb176)); have GE176 := am_ ((by rw [hg]; exact (below_size (bl_)) : w.heap.size ≤ gb176)); replace HB := am_ (below_step (bl_) hb); clear hb hbox hg; obtain ⟨hcz3_0, hcz3_1, hcz3_2, hfz3_0, hfz3_1, hfz3_2⟩ := bw3_ BK176.out))
 refine bodyPost_ret (results_cell_row rfl _ _ gb176 25 #[.int .i64 1, .int .i64 a0, .string (⟨#[]⟩ : ByteArray)] (0, 0) _ rfl (by refine bp_ ?_; refine blk_put (cs := #[.int .i64 1, .int .i64 a0, .string (⟨#[]⟩ : ByteArray)]) ?_ 2 _ rfl; refine bp_ ?_; refine blk_put (cs := #[.int .i64 1, .int .i64 0, .string (⟨#[]⟩ : ByteArray)]) ?_ 1 _ rfl; refine bp_ ?_; refine blk_put (cs := #[.int .i64 0, .int .i64 0, .string (⟨#[]⟩ : ByteArray)]) ?_ 0 _ rfl; refine bp_ ?_; exact BK176.out) Try.underlying25 rfl (by kernel_rfl)) rfl ?_; exact ⟨ew_, bl_⟩

def val_Null.f  : Option (Int × Int × ByteArray) := some (0, 0, (⟨#[]⟩ : ByteArray))
theorem val_Null.calls  (r1 : Int) (r2 : Int) (r3 : ByteArray) (w : World) (h : val_Null.f  = some (r1, r2, r3)) :
  Calls Try.prog 190 #[] w fun e w' => e = .returned (.agg #[.int .i64 r1, .int .i64 r2, .string r3]) ∧ Below w.heap.size w w' := by
 have hu25 := Try.underlying25; have HB := am_ (Below.refl w.heap.size w); have H : (some (0, 0, (⟨#[]⟩ : ByteArray))) = some (r1, r2, r3) := h; clear h; simp only [Option.some.injEq, Prod.mk.injEq] at H; obtain ⟨rfl, rfl, rfl⟩ := H
 go_enter Try.func190, Try.ntmps190
 go_wp2_with (first | ((with_reducible refine gate_dst (N := 0) rfl ?_); refine box_event ?hg (N := 0) ?hd (cs := #[.int .i64 0, .int .i64 0, .string (⟨#[]⟩ : ByteArray)]) (t := 25) ?hr ?_; (case hd => rfl); (case hg => rfl); (case hr => first | (go_simp; done) | (go_simp; rfl)); intro gb177 hg w1 hbox hb; have BK177 := am_ (hbox); have GW177 := am_ ((by rw [hg]; exact (below_size (bl_)) : w.heap.size ≤ gb177)); have GE177 := am_ ((by rw [hg]; exact (below_size (bl_)) : w.heap.size ≤ gb177)); replace HB := am_ (below_step (bl_) hb); clear hb hbox hg; obtain ⟨hcz2_0, hcz2_1, hcz2_2, hfz2_0, hfz2_1, hfz2_2⟩ := bw3_ BK177.out))
 refine bodyPost_ret (results_cell_row rfl _ _ gb177 25 #[.int .i64 0, .int .i64 0, .string (⟨#[]⟩ : ByteArray)] (0, 0) _ rfl (by refine bp_ ?_; refine blk_put (cs := #[.int .i64 0, .int .i64 0, .string (⟨#[]⟩ : ByteArray)]) ?_ 2 _ rfl; refine bp_ ?_; refine blk_put (cs := #[.int .i64 0, .int .i64 0, .string (⟨#[]⟩ : ByteArray)]) ?_ 1 _ rfl; refine bp_ ?_; refine blk_put (cs := #[.int .i64 0, .int .i64 0, .string (⟨#[]⟩ : ByteArray)]) ?_ 0 _ rfl; refine bp_ ?_; exact BK177.out) Try.underlying25 rfl (by kernel_rfl)) rfl ?_; exact ⟨ew_, bl_⟩

def val_Text.f (a0 : ByteArray) : Option (Int × Int × ByteArray) := if (a0.size : Int) > 65536 then ((val_Null.f).bind fun bt179 => (some (bt179.1, bt179.2.1, bt179.2.2))) else (some (2, 0, a0))
theorem val_Text.calls (a0 : ByteArray) (r1 : Int) (r2 : Int) (r3 : ByteArray) (w : World) (h : val_Text.f a0 = some (r1, r2, r3)) :
  Calls Try.prog 189 #[.string a0] w fun e w' => e = .returned (.agg #[.int .i64 r1, .int .i64 r2, .string r3]) ∧ Below w.heap.size w w' := by
 have hu25 := Try.underlying25; have HB := am_ (Below.refl w.heap.size w); have H : (if (a0.size : Int) > 65536 then ((val_Null.f).bind fun bt179 => (some (bt179.1, bt179.2.1, bt179.2.2))) else (some (2, 0, a0))) = some (r1, r2, r3) := h; clear h
 by_cases c2 : (a0.size : Int) > 65536
 ·rw [if_pos c2] at H
  have c2b0 : decide (65536 < (a0.size : Int)) = true := decide_eq_true c2; have c2b1 : decide (65536 < a0.size) = true := decide_eq_true (by omega); clear c2; replace H := Option.bind_eq_some_iff.mp H; obtain ⟨⟨t179, t180, t181⟩, A30, H⟩ := H; replace H : (some (t179, t180, t181)) = some (r1, r2, r3) := H; have A3 := am_ A30; clear A30; simp only [Option.some.injEq, Prod.mk.injEq] at H; obtain ⟨rfl, rfl, rfl⟩ := H
  go_enter Try.func189, Try.ntmps189
  go_wp2_with (first | ((with_reducible refine gate_dst (N := 2) rfl ?_); refine box_event ?hg (N := 2) ?hd (cs := #[.int .i64 0, .int .i64 0, .string (⟨#[]⟩ : ByteArray)]) (t := 25) ?hr ?_; (case hd => rfl); (case hg => rfl); (case hr => first | (go_simp; done) | (go_simp; rfl)); intro gb178 hg w4 hbox hb; have BK178 := am_ (hbox); have GW178 := am_ ((by rw [hg]; exact (below_size (bl_)) : w.heap.size ≤ gb178)); have GE178 := am_ ((by rw [hg]; exact (below_size (bl_)) : w.heap.size ≤ gb178)); replace HB := am_ (below_step (bl_) hb); clear hb hbox hg) | ((with_reducible refine gate_callee (f := 190) rfl ?_); refine goesL_ (some 6) rfl rfl Try.func190 (by kernel_rfl) rfl #[] rfl (by (try simp only [List.map_toArray, List.map_cons, List.map_nil]); first | done | rfl | (simp only [List.length_drop, List.length_take]; rfl)) ?_; (with_reducible refine (val_Null.calls  t179 t180 t181 _ A3.out).mono ?_); rintro e w5 ⟨rfl, hb⟩; refine ⟨_, rfl, ?_⟩; replace BK178 := am_ (blk_below (bk_ BK178.out) hb); replace HB := am_ (below_step (bl_) hb); (try clear hb); (try clear hb2); (try clear hk); (try clear hi); obtain ⟨hcz6_0, hcz6_1, hcz6_2, hfz6_0, hfz6_1, hfz6_2⟩ := bw3_ BK178.out))
  refine bodyPost_ret (results_cell_row rfl _ _ gb178 25 #[.int .i64 t179, .int .i64 t180, .string t181] (0, 0) _ rfl (by refine bp_ ?_; refine blk_put (cs := #[.int .i64 t179, .int .i64 t180, .string (⟨#[]⟩ : ByteArray)]) ?_ 2 _ rfl; refine bp_ ?_; refine blk_put (cs := #[.int .i64 t179, .int .i64 0, .string (⟨#[]⟩ : ByteArray)]) ?_ 1 _ rfl; refine bp_ ?_; refine blk_put (cs := #[.int .i64 0, .int .i64 0, .string (⟨#[]⟩ : ByteArray)]) ?_ 0 _ rfl; refine bp_ ?_; exact BK178.out) Try.underlying25 rfl (by kernel_rfl)) rfl ?_; exact ⟨ew_, bl_⟩
 ·rw [if_neg c2] at H
  have c2b0 : decide (65536 < (a0.size : Int)) = false := decide_eq_false c2; have c2b1 : decide (65536 < a0.size) = false := decide_eq_false (by omega); clear c2; simp only [Option.some.injEq, Prod.mk.injEq] at H; obtain ⟨rfl, rfl, rfl⟩ := H
  go_enter Try.func189, Try.ntmps189
  go_wp2_with (first | ((with_reducible refine gate_dst (N := 2) rfl ?_); refine box_event ?hg (N := 2) ?hd (cs := #[.int .i64 0, .int .i64 0, .string (⟨#[]⟩ : ByteArray)]) (t := 25) ?hr ?_; (case hd => rfl); (case hg => rfl); (case hr => first | (go_simp; done) | (go_simp; rfl)); intro gb178 hg w7 hbox hb; have BK178 := am_ (hbox); have GW178 := am_ ((by rw [hg]; exact (below_size (bl_)) : w.heap.size ≤ gb178)); have GE178 := am_ ((by rw [hg]; exact (below_size (bl_)) : w.heap.size ≤ gb178)); replace HB := am_ (below_step (bl_) hb); clear hb hbox hg; obtain ⟨hcz8_0, hcz8_1, hcz8_2, hfz8_0, hfz8_1, hfz8_2⟩ := bw3_ BK178.out))
  refine bodyPost_ret (results_cell_row rfl _ _ gb178 25 #[.int .i64 2, .int .i64 0, .string a0] (0, 0) _ rfl (by refine bp_ ?_; refine blk_put (cs := #[.int .i64 2, .int .i64 0, .string (⟨#[]⟩ : ByteArray)]) ?_ 2 _ rfl; refine bp_ ?_; refine blk_put (cs := #[.int .i64 2, .int .i64 0, .string (⟨#[]⟩ : ByteArray)]) ?_ 1 _ rfl; refine bp_ ?_; refine blk_put (cs := #[.int .i64 0, .int .i64 0, .string (⟨#[]⟩ : ByteArray)]) ?_ 0 _ rfl; refine bp_ ?_; exact BK178.out) Try.underlying25 rfl (by kernel_rfl)) rfl ?_; exact ⟨ew_, bl_⟩

def tree_Col.f (a0 : ByteArray) (a1 : ByteArray) : Option (Int × ByteArray × ByteArray × Int × Int × Int × Int × ByteArray × (List (S27))) := some (15, a0, a1, 0, 0, 0, 0, (⟨#[]⟩ : ByteArray), ([] : List (S27)))
theorem tree_Col.calls (a0 : ByteArray) (a1 : ByteArray) (r1 : Int) (r2 : ByteArray) (r3 : ByteArray) (r4 : Int) (r5 : Int) (r6 : Int) (r7 : Int) (r8 : ByteArray) (r9 : List (S27)) (w : World) (h : tree_Col.f a0 a1 = some (r1, r2, r3, r4, r5, r6, r7, r8, r9)) :
  Calls Try.prog 195 #[.string a0, .string a1] w fun e w' => ∃ v8_ : Value, e = .returned (.agg #[.int .i64 r1, .string r2, .string r3, .int .i64 r4, .int .i64 r5, .int .i64 r6, .int .i64 r7, .string r8, v8_]) ∧ Kd.R k27 27 w' w.heap.size (fun _ => True) v8_ r9 ∧ Below w.heap.size w w' := by
 have hu27 := Try.underlying27; have HB := am_ (Below.refl w.heap.size w); have H : (some (15, a0, a1, 0, 0, 0, 0, (⟨#[]⟩ : ByteArray), ([] : List (S27)))) = some (r1, r2, r3, r4, r5, r6, r7, r8, r9) := h; clear h; simp only [Option.some.injEq, Prod.mk.injEq] at H; obtain ⟨rfl, rfl, rfl, rfl, rfl, rfl, rfl, rfl, rfl⟩ := H
 go_enter Try.func195, Try.ntmps195
 go_wp2_with (first | ((with_reducible refine gate_dst (N := 4) rfl ?_); refine box_event ?hg (N := 4) ?hd (cs := #[.int .i64 0, .string (⟨#[]⟩ : ByteArray), .string (⟨#[]⟩ : ByteArray), .int .i64 0, .int .i64 0, .int .i64 0, .int .i64 0, .string (⟨#[]⟩ : ByteArray), .slice none 0 0]) (t := 27) ?hr ?_; (case hd => rfl); (case hg => rfl); (case hr => first | (go_simp; done) | (go_simp; rfl)); intro gb182 hg w3 hbox hb; have BK182 := am_ (hbox); have GW182 := am_ ((by rw [hg]; exact (below_size (bl_)) : w.heap.size ≤ gb182)); have GE182 := am_ ((by rw [hg]; exact (below_size (bl_)) : w.heap.size ≤ gb182)); replace HB := am_ (below_step (bl_) hb); clear hb hbox hg; obtain ⟨hcz4_0, hcz4_1, hcz4_2, hcz4_3, hcz4_4, hcz4_5, hcz4_6, hcz4_7, hcz4_8, hfz4_0, hfz4_1, hfz4_2, hfz4_3, hfz4_4, hfz4_5, hfz4_6, hfz4_7, hfz4_8⟩ := bw9_ BK182.out))
 refine bodyPost_ret (results_cell_row rfl _ _ gb182 27 #[.int .i64 15, .string a0, .string a1, .int .i64 0, .int .i64 0, .int .i64 0, .int .i64 0, .string (⟨#[]⟩ : ByteArray), .slice none 0 0] (0, 0) _ rfl (by refine bp_ ?_; refine blk_put (cs := #[.int .i64 15, .string a0, .string a1, .int .i64 0, .int .i64 0, .int .i64 0, .int .i64 0, .string (⟨#[]⟩ : ByteArray), .slice none 0 0]) ?_ 8 _ rfl; refine bp_ ?_; refine blk_put (cs := #[.int .i64 15, .string a0, .string a1, .int .i64 0, .int .i64 0, .int .i64 0, .int .i64 0, .string (⟨#[]⟩ : ByteArray), .slice none 0 0]) ?_ 7 _ rfl; refine bp_ ?_; refine blk_put (cs := #[.int .i64 15, .string a0, .string a1, .int .i64 0, .int .i64 0, .int .i64 0, .int .i64 0, .string (⟨#[]⟩ : ByteArray), .slice none 0 0]) ?_ 6 _ rfl; refine bp_ ?_; refine blk_put (cs := #[.int .i64 15, .string a0, .string a1, .int .i64 0, .int .i64 0, .int .i64 0, .int .i64 0, .string (⟨#[]⟩ : ByteArray), .slice none 0 0]) ?_ 5 _ rfl; refine bp_ ?_; refine blk_put (cs := #[.int .i64 15, .string a0, .string a1, .int .i64 0, .int .i64 0, .int .i64 0, .int .i64 0, .string (⟨#[]⟩ : ByteArray), .slice none 0 0]) ?_ 4 _ rfl; refine bp_ ?_; refine blk_put (cs := #[.int .i64 15, .string a0, .string a1, .int .i64 0, .int .i64 0, .int .i64 0, .int .i64 0, .string (⟨#[]⟩ : ByteArray), .slice none 0 0]) ?_ 3 _ rfl; refine bp_ ?_; refine blk_put (cs := #[.int .i64 15, .string a0, .string (⟨#[]⟩ : ByteArray), .int .i64 0, .int .i64 0, .int .i64 0, .int .i64 0, .string (⟨#[]⟩ : ByteArray), .slice none 0 0]) ?_ 2 _ rfl; refine bp_ ?_; refine blk_put (cs := #[.int .i64 15, .string (⟨#[]⟩ : ByteArray), .string (⟨#[]⟩ : ByteArray), .int .i64 0, .int .i64 0, .int .i64 0, .int .i64 0, .string (⟨#[]⟩ : ByteArray), .slice none 0 0]) ?_ 1 _ rfl; refine bp_ ?_; refine blk_put (cs := #[.int .i64 0, .string (⟨#[]⟩ : ByteArray), .string (⟨#[]⟩ : ByteArray), .int .i64 0, .int .i64 0, .int .i64 0, .int .i64 0, .string (⟨#[]⟩ : ByteArray), .slice none 0 0]) ?_ 0 _ rfl; refine bp_ ?_; exact BK182.out) Try.underlying27 rfl (by kernel_rfl)) rfl ?_; exact ⟨_, ew_, by first | exact Kd.R_nil _ _ _ _ _ | exact Kd.N_nil _ _ _ _ _ | exact Kd.V_nil _ _ _ _ _ | exact Kd.Q_nil _ _ _ _ _ | exact Kd.S_nil _ _ _ _ _, bl_⟩

def w09_code.f (a0 : Int) : Option (Int) := some a0
theorem w09_code.calls (a0 : Int) (r : Int) (w : World) (h : w09_code.f a0 = some r) :
  Calls Try.prog 16 #[.int .i64 a0] w fun e w' => e = .returned (.int .i64 r) ∧ Drawn0 w w' := by
 have H : (some a0) = some r := h; clear h; obtain rfl := Option.some.inj H
 go_enter Try.func16, Try.ntmps16
 go_wp2
 go_ret
 exact ⟨rs_, by repeat (first | exact Drawn0.refl _ | apply Drawn0.step)⟩

def r07_Blank.f (a0 : Int) : Option (Bool) := if a0 = 32 then (some true) else (if a0 = 9 then (some true) else (if a0 = 10 then (some true) else (some (a0 == 13))))
theorem r07_Blank.calls (a0 : Int) (r : Bool) (w : World) (h : r07_Blank.f a0 = some r) :
  Calls Try.prog 83 #[.int .u8 a0] w fun e w' => e = .returned (.bool r) ∧ Drawn0 w w' := by
 have H : (if a0 = 32 then (some true) else (if a0 = 9 then (some true) else (if a0 = 10 then (some true) else (some (a0 == 13))))) = some r := h; clear h
 by_cases c2 : a0 = 32
 ·rw [if_pos c2] at H
  have c2b0 : (a0 == 32) = true := beq_iff_eq.mpr c2; have c2b1 : (a0 != 32) = false := bne_eq_false_iff_eq.mpr c2; clear c2; obtain rfl := Option.some.inj H
  go_enter Try.func83, Try.ntmps83
  go_wp2
  go_ret
  exact ⟨rs_, by repeat (first | exact Drawn0.refl _ | apply Drawn0.step)⟩
 ·rw [if_neg c2] at H
  have c2b0 : (a0 == 32) = false := beq_eq_false_iff_ne.mpr c2; have c2b1 : (a0 != 32) = true := bne_iff_ne.mpr c2
  by_cases c3 : a0 = 9
  ·rw [if_pos c3] at H
   have c3b0 : (a0 == 9) = true := beq_iff_eq.mpr c3; have c3b1 : (a0 != 9) = false := bne_eq_false_iff_eq.mpr c3; clear c3; obtain rfl := Option.some.inj H
   go_enter Try.func83, Try.ntmps83
   go_wp2
   go_ret
   exact ⟨rs_, by repeat (first | exact Drawn0.refl _ | apply Drawn0.step)⟩
  ·rw [if_neg c3] at H
   have c3b0 : (a0 == 9) = false := beq_eq_false_iff_ne.mpr c3; have c3b1 : (a0 != 9) = true := bne_iff_ne.mpr c3
   by_cases c4 : a0 = 10
   ·rw [if_pos c4] at H
    have c4b0 : (a0 == 10) = true := beq_iff_eq.mpr c4; have c4b1 : (a0 != 10) = false := bne_eq_false_iff_eq.mpr c4; clear c4; obtain rfl := Option.some.inj H
    go_enter Try.func83, Try.ntmps83
    go_wp2
    go_ret
    exact ⟨rs_, by repeat (first | exact Drawn0.refl _ | apply Drawn0.step)⟩
   ·rw [if_neg c4] at H
    have c4b0 : (a0 == 10) = false := beq_eq_false_iff_ne.mpr c4; have c4b1 : (a0 != 10) = true := bne_iff_ne.mpr c4; obtain rfl := Option.some.inj H
    go_enter Try.func83, Try.ntmps83
    go_wp2
    go_ret
    exact ⟨rs_, by repeat (first | exact Drawn0.refl _ | apply Drawn0.step)⟩

def r07_letter.f (a0 : Int) : Option (Bool) := if a0 = 95 then (some true) else (if a0 ≥ 97 then (some (decide (a0 ≤ 122))) else (some false))
theorem r07_letter.calls (a0 : Int) (r : Bool) (w : World) (h : r07_letter.f a0 = some r) :
  Calls Try.prog 84 #[.int .u8 a0] w fun e w' => e = .returned (.bool r) ∧ Drawn0 w w' := by
 have H : (if a0 = 95 then (some true) else (if a0 ≥ 97 then (some (decide (a0 ≤ 122))) else (some false))) = some r := h; clear h
 by_cases c2 : a0 = 95
 ·rw [if_pos c2] at H
  have c2b0 : (a0 == 95) = true := beq_iff_eq.mpr c2; have c2b1 : (a0 != 95) = false := bne_eq_false_iff_eq.mpr c2; clear c2; obtain rfl := Option.some.inj H
  go_enter Try.func84, Try.ntmps84
  go_wp2
  go_ret
  exact ⟨rs_, by repeat (first | exact Drawn0.refl _ | apply Drawn0.step)⟩
 ·rw [if_neg c2] at H
  have c2b0 : (a0 == 95) = false := beq_eq_false_iff_ne.mpr c2; have c2b1 : (a0 != 95) = true := bne_iff_ne.mpr c2
  by_cases c3 : a0 ≥ 97
  ·rw [if_pos c3] at H
   have c3b0 : decide (97 ≤ a0) = true := decide_eq_true c3; clear c3; obtain rfl := Option.some.inj H
   go_enter Try.func84, Try.ntmps84
   go_wp2
   go_ret
   exact ⟨rs_, by repeat (first | exact Drawn0.refl _ | apply Drawn0.step)⟩
  ·rw [if_neg c3] at H
   have c3b0 : decide (97 ≤ a0) = false := decide_eq_false c3; clear c3; obtain rfl := Option.some.inj H
   go_enter Try.func84, Try.ntmps84
   go_wp2
   go_ret
   exact ⟨rs_, by repeat (first | exact Drawn0.refl _ | apply Drawn0.step)⟩

def r07_digit.f (a0 : Int) : Option (Bool) := if a0 ≥ 48 then (some (decide (a0 ≤ 57))) else (some false)
theorem r07_digit.calls (a0 : Int) (r : Bool) (w : World) (h : r07_digit.f a0 = some r) :
  Calls Try.prog 85 #[.int .u8 a0] w fun e w' => e = .returned (.bool r) ∧ Drawn0 w w' := by
 have H : (if a0 ≥ 48 then (some (decide (a0 ≤ 57))) else (some false)) = some r := h; clear h
 by_cases c2 : a0 ≥ 48
 ·rw [if_pos c2] at H
  have c2b0 : decide (48 ≤ a0) = true := decide_eq_true c2; clear c2; obtain rfl := Option.some.inj H
  go_enter Try.func85, Try.ntmps85
  go_wp2
  go_ret
  exact ⟨rs_, by repeat (first | exact Drawn0.refl _ | apply Drawn0.step)⟩
 ·rw [if_neg c2] at H
  have c2b0 : decide (48 ≤ a0) = false := decide_eq_false c2; clear c2; obtain rfl := Option.some.inj H
  go_enter Try.func85, Try.ntmps85
  go_wp2
  go_ret
  exact ⟨rs_, by repeat (first | exact Drawn0.refl _ | apply Drawn0.step)⟩

def r05_Word.l0 : Nat → ByteArray → List ByteArray → Int → Option (Bool)
 | 0, _, _, _ => none
 | k + 1, x0, x3, x4 => if x4 < (x3.length : Int) then (if 0 ≤ x4 then (if (rdOf ByteArray.empty x3 x4).toList = x0.toList then (some true) else (r05_Word.l0 k x0 x3 (wrap64 (x4 + 1)))) else (none)) else (some false)
def r05_Word.f (k : Nat) (a0 : ByteArray) : Option (Bool) := r05_Word.l0 k a0 (([(⟨#[115, 101, 108, 101, 99, 116]⟩ : ByteArray), (⟨#[102, 114, 111, 109]⟩ : ByteArray), (⟨#[106, 111, 105, 110]⟩ : ByteArray), (⟨#[108, 101, 102, 116]⟩ : ByteArray), (⟨#[115, 101, 109, 105]⟩ : ByteArray), (⟨#[97, 110, 116, 105]⟩ : ByteArray), (⟨#[111, 110]⟩ : ByteArray), (⟨#[119, 104, 101, 114, 101]⟩ : ByteArray), (⟨#[103, 114, 111, 117, 112]⟩ : ByteArray), (⟨#[98, 121]⟩ : ByteArray), (⟨#[97, 115]⟩ : ByteArray), (⟨#[97, 110, 100]⟩ : ByteArray), (⟨#[111, 114]⟩ : ByteArray), (⟨#[110, 111, 116]⟩ : ByteArray), (⟨#[105, 115]⟩ : ByteArray), (⟨#[110, 117, 108, 108]⟩ : ByteArray), (⟨#[99, 111, 117, 110, 116]⟩ : ByteArray), (⟨#[115, 117, 109]⟩ : ByteArray), (⟨#[109, 105, 110]⟩ : ByteArray), (⟨#[109, 97, 120]⟩ : ByteArray)] : List ByteArray)) 0
theorem r05_Word.mono_l : ∀ k, (∀ y0 y1 y2, LeO (r05_Word.l0 k y0 y1 y2) (r05_Word.l0 (k + 1) y0 y1 y2))
 | 0 => fun _ _ _ r h => by simp [r05_Word.l0] at h
 | k + 1 => by
  have ih0 := r05_Word.mono_l k
  ·intro y0 y1 y2
   unfold r05_Word.l0
   repeat' first
   | (with_reducible exact ih0 _ _ _)
   | (with_reducible exact LeO.refl _)
   | (with_reducible exact LeO.none _)
   | (with_reducible refine LeO.ite ?_ ?_)
   | (with_reducible refine LeO.bind ?_ (fun _ => ?_))
   | exact ih0 _ _ _
   | exact LeO.none _
   | refine LeO.ite ?_ ?_
   | refine LeO.bind ?_ (fun _ => ?_)
theorem r05_Word.mono : ∀ a0 k, LeO (r05_Word.f k a0) (r05_Word.f (k + 1) a0) := by
 intro a0 k; have ih0 := r05_Word.mono_l k; unfold r05_Word.f
 repeat' first
   | (with_reducible exact ih0 _ _ _)
   | (with_reducible exact LeO.refl _)
   | (with_reducible exact LeO.none _)
   | (with_reducible refine LeO.ite ?_ ?_)
   | (with_reducible refine LeO.bind ?_ (fun _ => ?_))
   | exact ih0 _ _ _
   | exact LeO.none _
   | refine LeO.ite ?_ ?_
   | refine LeO.bind ?_ (fun _ => ?_)
theorem r05_Word.calls (k : Nat) (a0 : ByteArray) (r : Bool) (w : World) (h : r05_Word.f k a0 = some r) :
  Calls Try.prog 86 #[.string a0] w fun e w' => e = .returned (.bool r) ∧ Below w.heap.size w w' := by
 have HB := am_ (Below.refl w.heap.size w); have H : (r05_Word.l0 k a0 (([(⟨#[115, 101, 108, 101, 99, 116]⟩ : ByteArray), (⟨#[102, 114, 111, 109]⟩ : ByteArray), (⟨#[106, 111, 105, 110]⟩ : ByteArray), (⟨#[108, 101, 102, 116]⟩ : ByteArray), (⟨#[115, 101, 109, 105]⟩ : ByteArray), (⟨#[97, 110, 116, 105]⟩ : ByteArray), (⟨#[111, 110]⟩ : ByteArray), (⟨#[119, 104, 101, 114, 101]⟩ : ByteArray), (⟨#[103, 114, 111, 117, 112]⟩ : ByteArray), (⟨#[98, 121]⟩ : ByteArray), (⟨#[97, 115]⟩ : ByteArray), (⟨#[97, 110, 100]⟩ : ByteArray), (⟨#[111, 114]⟩ : ByteArray), (⟨#[110, 111, 116]⟩ : ByteArray), (⟨#[105, 115]⟩ : ByteArray), (⟨#[110, 117, 108, 108]⟩ : ByteArray), (⟨#[99, 111, 117, 110, 116]⟩ : ByteArray), (⟨#[115, 117, 109]⟩ : ByteArray), (⟨#[109, 105, 110]⟩ : ByteArray), (⟨#[109, 97, 120]⟩ : ByteArray)] : List ByteArray)) 0) = some r := h; clear h
 obtain ⟨y189, hy189⟩ : ∃ y_ : List ByteArray, y_ = (([(⟨#[115, 101, 108, 101, 99, 116]⟩ : ByteArray), (⟨#[102, 114, 111, 109]⟩ : ByteArray), (⟨#[106, 111, 105, 110]⟩ : ByteArray), (⟨#[108, 101, 102, 116]⟩ : ByteArray), (⟨#[115, 101, 109, 105]⟩ : ByteArray), (⟨#[97, 110, 116, 105]⟩ : ByteArray), (⟨#[111, 110]⟩ : ByteArray), (⟨#[119, 104, 101, 114, 101]⟩ : ByteArray), (⟨#[103, 114, 111, 117, 112]⟩ : ByteArray), (⟨#[98, 121]⟩ : ByteArray), (⟨#[97, 115]⟩ : ByteArray), (⟨#[97, 110, 100]⟩ : ByteArray), (⟨#[111, 114]⟩ : ByteArray), (⟨#[110, 111, 116]⟩ : ByteArray), (⟨#[105, 115]⟩ : ByteArray), (⟨#[110, 117, 108, 108]⟩ : ByteArray), (⟨#[99, 111, 117, 110, 116]⟩ : ByteArray), (⟨#[115, 117, 109]⟩ : ByteArray), (⟨#[109, 105, 110]⟩ : ByteArray), (⟨#[109, 97, 120]⟩ : ByteArray)] : List ByteArray)) := ⟨_, rfl⟩
 replace H : (r05_Word.l0 k a0 y189 0) = some r := by first | (rw [hy189]; with_reducible exact H) | (have H2_ := (Option.bind_some _ _).symm.trans H; rw [hy189]; with_reducible exact H2_) | (have H2_ := (Option.bind_some _ _).symm.trans H; with_reducible exact H2_) | with_reducible exact H | (rw [hy189]; exact H) | exact H
 have Ny189 := am_ hy189; clear hy189; have H' := am_ H; clear H
 go_enter Try.func86, Try.ntmps86
 go_wp2_with (first | ((with_reducible refine gate_dst (N := 5) rfl ?_); refine Kd.R_lit Kd.string _ 9 ?hg (N := 5) ?hd (xs := ([(⟨#[115, 101, 108, 101, 99, 116]⟩ : ByteArray), (⟨#[102, 114, 111, 109]⟩ : ByteArray), (⟨#[106, 111, 105, 110]⟩ : ByteArray), (⟨#[108, 101, 102, 116]⟩ : ByteArray), (⟨#[115, 101, 109, 105]⟩ : ByteArray), (⟨#[97, 110, 116, 105]⟩ : ByteArray), (⟨#[111, 110]⟩ : ByteArray), (⟨#[119, 104, 101, 114, 101]⟩ : ByteArray), (⟨#[103, 114, 111, 117, 112]⟩ : ByteArray), (⟨#[98, 121]⟩ : ByteArray), (⟨#[97, 115]⟩ : ByteArray), (⟨#[97, 110, 100]⟩ : ByteArray), (⟨#[111, 114]⟩ : ByteArray), (⟨#[110, 111, 116]⟩ : ByteArray), (⟨#[105, 115]⟩ : ByteArray), (⟨#[110, 117, 108, 108]⟩ : ByteArray), (⟨#[99, 111, 117, 110, 116]⟩ : ByteArray), (⟨#[115, 117, 109]⟩ : ByteArray), (⟨#[109, 105, 110]⟩ : ByteArray), (⟨#[109, 97, 120]⟩ : ByteArray)] : List ByteArray)) (inner := [.string (⟨#[115, 101, 108, 101, 99, 116]⟩ : ByteArray), .string (⟨#[102, 114, 111, 109]⟩ : ByteArray), .string (⟨#[106, 111, 105, 110]⟩ : ByteArray), .string (⟨#[108, 101, 102, 116]⟩ : ByteArray), .string (⟨#[115, 101, 109, 105]⟩ : ByteArray), .string (⟨#[97, 110, 116, 105]⟩ : ByteArray), .string (⟨#[111, 110]⟩ : ByteArray), .string (⟨#[119, 104, 101, 114, 101]⟩ : ByteArray), .string (⟨#[103, 114, 111, 117, 112]⟩ : ByteArray), .string (⟨#[98, 121]⟩ : ByteArray), .string (⟨#[97, 115]⟩ : ByteArray), .string (⟨#[97, 110, 100]⟩ : ByteArray), .string (⟨#[111, 114]⟩ : ByteArray), .string (⟨#[110, 111, 116]⟩ : ByteArray), .string (⟨#[105, 115]⟩ : ByteArray), .string (⟨#[110, 117, 108, 108]⟩ : ByteArray), .string (⟨#[99, 111, 117, 110, 116]⟩ : ByteArray), .string (⟨#[115, 117, 109]⟩ : ByteArray), .string (⟨#[109, 105, 110]⟩ : ByteArray), .string (⟨#[109, 97, 120]⟩ : ByteArray)]) (ok := fun _ => True) (okp := fun _ => True) ?hr ?hp (fun _ hk => hk) trivial (Below.refl _ _) (Nat.le_refl _) (by simp) ?_; (case hd => rfl); (case hg => rfl); (case hr => first | (go_simp; done) | (go_simp; rfl)); (case hp => exact (Reps.one (show Kd.M Kd.string _ _ _ (⟨#[115, 101, 108, 101, 99, 116]⟩ : ByteArray) [.string (⟨#[115, 101, 108, 101, 99, 116]⟩ : ByteArray)] from rfl) (Reps.one (show Kd.M Kd.string _ _ _ (⟨#[102, 114, 111, 109]⟩ : ByteArray) [.string (⟨#[102, 114, 111, 109]⟩ : ByteArray)] from rfl) (Reps.one (show Kd.M Kd.string _ _ _ (⟨#[106, 111, 105, 110]⟩ : ByteArray) [.string (⟨#[106, 111, 105, 110]⟩ : ByteArray)] from rfl) (Reps.one (show Kd.M Kd.string _ _ _ (⟨#[108, 101, 102, 116]⟩ : ByteArray) [.string (⟨#[108, 101, 102, 116]⟩ : ByteArray)] from rfl) (Reps.one (show Kd.M Kd.string _ _ _ (⟨#[115, 101, 109, 105]⟩ : ByteArray) [.string (⟨#[115, 101, 109, 105]⟩ : ByteArray)] from rfl) (Reps.one (show Kd.M Kd.string _ _ _ (⟨#[97, 110, 116, 105]⟩ : ByteArray) [.string (⟨#[97, 110, 116, 105]⟩ : ByteArray)] from rfl) (Reps.one (show Kd.M Kd.string _ _ _ (⟨#[111, 110]⟩ : ByteArray) [.string (⟨#[111, 110]⟩ : ByteArray)] from rfl) (Reps.one (show Kd.M Kd.string _ _ _ (⟨#[119, 104, 101, 114, 101]⟩ : ByteArray) [.string (⟨#[119, 104, 101, 114, 101]⟩ : ByteArray)] from rfl) (Reps.one (show Kd.M Kd.string _ _ _ (⟨#[103, 114, 111, 117, 112]⟩ : ByteArray) [.string (⟨#[103, 114, 111, 117, 112]⟩ : ByteArray)] from rfl) (Reps.one (show Kd.M Kd.string _ _ _ (⟨#[98, 121]⟩ : ByteArray) [.string (⟨#[98, 121]⟩ : ByteArray)] from rfl) (Reps.one (show Kd.M Kd.string _ _ _ (⟨#[97, 115]⟩ : ByteArray) [.string (⟨#[97, 115]⟩ : ByteArray)] from rfl) (Reps.one (show Kd.M Kd.string _ _ _ (⟨#[97, 110, 100]⟩ : ByteArray) [.string (⟨#[97, 110, 100]⟩ : ByteArray)] from rfl) (Reps.one (show Kd.M Kd.string _ _ _ (⟨#[111, 114]⟩ : ByteArray) [.string (⟨#[111, 114]⟩ : ByteArray)] from rfl) (Reps.one (show Kd.M Kd.string _ _ _ (⟨#[110, 111, 116]⟩ : ByteArray) [.string (⟨#[110, 111, 116]⟩ : ByteArray)] from rfl) (Reps.one (show Kd.M Kd.string _ _ _ (⟨#[105, 115]⟩ : ByteArray) [.string (⟨#[105, 115]⟩ : ByteArray)] from rfl) (Reps.one (show Kd.M Kd.string _ _ _ (⟨#[110, 117, 108, 108]⟩ : ByteArray) [.string (⟨#[110, 117, 108, 108]⟩ : ByteArray)] from rfl) (Reps.one (show Kd.M Kd.string _ _ _ (⟨#[99, 111, 117, 110, 116]⟩ : ByteArray) [.string (⟨#[99, 111, 117, 110, 116]⟩ : ByteArray)] from rfl) (Reps.one (show Kd.M Kd.string _ _ _ (⟨#[115, 117, 109]⟩ : ByteArray) [.string (⟨#[115, 117, 109]⟩ : ByteArray)] from rfl) (Reps.one (show Kd.M Kd.string _ _ _ (⟨#[109, 105, 110]⟩ : ByteArray) [.string (⟨#[109, 105, 110]⟩ : ByteArray)] from rfl) (Reps.one (show Kd.M Kd.string _ _ _ (⟨#[109, 97, 120]⟩ : ByteArray) [.string (⟨#[109, 97, 120]⟩ : ByteArray)] from rfl) (Reps.none _ _)))))))))))))))))))))); intro v190 w2 ho3 hb hg_ hnew_; clear hg_ hnew_; (first | rw [← Ny189.out] at ho3 | (simp only [Int.reduceToNat] at ho3; rw [← Ny189.out] at ho3)); have HO191 := am_ (Kd.R_lower ho3 (below_size (bl_))); replace HB := am_ (below_step (bl_) hb); clear hb ho3))
 go_loopg [4] k (fun kq v4 w' => ∃ (x4_1 : Int), v4 = .int .i64 x4_1 ∧ Aside0 (r05_Word.l0 kq a0 y189 x4_1 = some r) ∧ Aside0 (kq ≤ k) ∧ Aside0 (Kd.R Kd.string 9 w' w.heap.size (fun _ => True) v190 y189) ∧ Aside0 (Below w.heap.size w w'))
 case atStart => exact ⟨(0), (rs_), H', ⟨Nat.le_refl _⟩, ⟨kr_ HO191.out⟩, ⟨bl_⟩⟩
 case round =>
  clear H'; (try clear p2); obtain ⟨x4_1, rfl, HA, HK1, HO_3, HB⟩ := hrel
  cases gk with
  | zero => exact absurd HA.out (by simp [r05_Word.l0])
  | succ k1 =>
   have H := HA.out; clear HA; simp only [r05_Word.l0] at H
   by_cases c4 : x4_1 < (y189.length : Int)
   ·rw [if_pos c4] at H
    have c4b0 : decide (x4_1 < (y189.length : Int)) = true := decide_eq_true c4; clear c4
    by_cases c5 : 0 ≤ x4_1
    ·rw [if_pos c5] at H
     have c5b0 : decide (0 ≤ x4_1) = true := decide_eq_true c5; clear c5
     by_cases c6 : (rdOf ByteArray.empty y189 x4_1).toList = a0.toList
     ·rw [if_pos c6] at H
      have c6b0 : ((rdOf ByteArray.empty y189 x4_1).toList == a0.toList) = true := beq_iff_eq.mpr c6; have c6b1 : ((rdOf ByteArray.empty y189 x4_1).toList != a0.toList) = false := bne_eq_false_iff_eq.mpr c6; clear c6; obtain rfl := Option.some.inj H; obtain ⟨Ao7, co7, eo7⟩ := Kd.R_slice HO_3.out; subst eo7; have p192 : 0 ≤ (x4_1 : Int) := of_decide_eq_true (as_); have q192 : x4_1 < (y189.length : Int) := of_decide_eq_true (as_); obtain ⟨ad192, e192, hx192_0⟩ := Kd.at_string (Kd.R_reads' HO_3.out).2.2 x4_1 p192 q192; cases e192; replace p192 := eq_true p192; replace q192 := eq_true q192
      go_wp2
      go_ret
      exact ⟨ew_, bl_⟩
     ·rw [if_neg c6] at H
      have c6b0 : ((rdOf ByteArray.empty y189 x4_1).toList == a0.toList) = false := beq_eq_false_iff_ne.mpr c6; have c6b1 : ((rdOf ByteArray.empty y189 x4_1).toList != a0.toList) = true := bne_iff_ne.mpr c6; have H' := am_ H; clear H; obtain ⟨Ao8, co8, eo8⟩ := Kd.R_slice HO_3.out; subst eo8; have p192 : 0 ≤ (x4_1 : Int) := of_decide_eq_true (as_); have q192 : x4_1 < (y189.length : Int) := of_decide_eq_true (as_); obtain ⟨ad192, e192, hx192_0⟩ := Kd.at_string (Kd.R_reads' HO_3.out).2.2 x4_1 p192 q192; cases e192; replace p192 := eq_true p192; replace q192 := eq_true q192
      go_wp2
      go_roundg k1
      case measure => have := HK1.out; omega
      case rel => exact ⟨(wrap64 (x4_1 + 1)), (rs_), H', ⟨by have := HK1.out; omega⟩, ⟨kr_ HO_3.out⟩, ⟨bl_⟩⟩
    ·rw [if_neg c5] at H
     exact absurd H (by simp)
   ·rw [if_neg c4] at H
    have c4b0 : decide (x4_1 < (y189.length : Int)) = false := decide_eq_false c4; clear c4; obtain rfl := Option.some.inj H; obtain ⟨Ao9, co9, eo9⟩ := Kd.R_slice HO_3.out; subst eo9
    go_wp2
    go_ret
    exact ⟨ew_, bl_⟩

def r07_number.l0 : Nat → ByteArray → Int → Int → Option (Int × Bool)
 | 0, _, _, _ => none
 | k + 1, x0, x4, x5 => if x5 < (x0.size : Int) then (if 0 ≤ x5 then (if x4 > 922337203685477580 then (some (0, false)) else (if x4 = 922337203685477580 then (if (wrap64 ((wrap64 (bt x0 x5)) - 48)) > 7 then (some (0, false)) else (r07_number.l0 k x0 (wrap64 ((wrap64 (10 * x4)) + (wrap64 ((wrap64 (bt x0 x5)) - 48)))) (wrap64 (x5 + 1)))) else (r07_number.l0 k x0 (wrap64 ((wrap64 (10 * x4)) + (wrap64 ((wrap64 (bt x0 x5)) - 48)))) (wrap64 (x5 + 1))))) else (none)) else (some (x4, true))
def r07_number.f (k : Nat) (a0 : ByteArray) : Option (Int × Bool) := r07_number.l0 k a0 0 0
theorem r07_number.mono_l : ∀ k, (∀ y0 y1 y2, LeO (r07_number.l0 k y0 y1 y2) (r07_number.l0 (k + 1) y0 y1 y2))
 | 0 => fun _ _ _ r h => by simp [r07_number.l0] at h
 | k + 1 => by
  have ih0 := r07_number.mono_l k
  ·intro y0 y1 y2
   unfold r07_number.l0
   repeat' first
   | (with_reducible exact ih0 _ _ _)
   | (with_reducible exact LeO.refl _)
   | (with_reducible exact LeO.none _)
   | (with_reducible refine LeO.ite ?_ ?_)
   | (with_reducible refine LeO.bind ?_ (fun _ => ?_))
   | exact ih0 _ _ _
   | exact LeO.none _
   | refine LeO.ite ?_ ?_
   | refine LeO.bind ?_ (fun _ => ?_)
theorem r07_number.mono : ∀ a0 k, LeO (r07_number.f k a0) (r07_number.f (k + 1) a0) := by
 intro a0 k; have ih0 := r07_number.mono_l k; unfold r07_number.f
 repeat' first
   | (with_reducible exact ih0 _ _ _)
   | (with_reducible exact LeO.refl _)
   | (with_reducible exact LeO.none _)
   | (with_reducible refine LeO.ite ?_ ?_)
   | (with_reducible refine LeO.bind ?_ (fun _ => ?_))
   | exact ih0 _ _ _
   | exact LeO.none _
   | refine LeO.ite ?_ ?_
   | refine LeO.bind ?_ (fun _ => ?_)
theorem r07_number.calls (k : Nat) (a0 : ByteArray) (r1 : Int) (r2 : Bool) (w : World) (h : r07_number.f k a0 = some (r1, r2)) :
  Calls Try.prog 87 #[.string a0] w fun e w' => e = .returned (.tuple #[.int .i64 r1, .bool r2]) ∧ Drawn0 w w' := by
 have H : (r07_number.l0 k a0 0 0) = some (r1, r2) := h; clear h; have H' := am_ H; clear H
 go_enter Try.func87, Try.ntmps87
 go_wp2
 go_loopg [4, 5] k (fun kq v4 v5 w' => ∃ (x4_1 : Int) (x5_1 : Int), v4 = .int .i64 x4_1 ∧ v5 = .int .i64 x5_1 ∧ Aside0 (r07_number.l0 kq a0 x4_1 x5_1 = some (r1, r2)) ∧ Aside0 (kq ≤ k) ∧ Drawn0 w w')
 case atStart => exact ⟨(0), (0), (rs_), (rs_), H', ⟨Nat.le_refl _⟩, by repeat (first | exact Drawn0.refl _ | apply Drawn0.step)⟩
 case round =>
  clear H'; obtain ⟨x4_1, x5_1, rfl, rfl, HA, HK1, ⟨m1, rfl⟩⟩ := hrel
  cases gk with
  | zero => exact absurd HA.out (by simp [r07_number.l0])
  | succ k1 =>
   have H := HA.out; clear HA; simp only [r07_number.l0] at H
   by_cases c2 : x5_1 < (a0.size : Int)
   ·rw [if_pos c2] at H
    have c2b0 : decide (x5_1 < (a0.size : Int)) = true := decide_eq_true c2; clear c2
    by_cases c3 : 0 ≤ x5_1
    ·rw [if_pos c3] at H
     have c3b0 : decide (0 ≤ x5_1) = true := decide_eq_true c3; clear c3
     by_cases c5 : x4_1 > 922337203685477580
     ·rw [if_pos c5] at H
      have c5b0 : decide (922337203685477580 < x4_1) = true := decide_eq_true c5; clear c5; simp only [Option.some.injEq, Prod.mk.injEq] at H; obtain ⟨rfl, rfl⟩ := H; have p4 : 0 ≤ (x5_1 : Int) := of_decide_eq_true (as_); have q4 : x5_1 < (a0.size : Int) := of_decide_eq_true (as_); have hx4 := bt_at a0 x5_1; replace p4 := eq_true p4; replace q4 := eq_true q4
      go_wp2
      go_ret2
      exact ⟨rs_, by repeat (first | exact Drawn0.refl _ | apply Drawn0.step)⟩
     ·rw [if_neg c5] at H
      have c5b0 : decide (922337203685477580 < x4_1) = false := decide_eq_false c5; clear c5
      by_cases c6 : x4_1 = 922337203685477580
      ·rw [if_pos c6] at H
       have c6b0 : (x4_1 == 922337203685477580) = true := beq_iff_eq.mpr c6; have c6b1 : (x4_1 != 922337203685477580) = false := bne_eq_false_iff_eq.mpr c6; clear c6
       by_cases c7 : (wrap64 ((wrap64 (bt a0 x5_1)) - 48)) > 7
       ·rw [if_pos c7] at H
        have c7b0 : decide (7 < (wrap64 ((wrap64 (bt a0 x5_1)) - 48))) = true := decide_eq_true c7; clear c7; simp only [Option.some.injEq, Prod.mk.injEq] at H; obtain ⟨rfl, rfl⟩ := H; have p4 : 0 ≤ (x5_1 : Int) := of_decide_eq_true (as_); have q4 : x5_1 < (a0.size : Int) := of_decide_eq_true (as_); have hx4 := bt_at a0 x5_1; replace p4 := eq_true p4; replace q4 := eq_true q4
        go_wp2
        go_ret2
        exact ⟨rs_, by repeat (first | exact Drawn0.refl _ | apply Drawn0.step)⟩
       ·rw [if_neg c7] at H
        have c7b0 : decide (7 < (wrap64 ((wrap64 (bt a0 x5_1)) - 48))) = false := decide_eq_false c7; clear c7; have H' := am_ H; clear H; have p4 : 0 ≤ (x5_1 : Int) := of_decide_eq_true (as_); have q4 : x5_1 < (a0.size : Int) := of_decide_eq_true (as_); have hx4 := bt_at a0 x5_1; replace p4 := eq_true p4; replace q4 := eq_true q4
        go_wp2
        go_roundg k1
        case measure => have := HK1.out; omega
        case rel => exact ⟨(wrap64 ((wrap64 (10 * x4_1)) + (wrap64 ((wrap64 (bt a0 x5_1)) - 48)))), (wrap64 (x5_1 + 1)), (rs_), (rs_), H', ⟨by have := HK1.out; omega⟩, by repeat (first | exact Drawn0.refl _ | apply Drawn0.step)⟩
      ·rw [if_neg c6] at H
       have c6b0 : (x4_1 == 922337203685477580) = false := beq_eq_false_iff_ne.mpr c6; have c6b1 : (x4_1 != 922337203685477580) = true := bne_iff_ne.mpr c6; have H' := am_ H; clear H; have p4 : 0 ≤ (x5_1 : Int) := of_decide_eq_true (as_); have q4 : x5_1 < (a0.size : Int) := of_decide_eq_true (as_); have hx4 := bt_at a0 x5_1; replace p4 := eq_true p4; replace q4 := eq_true q4
       go_wp2
       go_roundg k1
       case measure => have := HK1.out; omega
       case rel => exact ⟨(wrap64 ((wrap64 (10 * x4_1)) + (wrap64 ((wrap64 (bt a0 x5_1)) - 48)))), (wrap64 (x5_1 + 1)), (rs_), (rs_), H', ⟨by have := HK1.out; omega⟩, by repeat (first | exact Drawn0.refl _ | apply Drawn0.step)⟩
    ·rw [if_neg c3] at H
     exact absurd H (by simp)
   ·rw [if_neg c2] at H
    have c2b0 : decide (x5_1 < (a0.size : Int)) = false := decide_eq_false c2; clear c2; simp only [Option.some.injEq, Prod.mk.injEq] at H; obtain ⟨rfl, rfl⟩ := H
    go_wp2
    go_ret2
    exact ⟨rs_, by repeat (first | exact Drawn0.refl _ | apply Drawn0.step)⟩

mutual
def r07_text.l0 : Nat → ByteArray → Int → Int → ByteArray → Int → Option (Int × ByteArray × Int × Int × Int × Int)
 | 0, _, _, _, _, _ => none
 | k + 1, x0, x1, x2, x9, x10 => if x10 < (x0.size : Int) then (if 0 ≤ x10 then (if (bt x0 x10) = 39 then (if (wrap64 (x10 + 1)) < (x0.size : Int) then (if 0 ≤ (wrap64 (x10 + 1)) then (r07_text.j1 k x0 x1 x2 x9 x10 ((bt x0 (wrap64 (x10 + 1))) == 39)) else (none)) else (r07_text.j1 k x0 x1 x2 x9 x10 false)) else (if x10 ≤ (wrap64 (x10 + 1)) then (if (wrap64 (x10 + 1)) ≤ (x0.size : Int) then (if x9.size + (x0.extract (x10 : Int).toNat ((wrap64 (x10 + 1)) : Int).toNat).size ≤ 9223372036854775807 then (r07_text.l0 k x0 x1 x2 (x9 ++ (x0.extract (x10 : Int).toNat ((wrap64 (x10 + 1)) : Int).toNat)) (wrap64 (x10 + 1))) else (none)) else (none)) else (none))) else (none)) else (some (0, (⟨#[]⟩ : ByteArray), 0, 0, x1, 1))
def r07_text.j1 : Nat → ByteArray → Int → Int → ByteArray → Int → Bool → Option (Int × ByteArray × Int × Int × Int × Int)
 | 0, _, _, _, _, _, _ => none
 | k + 1, x0, x1, x2, x9, x10, x41 => if x41 = true then (if x9.size + 1 ≤ 9223372036854775807 then (r07_text.l0 k x0 x1 x2 (x9 ++ (⟨#[39]⟩ : ByteArray)) (wrap64 (x10 + 2))) else (none)) else (if (x9.size : Int) > 65536 then (some (0, (⟨#[]⟩ : ByteArray), 0, 0, x1, 4)) else (some (4, x9, 0, x2, wrap64 (x10 + 1), 0)))
end
def r07_text.f (k : Nat) (a0 : ByteArray) (a1 : Int) (a2 : Int) : Option (Int × ByteArray × Int × Int × Int × Int) := r07_text.l0 k a0 a1 a2 (⟨#[]⟩ : ByteArray) (wrap64 (a2 + 1))
theorem r07_text.mono_l : ∀ k, (∀ y0 y1 y2 y3 y4, LeO (r07_text.l0 k y0 y1 y2 y3 y4) (r07_text.l0 (k + 1) y0 y1 y2 y3 y4)) ∧ (∀ y0 y1 y2 y3 y4 y5, LeO (r07_text.j1 k y0 y1 y2 y3 y4 y5) (r07_text.j1 (k + 1) y0 y1 y2 y3 y4 y5))
 | 0 => ⟨fun _ _ _ _ _ r h => by simp [r07_text.l0] at h, fun _ _ _ _ _ _ r h => by simp [r07_text.j1] at h⟩
 | k + 1 => by
  obtain ⟨ih0, ih1⟩ := r07_text.mono_l k; refine ⟨?_, ?_⟩
  ·intro y0 y1 y2 y3 y4
   unfold r07_text.l0
   repeat' first
   | (with_reducible exact ih0 _ _ _ _ _)
   | (with_reducible exact ih1 _ _ _ _ _ _)
   | (with_reducible exact LeO.refl _)
   | (with_reducible exact LeO.none _)
   | (with_reducible refine LeO.ite ?_ ?_)
   | (with_reducible refine LeO.bind ?_ (fun _ => ?_))
   | exact ih0 _ _ _ _ _
   | exact ih1 _ _ _ _ _ _
   | exact LeO.none _
   | refine LeO.ite ?_ ?_
   | refine LeO.bind ?_ (fun _ => ?_)
  ·intro y0 y1 y2 y3 y4 y5
   unfold r07_text.j1
   repeat' first
   | (with_reducible exact ih0 _ _ _ _ _)
   | (with_reducible exact ih1 _ _ _ _ _ _)
   | (with_reducible exact LeO.refl _)
   | (with_reducible exact LeO.none _)
   | (with_reducible refine LeO.ite ?_ ?_)
   | (with_reducible refine LeO.bind ?_ (fun _ => ?_))
   | exact ih0 _ _ _ _ _
   | exact ih1 _ _ _ _ _ _
   | exact LeO.none _
   | refine LeO.ite ?_ ?_
   | refine LeO.bind ?_ (fun _ => ?_)
theorem r07_text.mono : ∀ a0 a1 a2 k, LeO (r07_text.f k a0 a1 a2) (r07_text.f (k + 1) a0 a1 a2) := by
 intro a0 a1 a2 k; obtain ⟨ih0, ih1⟩ := r07_text.mono_l k; unfold r07_text.f
 repeat' first
   | (with_reducible exact ih0 _ _ _ _ _)
   | (with_reducible exact ih1 _ _ _ _ _ _)
   | (with_reducible exact LeO.refl _)
   | (with_reducible exact LeO.none _)
   | (with_reducible refine LeO.ite ?_ ?_)
   | (with_reducible refine LeO.bind ?_ (fun _ => ?_))
   | exact ih0 _ _ _ _ _
   | exact ih1 _ _ _ _ _ _
   | exact LeO.none _
   | refine LeO.ite ?_ ?_
   | refine LeO.bind ?_ (fun _ => ?_)
theorem r07_text.calls (k : Nat) (a0 : ByteArray) (a1 : Int) (a2 : Int) (r1 : Int) (r2 : ByteArray) (r3 : Int) (r4 : Int) (r5 : Int) (r6 : Int) (w : World) (h : r07_text.f k a0 a1 a2 = some (r1, r2, r3, r4, r5, r6)) :
  Calls Try.prog 88 #[.string a0, .int .i64 a1, .int .i64 a2] w fun e w' => e = .returned (.tuple #[.agg #[.int .i64 r1, .string r2, .int .i64 r3, .int .i64 r4], .int .i64 r5, .int .i64 r6]) ∧ Below w.heap.size w w' := by
 have hu91 := Try.underlying91; have HB := am_ (Below.refl w.heap.size w); have H : (r07_text.l0 k a0 a1 a2 (⟨#[]⟩ : ByteArray) (wrap64 (a2 + 1))) = some (r1, r2, r3, r4, r5, r6) := h; clear h; have H' := am_ H; clear H
 go_enter Try.func88, Try.ntmps88
 go_wp2_with (first | ((with_reducible refine gate_dst (N := 6) rfl ?_); refine box_event ?hg (N := 6) ?hd (cs := #[.int .i64 0, .string (⟨#[]⟩ : ByteArray), .int .i64 0, .int .i64 0]) (t := 91) ?hr ?_; (case hd => rfl); (case hg => rfl); (case hr => first | (go_simp; done) | (go_simp; rfl)); intro gb193 hg w4 hbox hb; have BK193 := am_ (hbox); have GW193 := am_ ((by rw [hg]; exact (below_size (bl_)) : w.heap.size ≤ gb193)); have GE193 := am_ ((by rw [hg]; exact (below_size (bl_)) : w.heap.size ≤ gb193)); replace HB := am_ (below_step (bl_) hb); clear hb hbox hg))
 go_loopg [9, 10] k (fun kq v9 v10 w' => ∃ (x9_1 : ByteArray) (x10_1 : Int) (x194000_1 : Int) (x194001_1 : ByteArray) (x194002_1 : Int) (x194003_1 : Int), v9 = .string x9_1 ∧ v10 = .int .i64 x10_1 ∧ Aside0 (r07_text.l0 kq a0 a1 a2 x9_1 x10_1 = some (r1, r2, r3, r4, r5, r6)) ∧ Aside0 (kq ≤ k) ∧ Aside0 (w'.heap[gb193]? = some (.cells #[.int .i64 x194000_1, .string x194001_1, .int .i64 x194002_1, .int .i64 x194003_1] 91 (0, 0))) ∧ Aside0 (Below w.heap.size w w'))
 case atStart => exact ⟨((⟨#[]⟩ : ByteArray)), (wrap64 (a2 + 1)), (0), ((⟨#[]⟩ : ByteArray)), (0), (0), (rs_), (rs_), H', ⟨Nat.le_refl _⟩, ⟨bk_ BK193.out⟩, ⟨bl_⟩⟩
 case round =>
  clear H'; (try clear p2); obtain ⟨x9_1, x10_1, x194000_1, x194001_1, x194002_1, x194003_1, rfl, rfl, HA, HK1, BK193, HB⟩ := hrel
  cases gk with
  | zero => exact absurd HA.out (by simp [r07_text.l0])
  | succ k1 =>
   have H := HA.out; clear HA; simp only [r07_text.l0] at H
   by_cases c5 : x10_1 < (a0.size : Int)
   ·rw [if_pos c5] at H
    have c5b0 : decide (x10_1 < (a0.size : Int)) = true := decide_eq_true c5; clear c5
    by_cases c6 : 0 ≤ x10_1
    ·rw [if_pos c6] at H
     have c6b0 : decide (0 ≤ x10_1) = true := decide_eq_true c6; clear c6
     by_cases c8 : (bt a0 x10_1) = 39
     ·rw [if_pos c8] at H
      have c8b0 : ((bt a0 x10_1) == 39) = true := beq_iff_eq.mpr c8; have c8b1 : ((bt a0 x10_1) != 39) = false := bne_eq_false_iff_eq.mpr c8; clear c8; have HC9 := am_ H; clear H; have p7 : 0 ≤ (x10_1 : Int) := of_decide_eq_true (as_); have q7 : x10_1 < (a0.size : Int) := of_decide_eq_true (as_); have hx7 := bt_at a0 x10_1; replace p7 := eq_true p7; replace q7 := eq_true q7
      go_upto_region 7 with (fail)
      go_cut [41] (fun v41 wc => ∃ (kq : Nat) (x41_8 : Bool), v41 = .bool x41_8 ∧ Aside0 (r07_text.j1 kq a0 a1 a2 x9_1 x10_1 x41_8 = some (r1, r2, r3, r4, r5, r6)) ∧ Aside0 (kq ≤ k1) ∧ Aside0 (wc.heap[gb193]? = some (.cells #[.int .i64 x194000_1, .string x194001_1, .int .i64 x194002_1, .int .i64 x194003_1] 91 (0, 0))) ∧ Aside0 (Below w.heap.size w wc))
      case first =>
       have H := HC9.out; clear HC9
       by_cases c10 : (wrap64 (x10_1 + 1)) < (a0.size : Int)
       ·rw [if_pos c10] at H
        have c10b0 : decide ((wrap64 (x10_1 + 1)) < (a0.size : Int)) = true := decide_eq_true c10; clear c10; (first | rw [c10b0] | (simp only [i64_w, i32_w]; rw [c10b0]) | skip)
        obtain ⟨ji11, hji11⟩ : ∃ j_ : Int, (wrap64 (x10_1 + 1)) = j_ := ⟨_, rfl⟩
        replace H : (if 0 ≤ (ji11) then (r07_text.j1 k1 a0 a1 a2 x9_1 x10_1 ((bt a0 (ji11)) == 39)) else (none)) = some (r1, r2, r3, r4, r5, r6) := by first | (rw [hji11] at H; exact H) | (simp only [hji11] at H ⊢; exact H)
        (try rw [hji11] at c10b0); have hji11w : (IntKind.i64.wrap (x10_1 + 1)) = ji11 := (i64_w _).trans hji11
        by_cases c12 : 0 ≤ (ji11)
        ·rw [if_pos c12] at H
         have c12b0 : decide (0 ≤ (ji11)) = true := decide_eq_true c12; clear c12; have H' := am_ H; clear H; have p13 : 0 ≤ ((ji11) : Int) := of_decide_eq_true (as_); have q13 : (ji11) < (a0.size : Int) := of_decide_eq_true (as_); have hx13 := bt_at a0 (ji11); replace p13 := eq_true p13; replace q13 := eq_true q13
         go_wp2
         go_meet
         case rel => exact ⟨_, (((bt a0 (ji11)) == 39)), (by first | rfl | (simp; done) | (simp only [← hji11] <;> (first | rfl | simp)) | (simp [*]; done)), H', ⟨by have := HK1.out; first | omega | exact Nat.le_refl _⟩, ⟨bk_ BK193.out⟩, ⟨bl_⟩⟩
        ·rw [if_neg c12] at H
         exact absurd H (by simp)
       ·rw [if_neg c10] at H
        have c10b0 : decide ((wrap64 (x10_1 + 1)) < (a0.size : Int)) = false := decide_eq_false c10; clear c10; (first | rw [c10b0] | (simp only [i64_w, i32_w]; rw [c10b0]) | skip); have H' := am_ H; clear H
        go_wp2
        go_meet
        case rel => exact ⟨_, (false), (rs_), H', ⟨by have := HK1.out; first | omega | exact Nat.le_refl _⟩, ⟨bk_ BK193.out⟩, ⟨bl_⟩⟩
      case rest =>
       clear HC9; (try clear c1); (try clear p1); (try clear q1); (try clear hx1); (try clear p2); (try clear c5); (try clear c5b0); (try clear c6); (try clear c6b0); (try clear p6); (try clear p7); (try clear q7); (try clear hx7); (try clear c8); (try clear c8b0); (try clear c8b1); (try clear c10); (try clear c10b0); (try clear c12); (try clear c12b0); (try clear p13); (try clear q13); (try clear hx13); (try clear p13); (try clear p2); (try clear p7); (try clear q13); (try clear q7); obtain ⟨kq, x41_8, rfl, HA, HJ8, BK193, HB⟩ := hcut
       cases kq with
       | zero => exact absurd HA.out (by simp [r07_text.j1])
       | succ kj8 =>
        have H := HA.out; clear HA; simp only [r07_text.j1] at H
        by_cases c14 : x41_8 = true
        ·subst c14
         have H1 : (if x9_1.size + 1 ≤ 9223372036854775807 then (r07_text.l0 kj8 a0 a1 a2 (x9_1 ++ (⟨#[39]⟩ : ByteArray)) (wrap64 (x10_1 + 2))) else (none)) = some (r1, r2, r3, r4, r5, r6) := by rw [if_pos rfl] at H; exact H
         clear H; have H := H1; clear H1
         by_cases c15 : x9_1.size + 1 ≤ 9223372036854775807
         ·rw [if_pos c15] at H
          have c15b0 := eq_true c15; have c15b1 : decide (x9_1.size + 1 ≤ 9223372036854775807) = true := decide_eq_true c15
          try have c15b2 : (9223372036854775807 < x9_1.size + 1) = False := eq_false (Nat.not_lt.2 c15)
          have H' := am_ H; clear H
          go_wp2
          go_roundg kj8
          case measure => have := HK1.out; have := HJ8.out; omega
          case rel => exact ⟨(x9_1 ++ (⟨#[39]⟩ : ByteArray)), (wrap64 (x10_1 + 2)), (x194000_1), (x194001_1), (x194002_1), (x194003_1), (rs_), (rs_), H', ⟨by have := HK1.out; have := HJ8.out; omega⟩, ⟨bk_ BK193.out⟩, ⟨bl_⟩⟩
         ·rw [if_neg c15] at H
          exact absurd H (by simp)
        ·replace c14 := Bool.eq_false_iff.mpr c14
         subst c14
         have H1 : (if (x9_1.size : Int) > 65536 then (some (0, (⟨#[]⟩ : ByteArray), 0, 0, a1, 4)) else (some (4, x9_1, 0, a2, wrap64 (x10_1 + 1), 0))) = some (r1, r2, r3, r4, r5, r6) := by rw [if_neg (show ¬ (false = true) by decide)] at H; exact H
         clear H; have H := H1; clear H1
         by_cases c16 : (x9_1.size : Int) > 65536
         ·rw [if_pos c16] at H
          have c16b0 : decide (65536 < (x9_1.size : Int)) = true := decide_eq_true c16; have c16b1 : decide (65536 < x9_1.size) = true := decide_eq_true (by omega); clear c16; simp only [Option.some.injEq, Prod.mk.injEq] at H; obtain ⟨rfl, rfl, rfl, rfl, rfl, rfl⟩ := H; obtain ⟨hcz17_0, hcz17_1, hcz17_2, hcz17_3, hfz17_0, hfz17_1, hfz17_2, hfz17_3⟩ := bw4_ BK193.out
          go_wp2
          refine bodyPost_ret (results_ctt rfl _ _ gb193 91 #[.int .i64 0, .string (⟨#[]⟩ : ByteArray), .int .i64 0, .int .i64 0] (0, 0) _ rfl (by refine bp_ ?_; refine blk_put (cs := #[.int .i64 0, .string (⟨#[]⟩ : ByteArray), .int .i64 0, .int .i64 x194003_1]) ?_ 3 _ rfl; refine bp_ ?_; refine blk_put (cs := #[.int .i64 0, .string (⟨#[]⟩ : ByteArray), .int .i64 x194002_1, .int .i64 x194003_1]) ?_ 2 _ rfl; refine bp_ ?_; refine blk_put (cs := #[.int .i64 0, .string x194001_1, .int .i64 x194002_1, .int .i64 x194003_1]) ?_ 1 _ rfl; refine bp_ ?_; refine blk_put (cs := #[.int .i64 x194000_1, .string x194001_1, .int .i64 x194002_1, .int .i64 x194003_1]) ?_ 0 _ rfl; refine bp_ ?_; exact BK193.out) Try.underlying91 rfl (by kernel_rfl)) rfl ?_; exact ⟨ew_, bl_⟩
         ·rw [if_neg c16] at H
          have c16b0 : decide (65536 < (x9_1.size : Int)) = false := decide_eq_false c16; have c16b1 : decide (65536 < x9_1.size) = false := decide_eq_false (by omega); clear c16; simp only [Option.some.injEq, Prod.mk.injEq] at H; obtain ⟨rfl, rfl, rfl, rfl, rfl, rfl⟩ := H; obtain ⟨hcz18_0, hcz18_1, hcz18_2, hcz18_3, hfz18_0, hfz18_1, hfz18_2, hfz18_3⟩ := bw4_ BK193.out
          go_wp2
          refine bodyPost_ret (results_ctt rfl _ _ gb193 91 #[.int .i64 4, .string x9_1, .int .i64 0, .int .i64 a2] (0, 0) _ rfl (by refine bp_ ?_; refine blk_put (cs := #[.int .i64 4, .string x9_1, .int .i64 0, .int .i64 x194003_1]) ?_ 3 _ rfl; refine bp_ ?_; refine blk_put (cs := #[.int .i64 4, .string x9_1, .int .i64 x194002_1, .int .i64 x194003_1]) ?_ 2 _ rfl; refine bp_ ?_; refine blk_put (cs := #[.int .i64 4, .string x194001_1, .int .i64 x194002_1, .int .i64 x194003_1]) ?_ 1 _ rfl; refine bp_ ?_; refine blk_put (cs := #[.int .i64 x194000_1, .string x194001_1, .int .i64 x194002_1, .int .i64 x194003_1]) ?_ 0 _ rfl; refine bp_ ?_; exact BK193.out) Try.underlying91 rfl (by kernel_rfl)) rfl ?_; exact ⟨ew_, bl_⟩
     ·rw [if_neg c8] at H
      have c8b0 : ((bt a0 x10_1) == 39) = false := beq_eq_false_iff_ne.mpr c8; have c8b1 : ((bt a0 x10_1) != 39) = true := bne_iff_ne.mpr c8; have c19b0 := eq_true (of_decide_eq_true (as_) : 0 ≤ x10_1)
      by_cases c20 : x10_1 ≤ (wrap64 (x10_1 + 1))
      ·rw [if_pos c20] at H
       have c20b0 := eq_true c20; have c20b1 : decide (x10_1 ≤ (wrap64 (x10_1 + 1))) = true := decide_eq_true c20
       by_cases c21 : (wrap64 (x10_1 + 1)) ≤ (a0.size : Int)
       ·rw [if_pos c21] at H
        have c21b0 := eq_true c21; have c21b1 : decide ((wrap64 (x10_1 + 1)) ≤ (a0.size : Int)) = true := decide_eq_true c21
        by_cases c22 : x9_1.size + (a0.extract (x10_1 : Int).toNat ((wrap64 (x10_1 + 1)) : Int).toNat).size ≤ 9223372036854775807
        ·rw [if_pos c22] at H
         have c22b0 := eq_true c22; have c22b1 : decide (x9_1.size + (a0.extract (x10_1 : Int).toNat ((wrap64 (x10_1 + 1)) : Int).toNat).size ≤ 9223372036854775807) = true := decide_eq_true c22
         try have c22b2 : (9223372036854775807 < x9_1.size + (a0.extract (x10_1 : Int).toNat ((wrap64 (x10_1 + 1)) : Int).toNat).size) = False := eq_false (Nat.not_lt.2 c22)
         have H' := am_ H; clear H; have p7 : 0 ≤ (x10_1 : Int) := of_decide_eq_true (as_); have q7 : x10_1 < (a0.size : Int) := of_decide_eq_true (as_); have hx7 := bt_at a0 x10_1; replace p7 := eq_true p7; replace q7 := eq_true q7
         go_wp2
         go_roundg k1
         case measure => have := HK1.out; omega
         case rel => exact ⟨(x9_1 ++ (a0.extract (x10_1 : Int).toNat ((wrap64 (x10_1 + 1)) : Int).toNat)), (wrap64 (x10_1 + 1)), (x194000_1), (x194001_1), (x194002_1), (x194003_1), (rs_), (rs_), H', ⟨by have := HK1.out; omega⟩, ⟨bk_ BK193.out⟩, ⟨bl_⟩⟩
        ·rw [if_neg c22] at H
         exact absurd H (by simp)
       ·rw [if_neg c21] at H
        exact absurd H (by simp)
      ·rw [if_neg c20] at H
       exact absurd H (by simp)
    ·rw [if_neg c6] at H
     exact absurd H (by simp)
   ·rw [if_neg c5] at H
    have c5b0 : decide (x10_1 < (a0.size : Int)) = false := decide_eq_false c5; clear c5; simp only [Option.some.injEq, Prod.mk.injEq] at H; obtain ⟨rfl, rfl, rfl, rfl, rfl, rfl⟩ := H; obtain ⟨hcz23_0, hcz23_1, hcz23_2, hcz23_3, hfz23_0, hfz23_1, hfz23_2, hfz23_3⟩ := bw4_ BK193.out
    go_wp2
    refine bodyPost_ret (results_ctt rfl _ _ gb193 91 #[.int .i64 0, .string (⟨#[]⟩ : ByteArray), .int .i64 0, .int .i64 0] (0, 0) _ rfl (by refine bp_ ?_; refine blk_put (cs := #[.int .i64 0, .string (⟨#[]⟩ : ByteArray), .int .i64 0, .int .i64 x194003_1]) ?_ 3 _ rfl; refine bp_ ?_; refine blk_put (cs := #[.int .i64 0, .string (⟨#[]⟩ : ByteArray), .int .i64 x194002_1, .int .i64 x194003_1]) ?_ 2 _ rfl; refine bp_ ?_; refine blk_put (cs := #[.int .i64 0, .string x194001_1, .int .i64 x194002_1, .int .i64 x194003_1]) ?_ 1 _ rfl; refine bp_ ?_; refine blk_put (cs := #[.int .i64 x194000_1, .string x194001_1, .int .i64 x194002_1, .int .i64 x194003_1]) ?_ 0 _ rfl; refine bp_ ?_; exact BK193.out) Try.underlying91 rfl (by kernel_rfl)) rfl ?_; exact ⟨ew_, bl_⟩

end Go.Proofs.Ytcfgjaggccnoaaa.PParseSmall
