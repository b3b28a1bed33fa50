import Derived.Test.YtcfgjaggccnoaaaDoorPSiftPassesx0
import Derived.Test.YtcfgjaggccnoaaaDoorPSiftPassesx8
namespace Go.Proofs.YtcfgjaggccnoaaaDoor.PSiftPasses
open Go.RowKit Go.Proofs.YtcfgjaggccnoaaaDoorW.PrintWords Go.Proofs.YtcfgjaggccnoaaaDoorW.PrintLast Go.Proofs.YtcfgjaggccnoaaaDoorW.PrintMore
attribute [local go_sem] max2_int min2_int max_two min_two max_three min_three max_four min_four
set_option linter.unusedVariables false
set_option linter.unusedSimpArgs false
set_option maxRecDepth 100000

def trommelref18_New.f (a0 : Int) (a1 : Int) : Option (List Bool × Int) := (trommelref18_held.f a0 1 4096).bind fun t321 => (if 0 ≤ (wrap64 (64 * t321)) then (if (wrap64 (64 * t321) : Int).toNat ≤ 281474976710656 then ((trommelref18_held.f a1 1 5).bind fun t325 => (some ((List.replicate (wrap64 (64 * t321) : Int).toNat false), t325))) else (none)) else (none))
def trommelref18_New.T1 : Bool × List (List Nat × List Nat) := (true, [([], []), ([0], [0]), ([1], [1]), ([2, 2], [2]), ([], []), ([4, 1], [4]), ([3, 5], [3, 5]), ([6, 5, 0, 1, 2, 3, 4, 5, 6], [6])])
def trommelref18_New.B1 : List Nat := [0, 1, 3, 7, 0, 19, 63, 127]
theorem trommelref18_New.tab1 : rtab .any (opsOf Tryd.f86 1) = trommelref18_New.T1 := by kernel_rfl
theorem trommelref18_New.bits1 : waitsOk trommelref18_New.T1.2 trommelref18_New.B1 = true := by kernel_rfl
set_option maxHeartbeats 8000000 in
set_option maxRecDepth 100000 in
theorem trommelref18_New.calls (a0 : Int) (a1 : Int) (r1 : List Bool) (r2 : Int) (w : World) (h : trommelref18_New.f a0 a1 = some (r1, r2)) :
  Calls Tryd.prog 86 #[.int .i64 a0, .int .i64 a1] w fun e w' => ∃ v0_ : Value, e = .returned (.agg #[v0_, .int .i64 r2]) ∧ Kd.R Kd.bool 4 w' w.heap.size (fun _ => True) v0_ r1 ∧ Below w.heap.size w w' := by
 have hu79 := Tryd.underlying79
 have HB := am_ (Below.refl w.heap.size w)
 have H : ((trommelref18_held.f a0 1 4096).bind fun t321 => (if 0 ≤ (wrap64 (64 * t321)) then (if (wrap64 (64 * t321) : Int).toNat ≤ 281474976710656 then ((trommelref18_held.f a1 1 5).bind fun t325 => (some ((List.replicate (wrap64 (64 * t321) : Int).toNat false), t325))) else (none)) else (none))) = some (r1, r2) := h
 clear h
 replace H := Option.bind_eq_some_iff.mp H
 obtain ⟨t321, A30, H⟩ := H
 replace H : (if 0 ≤ (wrap64 (64 * t321)) then (if (wrap64 (64 * t321) : Int).toNat ≤ 281474976710656 then ((trommelref18_held.f a1 1 5).bind fun t325 => (some ((List.replicate (wrap64 (64 * t321) : Int).toNat false), t325))) else (none)) else (none)) = some (r1, r2) := H
 have A3 := am_ A30
 clear A30
 obtain ⟨ji4, hji4⟩ : ∃ j_ : Int, (wrap64 (64 * t321)) = j_ := ⟨_, rfl⟩
 replace H : (if 0 ≤ (ji4) then (if (ji4 : Int).toNat ≤ 281474976710656 then ((trommelref18_held.f a1 1 5).bind fun t325 => (some ((List.replicate (ji4 : Int).toNat false), t325))) else (none)) else (none)) = some (r1, r2) := by first | (rw [hji4] at H; exact H) | (simp only [hji4] at H ⊢; exact H)
 (try rw [hji4] at A3)
 have hji4w : (IntKind.i64.wrap (64 * t321)) = ji4 := (i64_w _).trans hji4
 by_cases c5 : 0 ≤ (ji4)
 ·rw [if_pos c5] at H
  have c5b0 := eq_true c5
  have c5b1 : decide (0 ≤ (ji4)) = true := decide_eq_true c5
  clear c5
  by_cases c6 : (ji4 : Int).toNat ≤ 281474976710656
  ·rw [if_pos c6] at H
   have c6b0 := eq_true c6
   have c6b1 : decide ((ji4 : Int).toNat ≤ 281474976710656) = true := decide_eq_true c6
   clear c6
   obtain ⟨y322, hy322⟩ : ∃ y_ : List Bool, y_ = (List.replicate (ji4 : Int).toNat false) := ⟨_, rfl⟩
   replace H : ((trommelref18_held.f a1 1 5).bind fun t325 => (some (y322, t325))) = some (r1, r2) := by first | (rw [hy322]; with_reducible exact H) | (have H2_ := (Option.bind_some _ _).symm.trans H; rw [hy322]; with_reducible exact H2_) | (have H2_ := (Option.bind_some _ _).symm.trans H; with_reducible exact H2_) | with_reducible exact H | (rw [hy322]; exact H) | exact H
   have Ny322 := am_ hy322
   clear hy322
   replace H := Option.bind_eq_some_iff.mp H
   obtain ⟨t325, A70, H⟩ := H
   replace H : (some (y322, t325)) = some (r1, r2) := H
   have A7 := am_ A70
   clear A70
   simp only [Option.some.injEq, Prod.mk.injEq] at H
   obtain ⟨rfl, rfl⟩ := H
   go_enter Tryd.func86, Tryd.ntmps86
   try go_wp2_with (first | ((with_reducible refine gate_dst (N := 4) rfl ?_); refine box_event ?hg (N := 4) ?hd (cs := #[.slice none 0 0, .int .i64 0]) (t := 79) ?hr ?_; (case hd => rfl); (case hg => rfl); (case hr => first | (go_simp; done) | (go_simp; rfl)); intro gb320 hg w8 hbox hb; have BK320 := am_ (hbox); have GW320 := am_ ((by rw [hg]; exact (below_size (bl_)) : w.heap.size ≤ gb320)); have GE320 := am_ ((by rw [hg]; exact (below_size (bl_)) : w.heap.size ≤ gb320)); replace HB := am_ (below_step (bl_) hb); clear hb hbox hg))
   have n0_ := am_ (blk_drew BK320.out)
   have n1_ := am_ (below_drew1 HB.out)
   clear BK320
   clear HB
   have BK320 := n0_
   have HB := n1_
   clear n0_ n1_
   refine start_ (n := 8) (S := fun w' => True) (ds := []) #[false, false, false, false, false, false, false, false] (by kernel_rfl) rfl rfl trivial (fun hHeld => ?_); refine with_tabW trommelref18_New.tab1 trommelref18_New.bits1 (fun HT_ HW_ => ?_)
   generalize w8.drew = w9 at BK320 HB hHeld ⊢
   refine pure_ (i := 0) (N := some 5) (v := ?_) (a' := ?_) #[true, false, false, false, false, false, false, false] rfl rfl (any_of HT_.out (by kernel_rfl)) (fun _ _ _ h => h) (Or.inl ⟨by rfl, ?_⟩) ?_ ?_
   rotate_left
   ·intro w'
    go_simp
    with_reducible rfl
   rotate_left
   ·simp only [Act.put, List.setIfInBounds_toArray, List.set_cons_zero, List.set_cons_succ, i64_w, i32_w]
    rfl
   refine pure_ (i := 4) (N := some 9) (v := ?_) (a' := ?_) #[true, false, false, false, true, false, false, false] rfl rfl (any_of HT_.out (by kernel_rfl)) (fun _ _ _ h => h) (Or.inl ⟨by rfl, ?_⟩) ?_ ?_
   rotate_left
   ·intro w'
    go_simp
    with_reducible rfl
   rotate_left
   ·simp only [Act.put, List.setIfInBounds_toArray, List.set_cons_zero, List.set_cons_succ, i64_w, i32_w]
    rfl
   refine one_ (i := 1) (N := some 6) #[true, true, false, false, true, false, false, false] rfl rfl (one_of HT_.out (by kernel_rfl)) (by decide) (fun K hK => ?_)
   refine goes_ Tryd.func120 (by kernel_rfl) rfl #[.int .i64 a0, .int .i64 1, .int .i64 4096] (by rfl) rfl rfl (by (try simp only [List.map_toArray, List.map_cons, List.map_nil]); first | done | rfl | (simp only [List.length_drop, List.length_take]; rfl)) ?_
   with_reducible refine (trommelref18_held.calls a0 1 4096 t321 _ A3.out).mono ?_
   rintro e w' ⟨rfl, ⟨nd, rfl⟩⟩
   refine ⟨_, rfl, ?_⟩
   refine hK.out _ _ trivial (fun hHeld => ?_)
   clear hK K
   refine norm_ (a' := ?_) ?_ ?_
   rotate_left
   ·show Act.put _ (some 6) _ = _
    simp only [Act.put, List.setIfInBounds_toArray, List.set_cons_zero, List.set_cons_succ, i64_w, i32_w]
    rfl
   refine pure_ (i := 2) (N := some 7) (v := ?_) (a' := ?_) #[true, true, true, false, true, false, false, false] rfl rfl (any_of HT_.out (by kernel_rfl)) (fun _ _ _ h => h) (Or.inl ⟨by rfl, ?_⟩) ?_ ?_
   rotate_left
   ·intro w'
    go_simp
    with_reducible rfl
   rotate_left
   ·simp only [Act.put, List.setIfInBounds_toArray, List.set_cons_zero, List.set_cons_succ, i64_w, i32_w]
    rfl
   refine join_ (σ := Value) 2 #[true, true, true, true, true, true, false, false] (fun s_ => [(8, s_), (10, .int .i64 t325)]) (fun s_ w' => (Kd.R Kd.bool 4 w' w.heap.size (fun _ => True) s_ y322) ∧ (w'.heap[gb320]? = some (.cells #[.slice none 0 0, .int .i64 0] 79 (0, 0))) ∧ (Below w.heap.size w w')) ?_ ?_
   rotate_left
   ·intro hCont
    refine two_ (i := 3) (j := 5) (Ni := some 8) (Nj := some 10) #[true, true, true, true, true, false, false, false] #[true, true, true, false, true, true, false, false] rfl rfl rfl rfl (two_of HT_.out (by kernel_rfl)) (by decide) (by decide) (fun K hK => ?_) (fun K hK => ?_)
    ·skip
     refine Kd.R_make_step Kd.bool _ 4 (by rfl) (N := 8) rfl 77 _ _ rfl ji4 rfl rfl Tryd.underlying77 (.bool false) 1 info4 rfl (by decide) (by omega) false (ok := fun _ => True) (okp := fun _ => True) rfl (fun _ hk => hk) trivial (of_decide_eq_true (as_)) (Nat.le_trans (Nat.mul_le_mul_right _ (of_decide_eq_true (as_) : ji4.toNat ≤ 281474976710656)) (by omega)) (Below.refl _ _) (Nat.le_refl _) ?_
     intro v323 w10 ho11 hb hg_ hnew_
     clear hg_ hnew_
     (first | rw [← Ny322.out] at ho11 | (simp only [Int.reduceToNat] at ho11; rw [← Ny322.out] at ho11))
     have n0_ := am_ (Kd.R_lower ho11 (below_size (bl_)))
     have n1_ := am_ (blk_below (g := gb320) (o := .cells #[.slice none 0 0, .int .i64 0] 79 (0, 0)) (bk_ BK320.out) hb)
     have n2_ := am_ (below_step (bl_) hb)
     clear BK320
     clear HB
     have HO324 := n0_
     have BK320 := n1_
     have HB := n2_
     clear n0_ n1_ n2_
     clear hb ho11
     refine hK.out _ _ trivial (fun hHeld => ?_)
     clear hK K
     refine norm_ (a' := ?_) ?_ ?_
     rotate_left
     ·show Act.put _ (some 8) _ = _
      simp only [Act.put, List.setIfInBounds_toArray, List.set_cons_zero, List.set_cons_succ, i64_w, i32_w]
      rfl
     refine one_ (i := 5) (N := some 10) #[true, true, true, true, true, true, false, false] rfl rfl (one_of HT_.out (by kernel_rfl)) (by decide) (fun K hK => ?_)
     refine goes_ Tryd.func120 (by kernel_rfl) rfl #[.int .i64 a1, .int .i64 1, .int .i64 5] (by rfl) rfl rfl (by (try simp only [List.map_toArray, List.map_cons, List.map_nil]); first | done | rfl | (simp only [List.length_drop, List.length_take]; rfl)) ?_
     with_reducible refine (trommelref18_held.calls a1 1 5 t325 _ A7.out).mono ?_
     rintro e w' ⟨rfl, ⟨nd, rfl⟩⟩
     refine ⟨_, rfl, ?_⟩
     obtain ⟨Ao12, co12, eo12⟩ := Kd.R_slice HO324.out
     (first | subst eo12 | (injection eo12 with f1_ f2_ f3_; have f4_ := f1_.symm; have f5_ := f3_.symm; clear f1_ f2_ f3_; subst f4_; subst f5_))
     refine hK.out _ _ trivial (fun hHeld => ?_)
     clear hK K
     refine norm_ (a' := ?_) ?_ ?_
     rotate_left
     ·show Act.put _ (some 10) _ = _
      simp only [Act.put, List.setIfInBounds_toArray, List.set_cons_zero, List.set_cons_succ, i64_w, i32_w]
      rfl
     exact norm_ (by simp only [putAll, Act.put, List.setIfInBounds_toArray, List.set_cons_zero, List.set_cons_succ]) (hCont (.slice Ao12 y322.length co12) _ ⟨(kr_ HO324.out), (bk_ BK320.out), (bl_)⟩)
    ·skip
     refine goes_ Tryd.func120 (by kernel_rfl) rfl #[.int .i64 a1, .int .i64 1, .int .i64 5] (by rfl) rfl rfl (by (try simp only [List.map_toArray, List.map_cons, List.map_nil]); first | done | rfl | (simp only [List.length_drop, List.length_take]; rfl)) ?_
     with_reducible refine (trommelref18_held.calls a1 1 5 t325 _ A7.out).mono ?_
     rintro e w' ⟨rfl, ⟨nd, rfl⟩⟩
     refine ⟨_, rfl, ?_⟩
     refine hK.out _ _ trivial (fun hHeld => ?_)
     clear hK K
     refine norm_ (a' := ?_) ?_ ?_
     rotate_left
     ·show Act.put _ (some 10) _ = _
      simp only [Act.put, List.setIfInBounds_toArray, List.set_cons_zero, List.set_cons_succ, i64_w, i32_w]
      rfl
     refine one_ (i := 3) (N := some 8) #[true, true, true, true, true, true, false, false] rfl rfl (one_of HT_.out (by kernel_rfl)) (by decide) (fun K hK => ?_)
     refine Kd.R_make_step Kd.bool _ 4 (by rfl) (N := 8) rfl 77 _ _ rfl ji4 rfl rfl Tryd.underlying77 (.bool false) 1 info4 rfl (by decide) (by omega) false (ok := fun _ => True) (okp := fun _ => True) rfl (fun _ hk => hk) trivial (of_decide_eq_true (as_)) (Nat.le_trans (Nat.mul_le_mul_right _ (of_decide_eq_true (as_) : ji4.toNat ≤ 281474976710656)) (by omega)) (Below.refl _ _) (Nat.le_refl _) ?_
     intro v323 w10 ho11 hb hg_ hnew_
     clear hg_ hnew_
     (first | rw [← Ny322.out] at ho11 | (simp only [Int.reduceToNat] at ho11; rw [← Ny322.out] at ho11))
     have n0_ := am_ (Kd.R_lower ho11 (below_size (bl_)))
     have n1_ := am_ (blk_below (g := gb320) (o := .cells #[.slice none 0 0, .int .i64 0] 79 (0, 0)) (bk_ BK320.out) hb)
     have n2_ := am_ (below_step (bl_) hb)
     clear BK320
     clear HB
     have HO324 := n0_
     have BK320 := n1_
     have HB := n2_
     clear n0_ n1_ n2_
     clear hb ho11
     obtain ⟨Ao12, co12, eo12⟩ := Kd.R_slice HO324.out
     (first | subst eo12 | (injection eo12 with f1_ f2_ f3_; have f4_ := f1_.symm; have f5_ := f3_.symm; clear f1_ f2_ f3_; subst f4_; subst f5_))
     refine hK.out _ _ trivial (fun hHeld => ?_)
     clear hK K
     refine norm_ (a' := ?_) ?_ ?_
     rotate_left
     ·show Act.put _ (some 8) _ = _
      simp only [Act.put, List.setIfInBounds_toArray, List.set_cons_zero, List.set_cons_succ, i64_w, i32_w]
      rfl
     exact norm_ (by simp only [putAll, Act.put, List.setIfInBounds_toArray, List.set_cons_zero, List.set_cons_succ]) (hCont (.slice Ao12 y322.length co12) _ ⟨(kr_ HO324.out), (bk_ BK320.out), (bl_)⟩)
   rintro v323 w13 ⟨h0_, h1_, h2_⟩
   have n0_ : Aside0 (Kd.R Kd.bool 4 w13 w.heap.size (fun _ => True) v323 y322) := ⟨h0_⟩
   have n1_ : Aside0 (w13.heap[gb320]? = some (.cells #[.slice none 0 0, .int .i64 0] 79 (0, 0))) := ⟨h1_⟩
   have n2_ : Aside0 (Below w.heap.size w w13) := ⟨h2_⟩
   clear BK320
   clear HB
   clear h0_ h1_ h2_
   have HO324 := n0_
   have BK320 := n1_
   have HB := n2_
   clear n0_ n1_ n2_
   have hHeld := trivial
   obtain ⟨Ao14, co14, eo14⟩ := Kd.R_slice HO324.out
   (first | subst eo14 | (injection eo14 with f1_ f2_ f3_; have f4_ := f1_.symm; have f5_ := f3_.symm; clear f1_ f2_ f3_; subst f4_; subst f5_))
   refine norm_ (a' := ?_) ?_ ?_
   rotate_left
   ·simp only [putAll, Act.put, List.setIfInBounds_toArray, List.set_cons_zero, List.set_cons_succ]
    rfl
   refine pure_ (i := 6) (N := some 11) (v := ?_) (a' := ?_) #[true, true, true, true, true, true, true, false] rfl rfl (any_of HT_.out (by kernel_rfl)) (fun _ _ _ h => h) (Or.inl ⟨by rfl, ?_⟩) ?_ ?_
   rotate_left
   ·intro w'
    go_simp
    with_reducible rfl
   rotate_left
   ·simp only [Act.put, List.setIfInBounds_toArray, List.set_cons_zero, List.set_cons_succ, i64_w, i32_w]
    rfl
   refine one_ (i := 7) (N := none) #[true, true, true, true, true, true, true, true] rfl rfl (one_of HT_.out (by kernel_rfl)) (by decide) (fun K hK => ?_)
   have hs15 : w13.cell? ⟨gb320, 0, none⟩ = some (.slice none 0 0) := (blk_cell BK320.out 0).trans rfl
   have hfs15 := blk_frozen BK320.out 0
   have hs16 : w13.cell? ⟨gb320, 1, none⟩ = some (.int .i64 0) := (blk_cell BK320.out 1).trans rfl
   have hfs16 := blk_frozen BK320.out 1
   refine skip_ (w1 := ?_) (by rfl) rfl ?_ ?_
   rotate_left
   ·go_simp
    rfl
   refine hK.out _ _ trivial (fun hHeld => ?_)
   clear hK K
   refine done_ (done_of HT_.out (by kernel_rfl)) ?_
   try go_wp2
   refine bodyPost_ret (results_cell_row rfl _ _ gb320 79 #[.slice Ao14 y322.length co14, .int .i64 t325] (0, 0) _ rfl (by refine bp_ ?_; refine blk_put (cs := #[.slice Ao14 y322.length co14, .int .i64 0]) ?_ 1 _ rfl; refine bp_ ?_; refine blk_put (cs := #[.slice none 0 0, .int .i64 0]) ?_ 0 _ rfl; refine bp_ ?_; exact BK320.out) Tryd.underlying79 rfl (by kernel_rfl)) rfl ?_
   exact ⟨_, by first | rfl | (simp [errW_none, errW_some] <;> rfl) | (simp only [← hji4]; first | rfl | (simp [errW_none, errW_some] <;> rfl)) | (simp [*, errW_none, errW_some] <;> rfl), by (with_reducible repeat (first | apply Kd.R_alloc | apply Kd.R_drewN | apply Kd.R_drew)); exact Kd.R_mono (Kd.R_far (p := ⟨gb320, 1, none⟩) (Kd.R_far (p := ⟨gb320, 0, none⟩) (Kd.R_types HO324.out BK320.out (by decide)) (fun _ hk => hk.2) (.slice Ao14 y322.length co14)) (fun _ hk => hk.2) (.int .i64 t325)) (fun _ hk => trivial), bl_⟩
  ·rw [if_neg c6] at H
   exact absurd H (by simp)
 ·rw [if_neg c5] at H
  exact absurd H (by simp)

def trommelref17_Bucket.f (a0 : Int) (a1 : Int) : Option (Int) := if a1 < 1 then (some 0) else (if a1 = 0 then (none) else (some (Int.tmod (wrap64 (IntKind.u64.wrap (Int.tdiv a0 4294967296))) a1)))
set_option maxHeartbeats 8000000 in
set_option maxRecDepth 100000 in
theorem trommelref17_Bucket.calls (a0 : Int) (a1 : Int) (r : Int) (w : World) (h : trommelref17_Bucket.f a0 a1 = some r) :
  Calls Tryd.prog 77 #[.int .u64 a0, .int .i64 a1] w fun e w' => e = .returned (.int .i64 r) ∧ Drawn0 w w' := by
 have H : (if a1 < 1 then (some 0) else (if a1 = 0 then (none) else (some (Int.tmod (wrap64 (IntKind.u64.wrap (Int.tdiv a0 4294967296))) a1)))) = some r := h
 clear h
 by_cases c3 : a1 < 1
 ·rw [if_pos c3] at H
  have c3b0 : decide (a1 < 1) = true := decide_eq_true c3
  clear c3
  obtain rfl := Option.some.inj H
  go_enter Tryd.func77, Tryd.ntmps77
  go_wp2
  go_ret
  exact ⟨rs_, by repeat (first | exact Drawn0.refl _ | apply Drawn0.step)⟩
 ·rw [if_neg c3] at H
  have c3b0 : decide (a1 < 1) = false := decide_eq_false c3
  clear c3
  by_cases c4 : a1 = 0
  ·rw [if_pos c4] at H
   exact absurd H (by simp)
  ·rw [if_neg c4] at H
   have c4b0 : (a1 == 0) = false := beq_eq_false_iff_ne.mpr c4
   have c4b1 : (a1 != 0) = true := bne_iff_ne.mpr c4
   obtain rfl := Option.some.inj H
   go_enter Tryd.func77, Tryd.ntmps77
   go_wp2
   go_ret
   exact ⟨rs_, by repeat (first | exact Drawn0.refl _ | apply Drawn0.step)⟩

def trommelref18_places.l0 : Nat → Int → List Int → Int → Int → List Bool → Int → Option (List Int)
 | 0, _, _, _, _, _, _ => none
 | k + 1, x1, x5, x6, x7, x327000, x327001 => if x7 < x327001 then (if x5.length < 17592186044416 then (trommelref18_places.l0 k (IntKind.u64.wrap (Int.tdiv x1 64)) (x5 ++ [wrap64 ((wrap64 (64 * x6)) + (wrap64 (Int.tmod x1 64)))]) x6 (wrap64 (x7 + 1)) x327000 x327001) else (none)) else (some x5)
def trommelref18_places.f (k : Nat) (l0_0 : List Bool) (a0_1 : Int) (a1 : Int) : Option (List Int) := (trommelref17_Bucket.f a1 (wrap64 ((l0_0.length : Int) / 64))).bind fun t327 => (trommelref18_places.l0 k a1 ([] : List Int) t327 0 l0_0 a0_1)
theorem trommelref18_places.mono_l : ∀ k, (∀ y0 y1 y2 y3 y4 y5, LeO (trommelref18_places.l0 k y0 y1 y2 y3 y4 y5) (trommelref18_places.l0 (k + 1) y0 y1 y2 y3 y4 y5))
 | 0 => fun _ _ _ _ _ _ r h => by simp [trommelref18_places.l0] at h
 | k + 1 => by
  have ih0 := trommelref18_places.mono_l k
  ·intro y0 y1 y2 y3 y4 y5
   unfold trommelref18_places.l0
   repeat' first
   | (with_reducible exact ih0 _ _ _ _ _ _)
   | (with_reducible exact LeO.refl _)
   | (with_reducible exact LeO.none _)
   | (with_reducible refine LeO.ite ?_ ?_)
   | (with_reducible refine LeO.bind ?_ (fun _ => ?_))
   | exact ih0 _ _ _ _ _ _
   | exact LeO.none _
   | refine LeO.ite ?_ ?_
   | refine LeO.bind ?_ (fun _ => ?_)
theorem trommelref18_places.mono : ∀ a0 a1 a2 k, LeO (trommelref18_places.f k a0 a1 a2) (trommelref18_places.f (k + 1) a0 a1 a2) := by
 intro a0 a1 a2 k
 have ih0 := trommelref18_places.mono_l k
 unfold trommelref18_places.f
 repeat' first
   | (with_reducible exact ih0 _ _ _ _ _ _)
   | (with_reducible exact LeO.refl _)
   | (with_reducible exact LeO.none _)
   | (with_reducible refine LeO.ite ?_ ?_)
   | (with_reducible refine LeO.bind ?_ (fun _ => ?_))
   | exact ih0 _ _ _ _ _ _
   | exact LeO.none _
   | refine LeO.ite ?_ ?_
   | refine LeO.bind ?_ (fun _ => ?_)
set_option maxHeartbeats 8000000 in
set_option maxRecDepth 100000 in
theorem trommelref18_places.calls (k : Nat) (A0_0 : Option Addr) (c0_0 : Nat) (l0_0 : List Bool) (a0_1 : Int) (a1 : Int) (r : List Int) (w : World) (hr0_0 : Kd.C Kd.bool w A0_0 l0_0.length l0_0) (hc0_0 : l0_0.length ≤ c0_0) (h : trommelref18_places.f k l0_0 a0_1 a1 = some r) :
  Calls Tryd.prog 121 #[.agg #[.slice A0_0 l0_0.length c0_0, .int .i64 a0_1], .int .u64 a1] w fun e w' => ∃ v0_ : Value, e = .returned (v0_) ∧ Kd.R (Kd.int .i64) 3 w' w.heap.size (fun _ => True) v0_ r ∧ Below w.heap.size w w' := by
 have hu79 := Tryd.underlying79
 have HR0_0 := am_ hr0_0
 have HC0_0 := am_ hc0_0
 clear hr0_0 hc0_0
 have HB := am_ (Below.refl w.heap.size w)
 have H : ((trommelref17_Bucket.f a1 (wrap64 ((l0_0.length : Int) / 64))).bind fun t327 => (trommelref18_places.l0 k a1 ([] : List Int) t327 0 l0_0 a0_1)) = some r := h
 clear h
 replace H := Option.bind_eq_some_iff.mp H
 obtain ⟨t327, A30, H⟩ := H
 replace H : (trommelref18_places.l0 k a1 ([] : List Int) t327 0 l0_0 a0_1) = some r := H
 have A3 := am_ A30
 clear A30
 have H' := am_ H
 clear H
 go_enter Tryd.func121, Tryd.ntmps121
 go_wp2_with (first | ((with_reducible refine gate_dst (N := 2) rfl ?_); refine box_event ?hg (N := 2) ?hd (cs := #[.slice A0_0 l0_0.length c0_0, .int .i64 a0_1]) (t := 79) ?hr ?_; (case hd => rfl); (case hg => rfl); (case hr => first | (go_simp; done) | (go_simp; rfl)); intro gb326 hg w4 hbox hb; have BK326 := am_ (hbox); have GW326 := am_ ((by rw [hg]; exact (below_size (bl_)) : w.heap.size ≤ gb326)); have GE326 := am_ ((by rw [hg]; exact (below_size (bl_)) : w.heap.size ≤ gb326)); replace HB := am_ (below_step (bl_) hb); clear hb hbox hg; have hcz5_0 : w4.cell? ⟨gb326, 0, none⟩ = some (.slice A0_0 l0_0.length c0_0) := (blk_cell BK326.out 0).trans rfl; have hcz5_1 : w4.cell? ⟨gb326, 1, none⟩ = some (.int .i64 a0_1) := (blk_cell BK326.out 1).trans rfl; have hfz5_0 := blk_frozen BK326.out 0; have hfz5_1 := blk_frozen BK326.out 1) | ((with_reducible refine gate_callee (f := 77) rfl ?_); refine goesL_ (some 13) rfl rfl Tryd.func77 (by kernel_rfl) rfl #[.int .u64 a1, .int .i64 (wrap64 ((l0_0.length : Int) / 64))] rfl (by (try simp only [List.map_toArray, List.map_cons, List.map_nil]); first | done | rfl | (simp only [List.length_drop, List.length_take]; rfl)) ?_; (with_reducible refine (trommelref17_Bucket.calls a1 (wrap64 ((l0_0.length : Int) / 64)) t327 _ A3.out).mono ?_); rintro e w' ⟨rfl, ⟨nd, rfl⟩⟩; refine ⟨_, rfl, ?_⟩))
 go_loopg [1, 5, 7] k (fun kq v1 v5 v7 w' => ∃ (x1_1 : Int) (x5_1 : List Int) (x7_1 : Int), v1 = .int .u64 x1_1 ∧ v7 = .int .i64 x7_1 ∧ Aside0 (trommelref18_places.l0 kq x1_1 x5_1 t327 x7_1 l0_0 a0_1 = some r) ∧ Aside0 (kq ≤ k) ∧ Aside0 (Kd.R (Kd.int .i64) 3 w' w.heap.size (fun _ => True) v5 x5_1) ∧ Aside0 (w'.heap[gb326]? = some (.cells #[(.slice A0_0 l0_0.length c0_0), .int .i64 a0_1] 79 (0, 0))) ∧ Aside0 (Below w.heap.size w w'))
 case atStart => exact ⟨(a1), (([] : List Int)), (0), (rs_), (rs_), H', ⟨Nat.le_refl _⟩, ⟨by first | exact Kd.R_nil _ _ _ _ _ | exact Kd.N_nil _ _ _ _ _ | exact Kd.V_nil _ _ _ _ _ | exact Kd.Q_nil _ _ _ _ _ | exact Kd.S_nil _ _ _ _ _⟩, ⟨bk_ BK326.out⟩, ⟨bl_⟩⟩
 case round =>
  clear H'
  try clear c1
  try clear p2
  try clear hcz5_0
  try clear hcz5_1
  try clear hfz5_0
  try clear hfz5_1
  obtain ⟨x1_1, x5_1, x7_1, rfl, rfl, HA, HK1, HO_5, BK326, HB⟩ := hrel
  cases gk with
  | zero => exact absurd HA.out (by simp [trommelref18_places.l0])
  | succ k1 =>
   have H := HA.out
   clear HA
   simp only [trommelref18_places.l0] at H
   by_cases c6 : x7_1 < a0_1
   ·rw [if_pos c6] at H
    have c6b0 : decide (x7_1 < a0_1) = true := decide_eq_true c6
    clear c6
    by_cases c7 : x5_1.length < 17592186044416
    ·rw [if_pos c7] at H
     have LMc7 := am_ c7
     clear c7
     obtain ⟨y328, hy328⟩ : ∃ y_ : List Int, y_ = (x5_1 ++ [wrap64 ((wrap64 (64 * t327)) + (wrap64 (Int.tmod x1_1 64)))]) := ⟨_, rfl⟩
     replace H : (trommelref18_places.l0 k1 (IntKind.u64.wrap (Int.tdiv x1_1 64)) y328 t327 (wrap64 (x7_1 + 1)) l0_0 a0_1) = some r := by first | (rw [hy328]; with_reducible exact H) | (have H2_ := (Option.bind_some _ _).symm.trans H; rw [hy328]; with_reducible exact H2_) | (have H2_ := (Option.bind_some _ _).symm.trans H; with_reducible exact H2_) | with_reducible exact H | (rw [hy328]; exact H) | exact H
     have Ny328 := am_ hy328
     clear hy328
     have H' := am_ H
     clear H
     have hcz8_0 : wr.cell? ⟨gb326, 0, none⟩ = some (.slice A0_0 l0_0.length c0_0) := (blk_cell BK326.out 0).trans rfl
     have hcz8_1 : wr.cell? ⟨gb326, 1, none⟩ = some (.int .i64 a0_1) := (blk_cell BK326.out 1).trans rfl
     have hfz8_0 := blk_frozen BK326.out 0
     have hfz8_1 := blk_frozen BK326.out 1
     go_wp2_with (first | ((with_reducible refine gate_builtin (b := .append) (xs := #[.tmp 20, .tmp 27]) rfl ?_); at_builtin; refine Kd.R_append (Kd.int .i64) (w0 := w) w.heap.size rfl (.tmp 20) (.tmp 27) 44 3 (.int .i64 0) 8 rfl Tryd.underlying44 info3 rfl (by decide) (by omega) u5 x5_1 (wrap64 ((wrap64 (64 * t327)) + (wrap64 (Int.tmod x1_1 64)))) [.int .i64 (wrap64 ((wrap64 (64 * t327)) + (wrap64 (Int.tmod x1_1 64))))] (fun _ => True) (fun _ => False) rfl rfl ?aP (fun _ hk => hk.elim) ?aF ?aO ?aB ?aS ?aL ?_; (case aP => exact rfl); (case aB => exact (bl_)); (case aF => exact (fun _ _ => trivial)); (case aO => exact (kr_ HO_5.out)); (case aS => exact (below_size (bl_))); (case aL => have := LMc7.out; omega); intro v329 w9 ho hb hg hat; rw [← Ny328.out] at ho; replace BK326 := am_ (blk_grown (g := gb326) (o := .cells #[.slice A0_0 l0_0.length c0_0, .int .i64 a0_1] 79 (0, 0)) (bk_ BK326.out) hg (Kd.R_ne HO_5.out BK326.out (by decide))); have HO330 := am_ (ho); replace HB := am_ (hb); clear HO_5; clear ho hb hg hat))
     go_roundg k1
     case measure => have := HK1.out; omega
     case rel => exact ⟨(IntKind.u64.wrap (Int.tdiv x1_1 64)), (y328), (wrap64 (x7_1 + 1)), (rs_), (rs_), H', ⟨by have := HK1.out; omega⟩, ⟨kr_ HO330.out⟩, ⟨bk_ BK326.out⟩, ⟨bl_⟩⟩
    ·rw [if_neg c7] at H
     exact absurd H (by simp)
   ·rw [if_neg c6] at H
    have c6b0 : decide (x7_1 < a0_1) = false := decide_eq_false c6
    clear c6
    obtain rfl := Option.some.inj H
    have hcz10_0 : wr.cell? ⟨gb326, 0, none⟩ = some (.slice A0_0 l0_0.length c0_0) := (blk_cell BK326.out 0).trans rfl
    have hcz10_1 : wr.cell? ⟨gb326, 1, none⟩ = some (.int .i64 a0_1) := (blk_cell BK326.out 1).trans rfl
    have hfz10_0 := blk_frozen BK326.out 0
    have hfz10_1 := blk_frozen BK326.out 1
    go_wp2
    go_ret
    exact ⟨_, ew_, kr_ HO_5.out, bl_⟩

def trommelref18_Add.l0 : Nat → List Bool → List Int → Int → List Bool → Int → Option (List Bool × Int)
 | 0, _, _, _, _, _ => none
 | k + 1, x5, x6, x7, x332000, x332001 => if x7 < (x6.length : Int) then (if 0 ≤ x7 then (if 0 ≤ (rd x6 x7) then (if (rd x6 x7) < (x5.length : Int) then (trommelref18_Add.l0 k (x5.set ((rd x6 x7) : Int).toNat true) x6 (wrap64 (x7 + 1)) x332000 x332001) else (none)) else (none)) else (none)) else (some (x5, x332001))
def trommelref18_Add.f (k : Nat) (l0_0 : List Bool) (a0_1 : Int) (a1 : Int) : Option (List Bool × Int) := (some (([] : List Bool) : List Bool)).bind fun y333 => (if y333.length + l0_0.length < 140737488355328 then ((trommelref18_places.f k l0_0 a0_1 a1).bind fun t339 => (trommelref18_Add.l0 k (y333 ++ l0_0) t339 0 l0_0 a0_1)) else (none))
theorem trommelref18_Add.mono_l : ∀ k, (∀ y0 y1 y2 y3 y4, LeO (trommelref18_Add.l0 k y0 y1 y2 y3 y4) (trommelref18_Add.l0 (k + 1) y0 y1 y2 y3 y4))
 | 0 => fun _ _ _ _ _ r h => by simp [trommelref18_Add.l0] at h
 | k + 1 => by
  have ih0 := trommelref18_Add.mono_l k
  ·intro y0 y1 y2 y3 y4
   unfold trommelref18_Add.l0
   repeat' first
   | (with_reducible exact ih0 _ _ _ _ _)
   | (with_reducible exact trommelref18_places.mono _ _ _ _)
   | (with_reducible exact LeO.refl _)
   | (with_reducible exact LeO.none _)
   | (with_reducible refine LeO.ite ?_ ?_)
   | (with_reducible refine LeO.bind ?_ (fun _ => ?_))
   | exact ih0 _ _ _ _ _
   | exact trommelref18_places.mono _ _ _ _
   | exact LeO.none _
   | refine LeO.ite ?_ ?_
   | refine LeO.bind ?_ (fun _ => ?_)
theorem trommelref18_Add.mono : ∀ a0 a1 a2 k, LeO (trommelref18_Add.f k a0 a1 a2) (trommelref18_Add.f (k + 1) a0 a1 a2) := by
 intro a0 a1 a2 k
 have ih0 := trommelref18_Add.mono_l k
 unfold trommelref18_Add.f
 repeat' first
   | (with_reducible exact ih0 _ _ _ _ _)
   | (with_reducible exact trommelref18_places.mono _ _ _ _)
   | (with_reducible exact LeO.refl _)
   | (with_reducible exact LeO.none _)
   | (with_reducible refine LeO.ite ?_ ?_)
   | (with_reducible refine LeO.bind ?_ (fun _ => ?_))
   | exact ih0 _ _ _ _ _
   | exact trommelref18_places.mono _ _ _ _
   | exact LeO.none _
   | refine LeO.ite ?_ ?_
   | refine LeO.bind ?_ (fun _ => ?_)
set_option maxHeartbeats 8000000 in
set_option maxRecDepth 100000 in
theorem trommelref18_Add.calls (k : Nat) (A0_0 : Option Addr) (c0_0 : Nat) (l0_0 : List Bool) (a0_1 : Int) (a1 : Int) (r1 : List Bool) (r2 : Int) (w : World) (hr0_0 : Kd.C Kd.bool w A0_0 l0_0.length l0_0) (hc0_0 : l0_0.length ≤ c0_0) (h : trommelref18_Add.f k l0_0 a0_1 a1 = some (r1, r2)) :
  Calls Tryd.prog 87 #[.agg #[.slice A0_0 l0_0.length c0_0, .int .i64 a0_1], .int .u64 a1] w fun e w' => ∃ v0_ : Value, e = .returned (.agg #[v0_, .int .i64 r2]) ∧ Kd.R Kd.bool 4 w' w.heap.size (fun _ => True) v0_ r1 ∧ Below w.heap.size w w' := by
 have hu79 := Tryd.underlying79
 have HR0_0 := am_ hr0_0
 have HC0_0 := am_ hc0_0
 clear hr0_0 hc0_0
 have HB := am_ (Below.refl w.heap.size w)
 have H : ((some (([] : List Bool) : List Bool)).bind fun y333 => (if y333.length + l0_0.length < 140737488355328 then ((trommelref18_places.f k l0_0 a0_1 a1).bind fun t339 => (trommelref18_Add.l0 k (y333 ++ l0_0) t339 0 l0_0 a0_1)) else (none))) = some (r1, r2) := h
 clear h
 obtain ⟨y333, hy333⟩ : ∃ y_ : List Bool, y_ = (([] : List Bool)) := ⟨_, rfl⟩
 replace H : (if y333.length + l0_0.length < 140737488355328 then ((trommelref18_places.f k l0_0 a0_1 a1).bind fun t339 => (trommelref18_Add.l0 k (y333 ++ l0_0) t339 0 l0_0 a0_1)) else (none)) = some (r1, r2) := by first | (rw [hy333]; with_reducible exact H) | (have H2_ := (Option.bind_some _ _).symm.trans H; rw [hy333]; with_reducible exact H2_) | (have H2_ := (Option.bind_some _ _).symm.trans H; with_reducible exact H2_) | with_reducible exact H | (rw [hy333]; exact H) | exact H
 have Ny333 := am_ hy333
 clear hy333
 by_cases c3 : y333.length + l0_0.length < 140737488355328
 ·rw [if_pos c3] at H
  have LMc3 := am_ c3
  clear c3
  obtain ⟨y336, hy336⟩ : ∃ y_ : List Bool, y_ = (y333 ++ l0_0) := ⟨_, rfl⟩
  replace H : ((trommelref18_places.f k l0_0 a0_1 a1).bind fun t339 => (trommelref18_Add.l0 k y336 t339 0 l0_0 a0_1)) = some (r1, r2) := by first | (rw [hy336]; with_reducible exact H) | (have H2_ := (Option.bind_some _ _).symm.trans H; rw [hy336]; with_reducible exact H2_) | (have H2_ := (Option.bind_some _ _).symm.trans H; with_reducible exact H2_) | with_reducible exact H | (rw [hy336]; exact H) | exact H
  have Ny336 := am_ hy336
  clear hy336
  replace H := Option.bind_eq_some_iff.mp H
  obtain ⟨t339, A40, H⟩ := H
  replace H : (trommelref18_Add.l0 k y336 t339 0 l0_0 a0_1) = some (r1, r2) := H
  have A4 := am_ A40
  clear A40
  have H' := am_ H
  clear H
  go_enter Tryd.func87, Tryd.ntmps87
  go_wp2_with (first | ((with_reducible refine gate_dst (N := 2) rfl ?_); refine box_event ?hg (N := 2) ?hd (cs := #[.slice A0_0 l0_0.length c0_0, .int .i64 a0_1]) (t := 79) ?hr ?_; (case hd => rfl); (case hg => rfl); (case hr => first | (go_simp; done) | (go_simp; rfl)); intro gb331 hg w5 hbox hb; have BK331 := am_ (hbox); have GW331 := am_ ((by rw [hg]; exact (below_size (bl_)) : w.heap.size ≤ gb331)); have GE331 := am_ ((by rw [hg]; exact (below_size (bl_)) : w.heap.size ≤ gb331)); replace HB := am_ (below_step (bl_) hb); clear hb hbox hg) | ((with_reducible refine gate_dst (N := 4) rfl ?_); refine box_event ?hg (N := 4) ?hd (cs := #[.slice none 0 0, .int .i64 0]) (t := 79) ?hr ?_; (case hd => rfl); (case hg => rfl); (case hr => first | (go_simp; done) | (go_simp; rfl)); intro gb332 hg w6 hbox hb; have n0_ := am_ (blk_below (g := gb331) (o := .cells #[.slice A0_0 l0_0.length c0_0, .int .i64 a0_1] 79 (0, 0)) (bk_ BK331.out) hb); have n1_ := am_ (below_step (bl_) hb); have n2_ := am_ (hbox); have n3_ := am_ ((by rw [hg]; exact (below_size (bl_)) : w.heap.size ≤ gb332)); have n4_ := am_ ((by rw [hg]; exact (below_size (bl_)) : w.heap.size ≤ gb332)); have n5_ := am_ ((by rw [hg]; exact Nat.ne_of_lt (blk_lt (g := gb331) (o := .cells #[.slice A0_0 l0_0.length c0_0, .int .i64 a0_1] 79 (0, 0)) (bk_ BK331.out)) : gb331 ≠ gb332)); have n6_ := am_ ((by rw [hg]; exact Nat.ne_of_gt (blk_lt (g := gb331) (o := .cells #[.slice A0_0 l0_0.length c0_0, .int .i64 a0_1] 79 (0, 0)) (bk_ BK331.out)) : gb332 ≠ gb331)); clear BK331; clear HB; have BK331 := n0_; have HB := n1_; have BK332 := n2_; have GW332 := n3_; have GE332 := n4_; have NB331_332 := n5_; have NB332_331 := n6_; clear n0_ n1_ n2_ n3_ n4_ n5_ n6_; clear hb hbox hg) | ((with_reducible refine gate_dst (N := 8) rfl ?_); refine Kd.R_lit Kd.bool _ 4 ?hg (N := 8) ?hd (xs := ([] : List Bool)) (inner := []) (ok := fun _ => True) (okp := fun _ => True) ?hr ?hp (fun _ hk => hk) trivial (Below.refl _ _) (Nat.le_refl _) (by simp) ?_; (case hd => rfl); (case hg => rfl); (case hr => first | (go_simp; done) | (go_simp; rfl)); (case hp => exact (Reps.none _ _)); intro v334 w7 ho8 hb hg_ hnew_; clear hg_ hnew_; (first | rw [← Ny333.out] at ho8 | (simp only [Int.reduceToNat] at ho8; rw [← Ny333.out] at ho8)); have HO335 := am_ (Kd.R_lower ho8 (below_size (bl_))); replace BK331 := am_ (blk_below (g := gb331) (o := .cells #[.slice A0_0 l0_0.length c0_0, .int .i64 a0_1] 79 (0, 0)) (bk_ BK331.out) hb); replace BK332 := am_ (blk_below (g := gb332) (o := .cells #[.slice none 0 0, .int .i64 0] 79 (0, 0)) (bk_ BK332.out) hb); replace HB := am_ (below_step (bl_) hb); clear hb ho8; have hnb9 := NB331_332.out; have hnc9 := NB332_331.out; have hcz10_0 : w7.cell? ⟨gb331, 0, none⟩ = some (.slice A0_0 l0_0.length c0_0) := (blk_cell BK331.out 0).trans rfl; have hcz10_1 : w7.cell? ⟨gb331, 1, none⟩ = some (.int .i64 a0_1) := (blk_cell BK331.out 1).trans rfl; have hfz10_0 := blk_frozen BK331.out 0; have hfz10_1 := blk_frozen BK331.out 1) | ((with_reducible refine gate_builtin (b := .append) (xs := #[.tmp 8, .tmp 10]) rfl ?_); at_builtin; refine Kd.R_append_rows Kd.bool (w0 := w) w.heap.size rfl (.tmp 8) (.tmp 10) 77 4 (.bool false) 1 rfl Tryd.underlying77 info4 rfl (by decide) (by omega) v334 y333 l0_0 _ _ _ (fun _ => True) (fun _ => False) rfl rfl ?aO ?aR (fun _ _ h => h) (fun _ h => h.elim) ?aF ?aB ?aS ?aL ?_; (case aR => repeat (first | exact (Kd.C_below HR0_0.out HB.out) | (with_reducible refine Kd.C_alloc ?_ _) | (with_reducible refine Kd.C_drewN ?_ _) | (with_reducible refine Kd.C_drew ?_))); (case aB => exact (bl_)); (case aF => exact (fun _ _ => trivial)); (case aO => exact (kr_ HO335.out)); (case aS => exact (below_size (bl_))); (case aL => have := LMc3.out; omega); intro v337 w11 ho hb hg hat; rw [← Ny336.out] at ho; replace BK331 := am_ (blk_grown (g := gb331) (o := .cells #[.slice A0_0 l0_0.length c0_0, .int .i64 a0_1] 79 (0, 0)) (bk_ BK331.out) hg (Kd.R_ne HO335.out BK331.out (by decide))); replace BK332 := am_ (blk_grown (g := gb332) (o := .cells #[.slice none 0 0, .int .i64 0] 79 (0, 0)) (bk_ BK332.out) hg (Kd.R_ne HO335.out BK332.out (by decide))); have HO338 := am_ (ho); replace HB := am_ (hb); clear HO335; clear ho hb hg hat; have hcz12_0 : w11.cell? ⟨gb331, 0, none⟩ = some (.slice A0_0 l0_0.length c0_0) := (blk_cell BK331.out 0).trans rfl; have hcz12_1 : w11.cell? ⟨gb331, 1, none⟩ = some (.int .i64 a0_1) := (blk_cell BK331.out 1).trans rfl; have hfz12_0 := blk_frozen BK331.out 0; have hfz12_1 := blk_frozen BK331.out 1) | ((with_reducible refine gate_callee (f := 121) rfl ?_); refine goesL_ (some 14) rfl rfl Tryd.func121 (by kernel_rfl) rfl #[.agg #[.slice A0_0 l0_0.length c0_0, .int .i64 a0_1], .int .u64 a1] rfl (by (try simp only [List.map_toArray, List.map_cons, List.map_nil]); first | done | rfl | (simp only [List.length_drop, List.length_take]; rfl)) ?_; (with_reducible refine (trommelref18_places.calls k _ _ l0_0 a0_1 a1 t339 _ ?side1 ?side2 A4.out).mono ?_); (case side1 => repeat (first | exact (Kd.C_below HR0_0.out HB.out) | (with_reducible refine Kd.C_alloc ?_ _) | (with_reducible refine Kd.C_drewN ?_ _) | (with_reducible refine Kd.C_drew ?_))); (case side2 => exact HC0_0.out); rintro e w13 ⟨v340, rfl, ho0, hb⟩; refine ⟨_, rfl, ?_⟩; replace HO338 := am_ (Kd.R_below (kr_ HO338.out) hb); have HO341 := am_ (Kd.R_lower ho0 (below_size (bl_))); replace BK331 := am_ (blk_below (g := gb331) (o := .cells #[.slice A0_0 l0_0.length c0_0, .int .i64 a0_1] 79 (0, 0)) (bk_ BK331.out) hb); replace BK332 := am_ (blk_below (g := gb332) (o := .cells #[.slice none 0 0, .int .i64 0] 79 (0, 0)) (bk_ BK332.out) hb); replace HB := am_ (below_step (bl_) hb); (try clear hb); (try clear hb2); (try clear hk); (try clear hi); (try clear ho0)))
  go_loopg [7] k (fun kq v7 w' => ∃ (x5_1 : List Bool) (x7_1 : Int), v7 = .int .i64 x7_1 ∧ Aside0 (trommelref18_Add.l0 kq x5_1 t339 x7_1 l0_0 a0_1 = some (r1, r2)) ∧ Aside0 (kq ≤ k) ∧ Aside0 (Kd.R Kd.bool 4 w' w.heap.size (fun _ => True) v337 x5_1) ∧ Aside0 (Kd.R (Kd.int .i64) 3 w' w.heap.size (fun _ => True) v340 t339) ∧ Aside0 (w'.heap[gb331]? = some (.cells #[(.slice A0_0 l0_0.length c0_0), .int .i64 a0_1] 79 (0, 0))) ∧ Aside0 (w'.heap[gb332]? = some (.cells #[(.slice none 0 0), .int .i64 0] 79 (0, 0))) ∧ Aside0 (Below w.heap.size w w'))
  case atStart => exact ⟨(y336), (0), (rs_), H', ⟨Nat.le_refl _⟩, ⟨kr_ HO338.out⟩, ⟨kr_ HO341.out⟩, ⟨bk_ BK331.out⟩, ⟨bk_ BK332.out⟩, ⟨bl_⟩⟩
  case round =>
   clear H'
   try clear c1
   try clear p2
   try clear c3
   try clear c8
   try clear c9
   try clear c12
   try clear hcz10_0
   try clear hcz10_1
   try clear hcz12_0
   try clear hcz12_1
   try clear hfz10_0
   try clear hfz10_1
   try clear hfz12_0
   try clear hfz12_1
   obtain ⟨x5_1, x7_1, rfl, HA, HK1, HO_5, HO_6, BK331, BK332, HB⟩ := hrel
   cases gk with
   | zero => exact absurd HA.out (by simp [trommelref18_Add.l0])
   | succ k1 =>
    have H := HA.out
    clear HA
    simp only [trommelref18_Add.l0] at H
    by_cases c14 : x7_1 < (t339.length : Int)
    ·rw [if_pos c14] at H
     have c14b0 : decide (x7_1 < (t339.length : Int)) = true := decide_eq_true c14
     clear c14
     by_cases c15 : 0 ≤ x7_1
     ·rw [if_pos c15] at H
      have c15b0 : decide (0 ≤ x7_1) = true := decide_eq_true c15
      clear c15
      by_cases c16 : 0 ≤ (rd t339 x7_1)
      ·rw [if_pos c16] at H
       have c16b0 : decide (0 ≤ (rd t339 x7_1)) = true := decide_eq_true c16
       clear c16
       by_cases c17 : (rd t339 x7_1) < (x5_1.length : Int)
       ·rw [if_pos c17] at H
        have c17b0 : decide ((rd t339 x7_1) < (x5_1.length : Int)) = true := decide_eq_true c17
        clear c17
        obtain ⟨y343, hy343⟩ : ∃ y_ : List Bool, y_ = (x5_1.set ((rd t339 x7_1) : Int).toNat true) := ⟨_, rfl⟩
        replace H : (trommelref18_Add.l0 k1 y343 t339 (wrap64 (x7_1 + 1)) l0_0 a0_1) = some (r1, r2) := by first | (rw [hy343]; with_reducible exact H) | (have H2_ := (Option.bind_some _ _).symm.trans H; rw [hy343]; with_reducible exact H2_) | (have H2_ := (Option.bind_some _ _).symm.trans H; with_reducible exact H2_) | with_reducible exact H | (rw [hy343]; exact H) | exact H
        have Ny343 := am_ hy343
        clear hy343
        have H' := am_ H
        clear H
        obtain ⟨Ao19, co19, eo19⟩ := Kd.R_slice HO_6.out
        subst eo19
        have p342 : 0 ≤ (x7_1 : Int) := of_decide_eq_true (as_)
        have q342 : x7_1 < (t339.length : Int) := of_decide_eq_true (as_)
        obtain ⟨ad342, e342, hx342_0⟩ := Kd.at_int (Kd.R_reads' HO_6.out).2.2 x7_1 p342 q342
        cases e342
        replace p342 := eq_true p342
        replace q342 := eq_true q342
        have p18 : 0 ≤ ((rd t339 x7_1) : Int) := of_decide_eq_true (as_)
        have q18 : ((rd t339 x7_1) : Int) < ((x5_1.length : Int) : Int) := of_decide_eq_true (as_)
        obtain ⟨go18, co18, eo18, gb18, gl18, cl18, HG18⟩ := Kd.R_form HO_5.out (by omega)
        (first | cases eo18 | (injection eo18 with ea_ en_ ec_; (first | subst ea_ | (injection ea_ with ea_; subst ea_)); subst ec_; clear en_))
        have GB18 := am_ gb18
        have GG18 := am_ HG18
        clear gb18 gl18 HG18
        obtain ⟨hx18_0, hf18_0⟩ := Kd.R_celln false HO_5.out ((rd t339 x7_1) : Int) p18 q18
        replace p18 := eq_true p18
        replace q18 := eq_true q18
        have HP20 := Kd.R_putg HO_5.out ((rd t339 x7_1) : Int) true
        go_wp2_with (first | ((with_reducible refine gate_store (t := 4) (p := 26) rfl ?_); refine store_event (t := 4) (p := 26) (v := ?vo_w21) (w1 := (wr.setCell ⟨go18, ((rd t339 x7_1) : Int).toNat, none⟩ (.bool true))) ?hg ?ho ?hn ?hr ?_; (case ho => rfl); (case hg => rfl); (case hn => rfl); (case hr => first | (go_simp; done) | (go_simp; rfl)); intro w21 hw; have hg : wr.grownBy w21 (some go18) := (by rw [hw]; exact HP20.2); have hp_ : Kd.R Kd.bool 4 w21 w.heap.size (fun _ => True) (.slice (some ⟨go18, 0, none⟩) x5_1.length co18) y343 := (by rw [hw, Ny343.out]; exact HP20.1); clear HP20; have n0_ := am_ (hp_); have n1_ := am_ (Kd.R_over' (v := (.slice (some ⟨go18, 0, none⟩) x5_1.length co18)) (kr_ HO_6.out) (Kd.R_typed HO_5.out) (by decide) hg); have n2_ := am_ (blk_grown (g := gb331) (o := .cells #[.slice A0_0 l0_0.length c0_0, .int .i64 a0_1] 79 (0, 0)) (bk_ BK331.out) hg (Kd.R_ne HO_5.out BK331.out (by decide))); have n3_ := am_ (blk_grown (g := gb332) (o := .cells #[.slice none 0 0, .int .i64 0] 79 (0, 0)) (bk_ BK332.out) hg (Kd.R_ne HO_5.out BK332.out (by decide))); have n4_ := am_ ((by rw [hw]; exact below_set (HB.out) GB18.out : Below w.heap.size w w21)); clear HO_5; clear HO_6; clear BK331; clear BK332; clear HB; have HO_5 := n0_; have HO_6 := n1_; have BK331 := n2_; have BK332 := n3_; have HB := n4_; clear n0_ n1_ n2_ n3_ n4_; clear hg hw hp_))
        go_roundg k1
        case measure => have := HK1.out; omega
        case rel => exact ⟨(y343), (wrap64 (x7_1 + 1)), (rs_), H', ⟨by have := HK1.out; omega⟩, ⟨kr_ HO_5.out⟩, ⟨kr_ HO_6.out⟩, ⟨bk_ BK331.out⟩, ⟨bk_ BK332.out⟩, ⟨bl_⟩⟩
       ·rw [if_neg c17] at H
        exact absurd H (by simp)
      ·rw [if_neg c16] at H
       exact absurd H (by simp)
     ·rw [if_neg c15] at H
      exact absurd H (by simp)
    ·rw [if_neg c14] at H
     have c14b0 : decide (x7_1 < (t339.length : Int)) = false := decide_eq_false c14
     clear c14
     simp only [Option.some.injEq, Prod.mk.injEq] at H
     obtain ⟨rfl, rfl⟩ := H
     obtain ⟨Ao22, co22, eo22⟩ := Kd.R_slice HO_6.out
     subst eo22
     obtain ⟨Ao23, co23, eo23⟩ := Kd.R_slice HO_5.out
     subst eo23
     have hnb24 := NB331_332.out
     have hnc24 := NB332_331.out
     have hcz25_0 : wr.cell? ⟨gb331, 0, none⟩ = some (.slice A0_0 l0_0.length c0_0) := (blk_cell BK331.out 0).trans rfl
     have hcz25_1 : wr.cell? ⟨gb331, 1, none⟩ = some (.int .i64 a0_1) := (blk_cell BK331.out 1).trans rfl
     have hfz25_0 := blk_frozen BK331.out 0
     have hfz25_1 := blk_frozen BK331.out 1
     have hcz26_0 : wr.cell? ⟨gb332, 0, none⟩ = some (.slice none 0 0) := (blk_cell BK332.out 0).trans rfl
     have hcz26_1 : wr.cell? ⟨gb332, 1, none⟩ = some (.int .i64 0) := (blk_cell BK332.out 1).trans rfl
     have hfz26_0 := blk_frozen BK332.out 0
     have hfz26_1 := blk_frozen BK332.out 1
     go_wp2
     refine bodyPost_ret (results_cell_row rfl _ _ gb332 79 #[.slice Ao23 x5_1.length co23, .int .i64 a0_1] (0, 0) _ rfl (by refine bp_ ?_; refine blk_put (cs := #[.slice Ao23 x5_1.length co23, .int .i64 0]) ?_ 1 _ rfl; refine bp_ ?_; refine blk_put (cs := #[.slice none 0 0, .int .i64 0]) ?_ 0 _ rfl; refine bp_ ?_; refine blk_far ?_ NB332_331.out _; refine bp_ ?_; exact BK332.out) Tryd.underlying79 rfl (by kernel_rfl)) rfl ?_
     exact ⟨_, ew_, by (with_reducible repeat (first | apply Kd.R_alloc | apply Kd.R_drewN | apply Kd.R_drew)); exact Kd.R_mono (Kd.R_far (p := ⟨gb332, 1, none⟩) (Kd.R_far (p := ⟨gb332, 0, none⟩) (Kd.R_far (p := ⟨gb331, 0, none⟩) (Kd.R_types (Kd.R_types HO_5.out BK331.out (by decide)) BK332.out (by decide)) (fun _ hk => hk.1.2) (.slice Ao23 x5_1.length co23)) (fun _ hk => hk.2) (.slice Ao23 x5_1.length co23)) (fun _ hk => hk.2) (.int .i64 a0_1)) (fun _ hk => trivial), bl_⟩
 ·rw [if_neg c3] at H
  exact absurd H (by simp)

def trommelref20_Bits.l0 : Nat → Int → List (List (S23)) → Int → List Bool → Int → Option (List Bool × Int)
 | 0, _, _, _, _, _ => none
 | k + 1, x0, x10, x11, x350000, x350001 => if x11 < (x10.length : Int) then (if 0 ≤ x11 then ((trommelref17_Row.f k x0 (rd_L6 x10 x11)).bind fun t354 => ((trommelref18_Add.f k x350000 x350001 t354).bind fun bt355 => (trommelref20_Bits.l0 k x0 x10 (wrap64 (x11 + 1)) bt355.1 bt355.2))) else (none)) else (some (x350000, x350001))
def trommelref20_Bits.f (k : Nat) (a0 : Int) (a1 : Int) (a2 : Int) (l3 : List (List (S23))) : Option (List Bool × Int) := (trommelref18_New.f a1 a2).bind fun bt345 => ((trommelref20_wholes.f k l3).bind fun t350 => (trommelref20_Bits.l0 k a0 t350 0 bt345.1 bt345.2))
theorem trommelref20_Bits.mono_l : ∀ k, (∀ y0 y1 y2 y3 y4, LeO (trommelref20_Bits.l0 k y0 y1 y2 y3 y4) (trommelref20_Bits.l0 (k + 1) y0 y1 y2 y3 y4))
 | 0 => fun _ _ _ _ _ r h => by simp [trommelref20_Bits.l0] at h
 | k + 1 => by
  have ih0 := trommelref20_Bits.mono_l k
  ·intro y0 y1 y2 y3 y4
   unfold trommelref20_Bits.l0
   repeat' first
   | (with_reducible exact ih0 _ _ _ _ _)
   | (with_reducible exact trommelref17_Row.mono _ _ _)
   | (with_reducible exact trommelref18_Add.mono _ _ _ _)
   | (with_reducible exact trommelref20_wholes.mono _ _)
   | (with_reducible exact LeO.refl _)
   | (with_reducible exact LeO.none _)
   | (with_reducible refine LeO.ite ?_ ?_)
   | (with_reducible refine LeO.bind ?_ (fun _ => ?_))
   | exact ih0 _ _ _ _ _
   | exact trommelref17_Row.mono _ _ _
   | exact trommelref18_Add.mono _ _ _ _
   | exact trommelref20_wholes.mono _ _
   | exact LeO.none _
   | refine LeO.ite ?_ ?_
   | refine LeO.bind ?_ (fun _ => ?_)
theorem trommelref20_Bits.mono : ∀ a0 a1 a2 a3 k, LeO (trommelref20_Bits.f k a0 a1 a2 a3) (trommelref20_Bits.f (k + 1) a0 a1 a2 a3) := by
 intro a0 a1 a2 a3 k
 have ih0 := trommelref20_Bits.mono_l k
 unfold trommelref20_Bits.f
 repeat' first
   | (with_reducible exact ih0 _ _ _ _ _)
   | (with_reducible exact trommelref17_Row.mono _ _ _)
   | (with_reducible exact trommelref18_Add.mono _ _ _ _)
   | (with_reducible exact trommelref20_wholes.mono _ _)
   | (with_reducible exact LeO.refl _)
   | (with_reducible exact LeO.none _)
   | (with_reducible refine LeO.ite ?_ ?_)
   | (with_reducible refine LeO.bind ?_ (fun _ => ?_))
   | exact ih0 _ _ _ _ _
   | exact trommelref17_Row.mono _ _ _
   | exact trommelref18_Add.mono _ _ _ _
   | exact trommelref20_wholes.mono _ _
   | exact LeO.none _
   | refine LeO.ite ?_ ?_
   | refine LeO.bind ?_ (fun _ => ?_)
def trommelref20_Bits.T6 : Bool × List (List Nat × List Nat) := (true, [([], []), ([], []), ([], []), ([], []), ([2, 3], [2, 3]), ([4], [4]), ([1, 5], [1, 5]), ([0, 6, 6], [0, 6]), ([7, 7, 0, 1, 2, 3, 4, 5, 6, 7], [7])])
def trommelref20_Bits.B6 : List Nat := [0, 0, 0, 0, 12, 28, 62, 127, 255]
theorem trommelref20_Bits.tab6 : rtab .any (opsOf Tryd.f46 6) = trommelref20_Bits.T6 := by kernel_rfl
theorem trommelref20_Bits.bits6 : waitsOk trommelref20_Bits.T6.2 trommelref20_Bits.B6 = true := by kernel_rfl
set_option maxHeartbeats 8000000 in
set_option maxRecDepth 100000 in
theorem trommelref20_Bits.calls (k : Nat) (a0 : Int) (a1 : Int) (a2 : Int) (A3 : Option Addr) (c3 : Nat) (l3 : List (List (S23))) (r1 : List Bool) (r2 : Int) (w : World) (hr3 : Kd.C (Kd.slice 23 k23) w A3 l3.length l3) (hc3 : l3.length ≤ c3) (h : trommelref20_Bits.f k a0 a1 a2 l3 = some (r1, r2)) :
  Calls Tryd.prog 46 #[.int .i64 a0, .int .i64 a1, .int .i64 a2, .slice A3 l3.length c3] w fun e w' => ∃ v0_ : Value, e = .returned (.agg #[v0_, .int .i64 r2]) ∧ Kd.R Kd.bool 4 w' w.heap.size (fun _ => True) v0_ r1 ∧ Below w.heap.size w w' := by
 have hu79 := Tryd.underlying79
 have HR3 := am_ hr3
 have HC3 := am_ hc3
 clear hr3 hc3
 have HB := am_ (Below.refl w.heap.size w)
 have H : ((trommelref18_New.f a1 a2).bind fun bt345 => ((trommelref20_wholes.f k l3).bind fun t350 => (trommelref20_Bits.l0 k a0 t350 0 bt345.1 bt345.2))) = some (r1, r2) := h
 clear h
 replace H := Option.bind_eq_some_iff.mp H
 obtain ⟨⟨t345, t348⟩, A50, H⟩ := H
 replace H : ((trommelref20_wholes.f k l3).bind fun t350 => (trommelref20_Bits.l0 k a0 t350 0 t345 t348)) = some (r1, r2) := H
 have A5 := am_ A50
 clear A50
 replace H := Option.bind_eq_some_iff.mp H
 obtain ⟨t350, A60, H⟩ := H
 replace H : (trommelref20_Bits.l0 k a0 t350 0 t345 t348) = some (r1, r2) := H
 have A6 := am_ A60
 clear A60
 have H' := am_ H
 clear H
 go_enter Tryd.func46, Tryd.ntmps46
 go_wp2_with (first | ((with_reducible refine gate_dst (N := 8) rfl ?_); refine box_event ?hg (N := 8) ?hd (cs := #[.slice none 0 0, .int .i64 0]) (t := 79) ?hr ?_; (case hd => rfl); (case hg => rfl); (case hr => first | (go_simp; done) | (go_simp; rfl)); intro gb344 hg w7 hbox hb; have BK344 := am_ (hbox); have GW344 := am_ ((by rw [hg]; exact (below_size (bl_)) : w.heap.size ≤ gb344)); have GE344 := am_ ((by rw [hg]; exact (below_size (bl_)) : w.heap.size ≤ gb344)); replace HB := am_ (below_step (bl_) hb); clear hb hbox hg) | ((with_reducible refine gate_callee (f := 86) rfl ?_); refine goesL_ (some 14) rfl rfl Tryd.func86 (by kernel_rfl) rfl #[.int .i64 a1, .int .i64 a2] rfl (by (try simp only [List.map_toArray, List.map_cons, List.map_nil]); first | done | rfl | (simp only [List.length_drop, List.length_take]; rfl)) ?_; (with_reducible refine (trommelref18_New.calls a1 a2 t345 t348 _ A5.out).mono ?_); rintro e w8 ⟨v346, rfl, ho0, hb⟩; refine ⟨_, rfl, ?_⟩; have HO347 := am_ (Kd.R_lower ho0 (below_size (bl_))); replace BK344 := am_ (blk_below (g := gb344) (o := .cells #[.slice none 0 0, .int .i64 0] 79 (0, 0)) (bk_ BK344.out) hb); replace HB := am_ (below_step (bl_) hb); (try clear hb); (try clear hb2); (try clear hk); (try clear hi); (try clear ho0)) | ((with_reducible refine gate_dst (N := 9) rfl ?_); refine box_event ?hg (N := 9) ?hd (cs := #[.slice none 0 0, .int .i64 0]) (t := 79) ?hr ?_; (case hd => rfl); (case hg => rfl); (case hr => first | (go_simp; done) | (go_simp; rfl)); intro gb349 hg w9 hbox hb; have n0_ := am_ (Kd.R_below (kr_ HO347.out) hb); have n1_ := am_ (blk_below (g := gb344) (o := .cells #[.slice none 0 0, .int .i64 0] 79 (0, 0)) (bk_ BK344.out) hb); have n2_ := am_ (below_step (bl_) hb); have n3_ := am_ (hbox); have n4_ := am_ ((by rw [hg]; exact (below_size (bl_)) : w.heap.size ≤ gb349)); have n5_ := am_ ((by rw [hg]; exact (below_size (bl_)) : w.heap.size ≤ gb349)); have n6_ := am_ ((by rw [hg]; exact Nat.ne_of_lt (blk_lt (g := gb344) (o := .cells #[.slice none 0 0, .int .i64 0] 79 (0, 0)) (bk_ BK344.out)) : gb344 ≠ gb349)); have n7_ := am_ ((by rw [hg]; exact Nat.ne_of_gt (blk_lt (g := gb344) (o := .cells #[.slice none 0 0, .int .i64 0] 79 (0, 0)) (bk_ BK344.out)) : gb349 ≠ gb344)); clear HO347; clear BK344; clear HB; have HO347 := n0_; have BK344 := n1_; have HB := n2_; have BK349 := n3_; have GW349 := n4_; have GE349 := n5_; have NB344_349 := n6_; have NB349_344 := n7_; clear n0_ n1_ n2_ n3_ n4_ n5_ n6_ n7_; clear hb hbox hg; obtain ⟨Ao10, co10, eo10⟩ := Kd.R_slice HO347.out; subst eo10; have hnb11 := NB349_344.out; have hnc11 := NB344_349.out; have hcz12_0 : w9.cell? ⟨gb349, 0, none⟩ = some (.slice none 0 0) := (blk_cell BK349.out 0).trans rfl; have hcz12_1 : w9.cell? ⟨gb349, 1, none⟩ = some (.int .i64 0) := (blk_cell BK349.out 1).trans rfl; have hfz12_0 := blk_frozen BK349.out 0; have hfz12_1 := blk_frozen BK349.out 1) | ((with_reducible refine gate_store (t := 79) (p := 9) rfl ?_); refine store_event (t := 79) (p := 9) (v := ?vo_w13) (w1 := ((w9.setCell ⟨gb349, 0, none⟩ (.slice Ao10 t345.length co10)).setCell ⟨gb349, 1, none⟩ (.int .i64 t348))) ?hg ?ho ?hn ?hr ?_; (case ho => rfl); (case hg => rfl); (case hn => rfl); (case hr => first | (go_simp; done) | (go_simp; rfl)); intro w13 hw; have n0_ : Aside0 (Kd.R Kd.bool 4 w13 w.heap.size (fun _ => True) (.slice Ao10 t345.length co10) t345) := ⟨(by rw [hw]; exact (by (with_reducible repeat (first | apply Kd.R_alloc | apply Kd.R_drewN | apply Kd.R_drew)); exact Kd.R_mono (Kd.R_far (p := ⟨gb349, 1, none⟩) (Kd.R_far (p := ⟨gb349, 0, none⟩) (Kd.R_types HO347.out BK349.out (by decide)) (fun _ hk => hk.2) (.slice Ao10 t345.length co10)) (fun _ hk => hk.2) (.int .i64 t348)) (fun _ hk => trivial)))⟩; have n1_ : Aside0 (w13.heap[gb344]? = some (.cells #[.slice none 0 0, .int .i64 0] 79 (0, 0))) := ⟨(by rw [hw]; exact (by refine bp_ ?_; refine blk_far ?_ NB344_349.out _; refine bp_ ?_; refine blk_far ?_ NB344_349.out _; refine bp_ ?_; exact BK344.out))⟩; have n2_ : Aside0 (w13.heap[gb349]? = some (.cells #[.slice Ao10 t345.length co10, .int .i64 t348] 79 (0, 0))) := ⟨(by rw [hw]; exact (by refine bp_ ?_; refine blk_put (cs := #[.slice Ao10 t345.length co10, .int .i64 0]) ?_ 1 _ rfl; refine bp_ ?_; refine blk_put (cs := #[.slice none 0 0, .int .i64 0]) ?_ 0 _ rfl; refine bp_ ?_; exact BK349.out))⟩; have n3_ : Aside0 (Below w.heap.size w w13) := ⟨(by rw [hw]; exact (bl_))⟩; clear hw; clear HO347; clear BK344; clear BK349; clear HB; have HO347 := n0_; have BK344 := n1_; have BK349 := n2_; have HB := n3_; clear n0_ n1_ n2_ n3_) | ((with_reducible refine gate_callee (f := 85) rfl ?_); refine goesL_ (some 16) rfl rfl Tryd.func85 (by kernel_rfl) rfl #[.slice A3 l3.length c3] rfl (by (try simp only [List.map_toArray, List.map_cons, List.map_nil]); first | done | rfl | (simp only [List.length_drop, List.length_take]; rfl)) ?_; (with_reducible refine (trommelref20_wholes.calls k (fun k_ => k_ < w.heap.size) _ _ l3 t350 _ ?side1 A6.out).mono ?_); (case side1 => exact Kd.V_mk HC3.out (Kd.F_below (Kd.C_F (Kd.heap_slice 23 k23_heap) HR3.out) (bl_))); rintro e w14 ⟨v351, rfl, ho0, hb⟩; refine ⟨_, rfl, ?_⟩; have n0_ := am_ (Kd.R_below (kr_ HO347.out) hb); have n1_ := am_ (Kd.N_lower (Kd.N_mono (ok' := fun k_ => some k_ ≠ (.slice Ao10 t345.length co10 : Value).ownBlock ∧ k_ ≠ gb344 ∧ k_ ≠ gb349) ho0 (fun k_ hk_ => ⟨Or.elim hk_ (fun hs_ => fun e_ => Nat.not_le.2 hs_ (Kd.R_base HO347.out k_ e_.symm)) (fun hn_ => (Kd.fresh' (Kd.R_lt (kr_ HO347.out)) k_ hn_)), Or.elim hk_ (fun hs_ => fun e_ => Nat.not_le.2 hs_ (by rw [e_]; exact GW344.out)) (fun hn_ => (Kd.freshB (g := gb344) (o := .cells #[.slice none 0 0, .int .i64 0] 79 (0, 0)) (bk_ BK344.out) k_ hn_)), Or.elim hk_ (fun hs_ => fun e_ => Nat.not_le.2 hs_ (by rw [e_]; exact GW349.out)) (fun hn_ => (Kd.freshB (g := gb349) (o := .cells #[.slice Ao10 t345.length co10, .int .i64 t348] 79 (0, 0)) (bk_ BK349.out) k_ hn_))⟩)) (below_size (bl_))); have n2_ := am_ (blk_below (g := gb344) (o := .cells #[.slice none 0 0, .int .i64 0] 79 (0, 0)) (bk_ BK344.out) hb); have n3_ := am_ (blk_below (g := gb349) (o := .cells #[.slice Ao10 t345.length co10, .int .i64 t348] 79 (0, 0)) (bk_ BK349.out) hb); have n4_ := am_ (below_step (bl_) hb); clear HO347; clear BK344; clear BK349; clear HB; have HO347 := n0_; have HO352 := n1_; have BK344 := n2_; have BK349 := n3_; have HB := n4_; clear n0_ n1_ n2_ n3_ n4_; (try clear hb); (try clear hb2); (try clear hk); (try clear hi); (try clear ho0)))
 go_loopg [11] k (fun kq v11 w' => ∃ (x11_1 : Int) (x350000_1 : List Bool) (x350001_1 : Int) (u350000 : Value), v11 = .int .i64 x11_1 ∧ Aside0 (trommelref20_Bits.l0 kq a0 t350 x11_1 x350000_1 x350001_1 = some (r1, r2)) ∧ Aside0 (kq ≤ k) ∧ Aside0 (Kd.N (Kd.slice 23 k23) 24 w' w.heap.size (fun k_ => some k_ ≠ (u350000 : Value).ownBlock ∧ k_ ≠ gb344 ∧ k_ ≠ gb349) v351 t350) ∧ Aside0 (Kd.R Kd.bool 4 w' w.heap.size (fun _ => True) u350000 x350000_1) ∧ Aside0 (w'.heap[gb344]? = some (.cells #[(.slice none 0 0), .int .i64 0] 79 (0, 0))) ∧ Aside0 (w'.heap[gb349]? = some (.cells #[u350000, .int .i64 x350001_1] 79 (0, 0))) ∧ Aside0 (Below w.heap.size w w'))
 case atStart => exact ⟨(0), (t345), (t348), (.slice Ao10 t345.length co10), (rs_), H', ⟨Nat.le_refl _⟩, ⟨kn_ HO352.out⟩, ⟨kr_ HO347.out⟩, ⟨bk_ BK344.out⟩, ⟨bk_ BK349.out⟩, ⟨bl_⟩⟩
 case round =>
  clear H'
  try clear c1
  try clear p2
  try clear c3
  try clear c4
  try clear c8
  try clear c11
  try clear hcz12_0
  try clear hcz12_1
  try clear hfz12_0
  try clear hfz12_1
  obtain ⟨x11_1, x350000_1, x350001_1, u350000, rfl, HA, HK1, HO_10, HO_350000, BK344, BK349, HB⟩ := hrel
  cases gk with
  | zero => exact absurd HA.out (by simp [trommelref20_Bits.l0])
  | succ k1 =>
   have H := HA.out
   clear HA
   simp only [trommelref20_Bits.l0] at H
   by_cases c15 : x11_1 < (t350.length : Int)
   ·rw [if_pos c15] at H
    have c15b0 : decide (x11_1 < (t350.length : Int)) = true := decide_eq_true c15
    clear c15
    by_cases c16 : 0 ≤ x11_1
    ·rw [if_pos c16] at H
     have c16b0 : decide (0 ≤ x11_1) = true := decide_eq_true c16
     clear c16
     replace H := Option.bind_eq_some_iff.mp H
     obtain ⟨t354, A170, H⟩ := H
     replace H : ((trommelref18_Add.f k1 x350000_1 x350001_1 t354).bind fun bt355 => (trommelref20_Bits.l0 k1 a0 t350 (wrap64 (x11_1 + 1)) bt355.1 bt355.2)) = some (r1, r2) := H
     have A17 := am_ A170
     clear A170
     replace H := Option.bind_eq_some_iff.mp H
     obtain ⟨⟨t355, t358⟩, A180, H⟩ := H
     replace H : (trommelref20_Bits.l0 k1 a0 t350 (wrap64 (x11_1 + 1)) t355 t358) = some (r1, r2) := H
     have A18 := am_ A180
     clear A180
     have H' := am_ H
     clear H
     obtain ⟨Ao19, co19, eo19⟩ := Kd.N_slice HO_10.out
     subst eo19
     try go_wp2
     have n0_ := am_ (Kd.N_drew HO_10.out)
     have n1_ := am_ (Kd.R_drew HO_350000.out)
     have n2_ := am_ (blk_drew BK344.out)
     have n3_ := am_ (blk_drew BK349.out)
     have n4_ := am_ (below_drew1 HB.out)
     clear HO_10
     clear HO_350000
     clear BK344
     clear BK349
     clear HB
     have HO_10 := n0_
     have HO_350000 := n1_
     have BK344 := n2_
     have BK349 := n3_
     have HB := n4_
     clear n0_ n1_ n2_ n3_ n4_
     have p353 : 0 ≤ (x11_1 : Int) := of_decide_eq_true (as_)
     have q353 : x11_1 < (t350.length : Int) := of_decide_eq_true (as_)
     obtain ⟨ad353, A353_0, c353_0, e353, hx353_0, hl353_0, hi353_0⟩ := at_L6 (Kd.N_reads' HO_10.out).2.2 x11_1 p353 q353
     cases e353
     obtain ⟨ce353, hce353, hMe353, hcc353⟩ := Kd.N_get HO_10.out [] x11_1 p353 (by first | exact q353 | exact of_decide_eq_true (as_) | (have e_ := (Kd.N_reads' HO_10.out).1; omega))
     obtain ⟨ua353_0, uc353_0, rfl, ul353_0, ge353_0⟩ := Kd.FK_slice_open hMe353
     have hv353_0 := hcc353 0 _ rfl
     rw [Nat.add_zero, show ((Kd.slice 23 k23)).sz = 1 from rfl, Nat.mul_one] at hv353_0
     replace hv353_0 := Option.some.inj (hv353_0.symm.trans hx353_0)
     injection hv353_0 with hva_ hvn_ hvc_
     rw [hva_] at ge353_0
     rw [hvc_] at ul353_0
     have HL353_0 := am_ (show Kd.V k23 23 _ w.heap.size _ _ (rd_L6 t350 x11_1) from Kd.V_mk ul353_0 ge353_0)
     clear hva_ hvn_ hvc_ ge353_0 ul353_0
     clear hcc353 hce353
     have HR353_0 := am_ hi353_0
     have HC353_0 := am_ hl353_0
     clear hi353_0 hl353_0
     replace p353 := eq_true p353
     replace q353 := eq_true q353
     refine start_ (n := 9) (S := fun w' => w'.cell? ⟨gb349, 0, none⟩ = some (u350000) ∧ w'.cell? ⟨gb349, 1, none⟩ = some (.int .i64 x350001_1) ∧ w'.cell? (ad353.add (x11_1).toNat) = some (.slice A353_0 (rd_L6 t350 x11_1).length c353_0)) (ds := [8]) #[false, false, false, false, false, false, false, false, false] (by kernel_rfl) rfl rfl ⟨(blk_cell BK349.out 0).trans rfl, (blk_cell BK349.out 1).trans rfl, hx353_0⟩ (fun hHeld => ?_); refine with_tabW trommelref20_Bits.tab6 trommelref20_Bits.bits6 (fun HT_ HW_ => ?_)
     generalize wr.drew = w20 at HO_10 HO_350000 BK344 BK349 HB HL353_0 HR353_0 hx353_0 hHeld ⊢
     refine pure_ (i := 1) (N := some 24) (v := ?_) (a' := ?_) #[false, true, false, false, false, false, false, false, false] rfl rfl (any_of HT_.out (by kernel_rfl)) (fun _ _ _ h => h) (Or.inl ⟨by rfl, ?_⟩) ?_ ?_
     rotate_left
     ·intro w'
      go_simp
      with_reducible rfl
     rotate_left
     ·simp only [Act.put, List.setIfInBounds_toArray, List.set_cons_zero, List.set_cons_succ, i64_w, i32_w]
      rfl
     refine pure_ (i := 2) (N := some 25) (v := ?_) (a' := ?_) #[false, true, true, false, false, false, false, false, false] rfl rfl (any_of HT_.out (by kernel_rfl)) (fun _ _ _ h => h) (Or.inl ⟨by rfl, ?_⟩) ?_ ?_
     rotate_left
     ·intro w'
      go_simp
      with_reducible rfl
     rotate_left
     ·simp only [Act.put, List.setIfInBounds_toArray, List.set_cons_zero, List.set_cons_succ, i64_w, i32_w]
      rfl
     refine pure_ (i := 3) (N := some 26) (v := ?_) (a' := ?_) #[false, true, true, true, false, false, false, false, false] rfl rfl (any_of HT_.out (by kernel_rfl)) (fun _ _ _ h => h) (Or.inl ⟨by rfl, ?_⟩) ?_ ?_
     rotate_left
     ·intro w'
      go_simp
      with_reducible rfl
     rotate_left
     ·simp only [Act.put, List.setIfInBounds_toArray, List.set_cons_zero, List.set_cons_succ, i64_w, i32_w]
      rfl
     refine pure_ (i := 4) (N := some 27) (v := ?_) (a' := ?_) #[false, true, true, true, true, false, false, false, false] rfl rfl (any_of HT_.out (by kernel_rfl)) (fun _ _ _ h => h) (Or.inl ⟨by rfl, ?_⟩) ?_ ?_
     rotate_left
     ·intro w'
      go_simp
      with_reducible rfl
     rotate_left
     ·simp only [Act.put, List.setIfInBounds_toArray, List.set_cons_zero, List.set_cons_succ, i64_w, i32_w]
      rfl
     refine take_ (i := 0) (N := some 23) (v := ?_) (a' := ?_) #[true, true, true, true, true, false, false, false, false] rfl rfl (take_ofW HT_.out HW_.out (by kernel_rfl)) (fun _ _ _ h => h) (Or.inl ⟨by rfl, ?_⟩) hHeld ?_ ?_
     rotate_left
     ·rintro w' ⟨s0, s1, s2⟩
      go_simp
      with_reducible rfl
     rotate_left
     ·simp only [Act.put, List.setIfInBounds_toArray, List.set_cons_zero, List.set_cons_succ, i64_w, i32_w]
      rfl
     refine take_ (i := 5) (N := some 28) (v := ?_) (a' := ?_) #[true, true, true, true, true, true, false, false, false] rfl rfl (take_ofW HT_.out HW_.out (by kernel_rfl)) (fun _ _ _ h => h) (Or.inl ⟨by rfl, ?_⟩) hHeld ?_ ?_
     rotate_left
     ·rintro w' ⟨s0, s1, s2⟩
      go_simp
      with_reducible rfl
     rotate_left
     ·simp only [Act.put, List.setIfInBounds_toArray, List.set_cons_zero, List.set_cons_succ, i64_w, i32_w]
      rfl
     refine one_ (i := 6) (N := some 29) #[true, true, true, true, true, true, true, false, false] rfl rfl (one_of HT_.out (by kernel_rfl)) (by decide) (fun K hK => ?_)
     refine goes_ Tryd.func16 (by kernel_rfl) rfl #[.int .i64 a0, .slice A353_0 (rd_L6 t350 x11_1).length c353_0] (by rfl) rfl rfl (by (try simp only [List.map_toArray, List.map_cons, List.map_nil]); first | done | rfl | (simp only [List.length_drop, List.length_take]; rfl)) ?_
     with_reducible refine (trommelref17_Row.calls k1 a0 _ _ (rd_L6 t350 x11_1) t354 _ ?side1 ?side2 A17.out).mono ?_
     (case side1 => repeat (first | exact (by repeat (first | (with_reducible exact HR353_0.out) | (with_reducible refine Kd.C_alloc ?_ _) | (with_reducible refine Kd.C_drewN ?_ _) | (with_reducible refine Kd.C_drew ?_) | exact HR353_0.out)) | (with_reducible refine Kd.C_alloc ?_ _) | (with_reducible refine Kd.C_drewN ?_ _) | (with_reducible refine Kd.C_drew ?_)))
     (case side2 => exact HC353_0.out)
     rintro e w21 ⟨rfl, hb⟩
     have HS2_ := (hb.cell (World.block_lt_of_cell? _ _ (hHeld.2.2))).trans (hHeld.2.2)
     refine ⟨_, rfl, ?_⟩
     have n0_ := am_ (Kd.N_below (kn_ HO_10.out) hb)
     have n1_ := am_ (Kd.R_below (kr_ HO_350000.out) hb)
     have n2_ := am_ (Kd.V_below (kv_ HL353_0.out) hb)
     have n3_ := am_ (blk_below (g := gb344) (o := .cells #[.slice none 0 0, .int .i64 0] 79 (0, 0)) (bk_ BK344.out) hb)
     have n4_ := am_ (blk_below (g := gb349) (o := .cells #[u350000, .int .i64 x350001_1] 79 (0, 0)) (bk_ BK349.out) hb)
     have n5_ := am_ (Kd.C_below (by repeat (first | (with_reducible exact HR353_0.out) | (with_reducible refine Kd.C_alloc ?_ _) | (with_reducible refine Kd.C_drewN ?_ _) | (with_reducible refine Kd.C_drew ?_) | exact HR353_0.out)) hb)
     have n6_ := am_ (below_step (bl_) hb)
     clear HO_10
     clear HO_350000
     clear HL353_0
     clear BK344
     clear BK349
     clear HR353_0
     clear HB
     have HO_10 := n0_
     have HO_350000 := n1_
     have HL353_0 := n2_
     have BK344 := n3_
     have BK349 := n4_
     have HR353_0 := n5_
     have HB := n6_
     clear n0_ n1_ n2_ n3_ n4_ n5_ n6_
     (try clear hb)
     (try clear hb2)
     (try clear hk)
     (try clear hi)
     obtain ⟨Ao22, co22, eo22⟩ := Kd.R_slice HO_350000.out
     (first | subst eo22 | (injection eo22 with f1_ f2_ f3_; have f4_ := f1_.symm; have f5_ := f3_.symm; clear f1_ f2_ f3_; subst f4_; subst f5_))
     refine hK.out _ _ ⟨(blk_cell BK349.out 0).trans rfl, (blk_cell BK349.out 1).trans rfl, HS2_⟩ (fun hHeld => ?_)
     clear hK K
     refine norm_ (a' := ?_) ?_ ?_
     rotate_left
     ·show Act.put _ (some 29) _ = _
      simp only [Act.put, List.setIfInBounds_toArray, List.set_cons_zero, List.set_cons_succ, i64_w, i32_w]
      rfl
     refine one_ (i := 7) (N := some 30) #[true, true, true, true, true, true, true, true, false] rfl rfl (one_of HT_.out (by kernel_rfl)) (by decide) (fun K hK => ?_)
     refine goes_ Tryd.func87 (by kernel_rfl) rfl #[.agg #[.slice Ao22 x350000_1.length co22, .int .i64 x350001_1], .int .u64 t354] (by rfl) rfl rfl (by (try simp only [List.map_toArray, List.map_cons, List.map_nil]); first | done | rfl | (simp only [List.length_drop, List.length_take]; rfl)) ?_
     with_reducible refine (trommelref18_Add.calls k1 _ _ x350000_1 x350001_1 t354 t355 t358 _ ?side1 ?side2 A18.out).mono ?_
     (case side1 => repeat (first | exact (Kd.R_reads' HO_350000.out).2.2 | (with_reducible refine Kd.C_alloc ?_ _) | (with_reducible refine Kd.C_drewN ?_ _) | (with_reducible refine Kd.C_drew ?_)))
     (case side2 => exact (Kd.R_reads' HO_350000.out).2.1)
     rintro e w23 ⟨v356, rfl, ho0, hb⟩
     have HS2_ := (hb.cell (World.block_lt_of_cell? _ _ (hHeld.2.2))).trans (hHeld.2.2)
     refine ⟨_, rfl, ?_⟩
     have n0_ := am_ (Kd.N_elder' (kn_ HO_10.out) (Kd.R_base ho0) hb)
     have n1_ := am_ (Kd.R_elder' (kr_ HO_350000.out) (Kd.R_base ho0) hb)
     have n2_ := am_ (Kd.V_elder' (kv_ HL353_0.out) (Kd.R_base ho0) hb)
     have n3_ := am_ (Kd.R_lower (Kd.R_new' ho0 (Kd.R_lt (kr_ HO_350000.out))) (below_size (bl_)))
     have n4_ := am_ (blk_below (g := gb344) (o := .cells #[.slice none 0 0, .int .i64 0] 79 (0, 0)) (bk_ BK344.out) hb)
     have n5_ := am_ (blk_below (g := gb349) (o := .cells #[.slice Ao22 x350000_1.length co22, .int .i64 x350001_1] 79 (0, 0)) (bk_ BK349.out) hb)
     have n6_ := am_ (Kd.C_below (by repeat (first | (with_reducible exact HR353_0.out) | (with_reducible refine Kd.C_alloc ?_ _) | (with_reducible refine Kd.C_drewN ?_ _) | (with_reducible refine Kd.C_drew ?_) | exact HR353_0.out)) hb)
     have n7_ := am_ (below_step (bl_) hb)
     clear HO_10
     clear HO_350000
     clear HL353_0
     clear BK344
     clear BK349
     clear HR353_0
     clear HB
     have HO_10 := n0_
     have HO_350000 := n1_
     have HL353_0 := n2_
     have HO357 := n3_
     have BK344 := n4_
     have BK349 := n5_
     have HR353_0 := n6_
     have HB := n7_
     clear n0_ n1_ n2_ n3_ n4_ n5_ n6_ n7_
     (try clear hb)
     (try clear hb2)
     (try clear hk)
     (try clear hi)
     (try clear ho0)
     obtain ⟨Ao24, co24, eo24⟩ := Kd.R_slice HO357.out
     (first | subst eo24 | (injection eo24 with f1_ f2_ f3_; have f4_ := f1_.symm; have f5_ := f3_.symm; clear f1_ f2_ f3_; subst f4_; subst f5_))
     refine hK.out _ _ ⟨(blk_cell BK349.out 0).trans rfl, (blk_cell BK349.out 1).trans rfl, HS2_⟩ (fun hHeld => ?_)
     clear hK K
     refine norm_ (a' := ?_) ?_ ?_
     rotate_left
     ·show Act.put _ (some 30) _ = _
      simp only [Act.put, List.setIfInBounds_toArray, List.set_cons_zero, List.set_cons_succ, i64_w, i32_w]
      rfl
     refine last_ (i := 8) (N := none) #[true, true, true, true, true, true, true, true, true] rfl rfl (one_of HT_.out (by kernel_rfl)) (by decide) (fun K hK => ?_)
     have hs25 : w23.cell? ⟨gb349, 0, none⟩ = some (.slice Ao22 x350000_1.length co22) := (blk_cell BK349.out 0).trans rfl
     have hfs25 := blk_frozen BK349.out 0
     have hns25_0 := NB344_349.out
     have hms25_0 := NB349_344.out
     have hs26 : w23.cell? ⟨gb349, 1, none⟩ = some (.int .i64 x350001_1) := (blk_cell BK349.out 1).trans rfl
     have hfs26 := blk_frozen BK349.out 1
     have hns26_0 := NB344_349.out
     have hms26_0 := NB349_344.out
     refine skip_ (w1 := ?_) (by rfl) rfl ?_ ?_
     rotate_left
     ·go_simp
      rfl
     refine hK.out _ _ ?_
     clear hK K
     refine done_ (done_of HT_.out (by kernel_rfl)) ?_
     try go_wp2
     go_roundg k1
     case measure => have := HK1.out; omega
     case rel => exact ⟨(wrap64 (x11_1 + 1)), (t355), (t358), (.slice Ao24 t355.length co24), (rs_), H', ⟨by have := HK1.out; omega⟩, ⟨by (with_reducible repeat (first | apply Kd.N_alloc | apply Kd.N_drewN | apply Kd.N_drew)); exact Kd.N_mono (Kd.N_far (p := ⟨gb349, 1, none⟩) (Kd.N_far (p := ⟨gb349, 0, none⟩) (Kd.N_mono HO_10.out (fun k_ hk => (⟨hk, hk.1.2.2⟩ : _ ∧ k_ ≠ gb349))) (fun _ hk => hk.2) (.slice Ao24 t355.length co24)) (fun _ hk => hk.2) (.int .i64 t358)) (fun _ hk => ⟨hk.1.2, ⟨hk.1.1.2.1, hk.1.1.2.2⟩⟩)⟩, ⟨by (with_reducible repeat (first | apply Kd.R_alloc | apply Kd.R_drewN | apply Kd.R_drew)); exact Kd.R_mono (Kd.R_far (p := ⟨gb349, 1, none⟩) (Kd.R_far (p := ⟨gb349, 0, none⟩) (Kd.R_types HO357.out BK349.out (by decide)) (fun _ hk => hk.2) (.slice Ao24 t355.length co24)) (fun _ hk => hk.2) (.int .i64 t358)) (fun _ hk => trivial)⟩, ⟨by refine bp_ ?_; refine blk_far ?_ NB344_349.out _; refine bp_ ?_; refine blk_far ?_ NB344_349.out _; refine bp_ ?_; exact BK344.out⟩, ⟨by refine bp_ ?_; refine blk_put (cs := #[.slice Ao24 t355.length co24, .int .i64 x350001_1]) ?_ 1 _ rfl; refine bp_ ?_; refine blk_put (cs := #[.slice Ao22 x350000_1.length co22, .int .i64 x350001_1]) ?_ 0 _ rfl; refine bp_ ?_; exact BK349.out⟩, ⟨bl_⟩⟩
    ·rw [if_neg c16] at H
     exact absurd H (by simp)
   ·rw [if_neg c15] at H
    have c15b0 : decide (x11_1 < (t350.length : Int)) = false := decide_eq_false c15
    clear c15
    simp only [Option.some.injEq, Prod.mk.injEq] at H
    obtain ⟨rfl, rfl⟩ := H
    obtain ⟨Ao27, co27, eo27⟩ := Kd.N_slice HO_10.out
    subst eo27
    have hnb28 := NB349_344.out
    have hnc28 := NB344_349.out
    have hcz29_0 : wr.cell? ⟨gb349, 0, none⟩ = some (u350000) := (blk_cell BK349.out 0).trans rfl
    have hcz29_1 : wr.cell? ⟨gb349, 1, none⟩ = some (.int .i64 x350001_1) := (blk_cell BK349.out 1).trans rfl
    have hfz29_0 := blk_frozen BK349.out 0
    have hfz29_1 := blk_frozen BK349.out 1
    obtain ⟨Ao30, co30, eo30⟩ := Kd.R_slice HO_350000.out
    subst eo30
    have hcz31_0 : wr.cell? ⟨gb344, 0, none⟩ = some (.slice none 0 0) := (blk_cell BK344.out 0).trans rfl
    have hcz31_1 : wr.cell? ⟨gb344, 1, none⟩ = some (.int .i64 0) := (blk_cell BK344.out 1).trans rfl
    have hfz31_0 := blk_frozen BK344.out 0
    have hfz31_1 := blk_frozen BK344.out 1
    go_wp2
    refine bodyPost_ret (results_cell_row rfl _ _ gb344 79 #[.slice Ao30 x350000_1.length co30, .int .i64 x350001_1] (0, 0) _ rfl (by refine bp_ ?_; refine blk_put (cs := #[.slice Ao30 x350000_1.length co30, .int .i64 0]) ?_ 1 _ rfl; refine bp_ ?_; refine blk_put (cs := #[.slice none 0 0, .int .i64 0]) ?_ 0 _ rfl; refine bp_ ?_; exact BK344.out) Tryd.underlying79 rfl (by kernel_rfl)) rfl ?_
    exact ⟨_, ew_, by (with_reducible repeat (first | apply Kd.R_alloc | apply Kd.R_drewN | apply Kd.R_drew)); exact Kd.R_mono (Kd.R_far (p := ⟨gb344, 1, none⟩) (Kd.R_far (p := ⟨gb344, 0, none⟩) (Kd.R_types HO_350000.out BK344.out (by decide)) (fun _ hk => hk.2) (.slice Ao30 x350000_1.length co30)) (fun _ hk => hk.2) (.int .i64 x350001_1)) (fun _ hk => trivial), bl_⟩

def trommelref01_ints.f (a0 : Int) (a1 : Int) : Option (Int) := if a0 < a1 then (some (-1)) else (if a0 > a1 then (some 1) else (some 0))
set_option maxHeartbeats 8000000 in
set_option maxRecDepth 100000 in
theorem trommelref01_ints.calls (a0 : Int) (a1 : Int) (r : Int) (w : World) (h : trommelref01_ints.f a0 a1 = some r) :
  Calls Tryd.prog 150 #[.int .i64 a0, .int .i64 a1] w fun e w' => e = .returned (.int .i64 r) ∧ Drawn0 w w' := by
 have H : (if a0 < a1 then (some (-1)) else (if a0 > a1 then (some 1) else (some 0))) = some r := h
 clear h
 by_cases c3 : a0 < a1
 ·rw [if_pos c3] at H
  have c3b0 : decide (a0 < a1) = true := decide_eq_true c3
  clear c3
  obtain rfl := Option.some.inj H
  go_enter Tryd.func150, Tryd.ntmps150
  go_wp2
  go_ret
  exact ⟨rs_, by repeat (first | exact Drawn0.refl _ | apply Drawn0.step)⟩
 ·rw [if_neg c3] at H
  have c3b0 : decide (a0 < a1) = false := decide_eq_false c3
  clear c3
  by_cases c4 : a0 > a1
  ·rw [if_pos c4] at H
   have c4b0 : decide (a1 < a0) = true := decide_eq_true c4
   clear c4
   obtain rfl := Option.some.inj H
   go_enter Tryd.func150, Tryd.ntmps150
   go_wp2
   go_ret
   exact ⟨rs_, by repeat (first | exact Drawn0.refl _ | apply Drawn0.step)⟩
  ·rw [if_neg c4] at H
   have c4b0 : decide (a1 < a0) = false := decide_eq_false c4
   clear c4
   obtain rfl := Option.some.inj H
   go_enter Tryd.func150, Tryd.ntmps150
   go_wp2
   go_ret
   exact ⟨rs_, by repeat (first | exact Drawn0.refl _ | apply Drawn0.step)⟩

end Go.Proofs.YtcfgjaggccnoaaaDoor.PSiftPasses
