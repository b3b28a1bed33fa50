import Derived.Test.YtcfgjaggccnoaaaDoorPSiftPassesx0
import Derived.Test.YtcfgjaggccnoaaaDoorPSiftPassesx1
import Derived.Test.YtcfgjaggccnoaaaDoorPSiftPassesx3
import Derived.Test.YtcfgjaggccnoaaaDoorPSiftPassesx6
namespace Go.Proofs.YtcfgjaggccnoaaaDoor.PSiftPasses
open Go.RowKit Go.Proofs.YtcfgjaggccnoaaaDoorW.PrintWords Go.Proofs.YtcfgjaggccnoaaaDoorW.PrintLast Go.Proofs.YtcfgjaggccnoaaaDoorW.PrintMore
attribute [local go_sem] max2_int min2_int max_two min_two max_three min_three max_four min_four
set_option linter.unusedVariables false
set_option linter.unusedSimpArgs false
set_option maxRecDepth 100000

def sift_Count.f (l0_0 : List Int) (a0_1 : Int) (l0_2 : List (S106)) (a0_3 : Int) (a0_4 : Int) (a0_5 : Bool) : Option (Int) := some a0_4
set_option maxHeartbeats 8000000 in
set_option maxRecDepth 100000 in
theorem sift_Count.calls (A0_0 : Option Addr) (c0_0 : Nat) (l0_0 : List Int) (a0_1 : Int) (A0_2 : Option Addr) (c0_2 : Nat) (l0_2 : List (S106)) (a0_3 : Int) (a0_4 : Int) (a0_5 : Bool) (r : Int) (w : World) (hr0_0 : Kd.C (Kd.int .u64) w A0_0 l0_0.length l0_0) (hc0_0 : l0_0.length ≤ c0_0) (hr0_2 : Kd.C k106 w A0_2 l0_2.length l0_2) (hc0_2 : l0_2.length ≤ c0_2) (h : sift_Count.f l0_0 a0_1 l0_2 a0_3 a0_4 a0_5 = some r) :
  Calls Tryd.prog 30 #[.agg #[.slice A0_0 l0_0.length c0_0, .int .i64 a0_1, .slice A0_2 l0_2.length c0_2, .int .i64 a0_3, .int .i64 a0_4, .bool a0_5]] w fun e w' => e = .returned (.int .i64 r) ∧ Below w.heap.size w w' := by
 have hu50 := Tryd.underlying50
 have HR0_0 := am_ hr0_0
 have HC0_0 := am_ hc0_0
 clear hr0_0 hc0_0
 have HR0_2 := am_ hr0_2
 have HC0_2 := am_ hc0_2
 clear hr0_2 hc0_2
 have HB := am_ (Below.refl w.heap.size w)
 have H : (some a0_4) = some r := h
 clear h
 obtain rfl := Option.some.inj H
 go_enter Tryd.func30, Tryd.ntmps30
 go_wp2_with (first | ((with_reducible refine gate_dst (N := 1) rfl ?_); refine box_event ?hg (N := 1) ?hd (cs := #[.slice A0_0 l0_0.length c0_0, .int .i64 a0_1, .slice A0_2 l0_2.length c0_2, .int .i64 a0_3, .int .i64 a0_4, .bool a0_5]) (t := 50) ?hr ?_; (case hd => rfl); (case hg => rfl); (case hr => first | (go_simp; done) | (go_simp; rfl)); intro gb243 hg w2 hbox hb; have BK243 := am_ (hbox); have GW243 := am_ ((by rw [hg]; exact (below_size (bl_)) : w.heap.size ≤ gb243)); have GE243 := am_ ((by rw [hg]; exact (below_size (bl_)) : w.heap.size ≤ gb243)); replace HB := am_ (below_step (bl_) hb); clear hb hbox hg; have hcz3_0 : w2.cell? ⟨gb243, 0, none⟩ = some (.slice A0_0 l0_0.length c0_0) := (blk_cell BK243.out 0).trans rfl; have hcz3_1 : w2.cell? ⟨gb243, 1, none⟩ = some (.int .i64 a0_1) := (blk_cell BK243.out 1).trans rfl; have hcz3_2 : w2.cell? ⟨gb243, 2, none⟩ = some (.slice A0_2 l0_2.length c0_2) := (blk_cell BK243.out 2).trans rfl; have hcz3_3 : w2.cell? ⟨gb243, 3, none⟩ = some (.int .i64 a0_3) := (blk_cell BK243.out 3).trans rfl; have hcz3_4 : w2.cell? ⟨gb243, 4, none⟩ = some (.int .i64 a0_4) := (blk_cell BK243.out 4).trans rfl; have hcz3_5 : w2.cell? ⟨gb243, 5, none⟩ = some (.bool a0_5) := (blk_cell BK243.out 5).trans rfl; have hfz3_0 := blk_frozen BK243.out 0; have hfz3_1 := blk_frozen BK243.out 1; have hfz3_2 := blk_frozen BK243.out 2; have hfz3_3 := blk_frozen BK243.out 3; have hfz3_4 := blk_frozen BK243.out 4; have hfz3_5 := blk_frozen BK243.out 5))
 go_ret
 exact ⟨ew_, bl_⟩

def bloom_New.f (a0 : Int) (a1 : Int) : Option (List Int × Int) := if 0 ≤ (mn (mx a0 1) 4096) then (if (mn (mx a0 1) 4096 : Int).toNat ≤ 35184372088832 then (some ((List.replicate (mn (mx a0 1) 4096 : Int).toNat 0), mn (mx a1 1) 5)) else (none)) else (none)
set_option maxHeartbeats 8000000 in
set_option maxRecDepth 100000 in
theorem bloom_New.calls (a0 : Int) (a1 : Int) (r1 : List Int) (r2 : Int) (w : World) (h : bloom_New.f a0 a1 = some (r1, r2)) :
  Calls Tryd.prog 82 #[.int .i64 a0, .int .i64 a1] w fun e w' => ∃ v0_ : Value, e = .returned (.agg #[v0_, .int .i64 r2]) ∧ Kd.R (Kd.int .u64) 28 w' w.heap.size (fun _ => True) v0_ r1 ∧ Below w.heap.size w w' := by
 have hu47 := Tryd.underlying47
 have HB := am_ (Below.refl w.heap.size w)
 have H : (if 0 ≤ (mn (mx a0 1) 4096) then (if (mn (mx a0 1) 4096 : Int).toNat ≤ 35184372088832 then (some ((List.replicate (mn (mx a0 1) 4096 : Int).toNat 0), mn (mx a1 1) 5)) else (none)) else (none)) = some (r1, r2) := h
 clear h
 obtain ⟨ji3, hji3⟩ : ∃ j_ : Int, (mx a0 1) = j_ := ⟨_, rfl⟩
 replace H : (if 0 ≤ (mn (ji3) 4096) then (if (mn (ji3) 4096 : Int).toNat ≤ 35184372088832 then (some ((List.replicate (mn (ji3) 4096 : Int).toNat 0), mn (mx a1 1) 5)) else (none)) else (none)) = some (r1, r2) := by first | (rw [hji3] at H; exact H) | (simp only [hji3] at H ⊢; exact H)
 (try (have hji3l : 1 ≤ ji3 := by (rw [← hji3]; unfold mx; (repeat' split) <;> omega)))
 (try (have hji3m : 0 ≤ ji3 := by omega))
 have hji3_ : (if a0 < 1 then 1 else a0) = ji3 := hji3
 obtain ⟨ji4, hji4⟩ : ∃ j_ : Int, (mn (ji3) 4096) = j_ := ⟨_, rfl⟩
 replace H : (if 0 ≤ (ji4) then (if (ji4 : Int).toNat ≤ 35184372088832 then (some ((List.replicate (ji4 : Int).toNat 0), mn (mx a1 1) 5)) else (none)) else (none)) = some (r1, r2) := by first | (rw [hji4] at H; exact H) | (simp only [hji4] at H ⊢; exact H)
 have hji4_ : (if 4096 < (ji3) then 4096 else (ji3)) = ji4 := hji4
 by_cases c5 : 0 ≤ (ji4)
 ·rw [if_pos c5] at H
  have c5b0 := eq_true c5
  have c5b1 : decide (0 ≤ (ji4)) = true := decide_eq_true c5
  clear c5
  by_cases c6 : (ji4 : Int).toNat ≤ 35184372088832
  ·rw [if_pos c6] at H
   have c6b0 := eq_true c6
   have c6b1 : decide ((ji4 : Int).toNat ≤ 35184372088832) = true := decide_eq_true c6
   clear c6
   obtain ⟨y245, hy245⟩ : ∃ y_ : List Int, y_ = (List.replicate (ji4 : Int).toNat 0) := ⟨_, rfl⟩
   replace H : (some (y245, mn (mx a1 1) 5)) = some (r1, r2) := by first | (rw [hy245]; with_reducible exact H) | (have H2_ := (Option.bind_some _ _).symm.trans H; rw [hy245]; with_reducible exact H2_) | (have H2_ := (Option.bind_some _ _).symm.trans H; with_reducible exact H2_) | with_reducible exact H | (rw [hy245]; exact H) | exact H
   have Ny245 := am_ hy245
   clear hy245
   obtain ⟨ji7, hji7⟩ : ∃ j_ : Int, (mx a1 1) = j_ := ⟨_, rfl⟩
   replace H : (some (y245, mn (ji7) 5)) = some (r1, r2) := by first | (rw [hji7] at H; exact H) | (simp only [hji7] at H ⊢; exact H)
   (try (have hji7l : 1 ≤ ji7 := by (rw [← hji7]; unfold mx; (repeat' split) <;> omega)))
   (try (have hji7m : 0 ≤ ji7 := by omega))
   have hji7_ : (if a1 < 1 then 1 else a1) = ji7 := hji7
   obtain ⟨ji8, hji8⟩ : ∃ j_ : Int, (mn (ji7) 5) = j_ := ⟨_, rfl⟩
   replace H : (some (y245, ji8)) = some (r1, r2) := by first | (rw [hji8] at H; exact H) | (simp only [hji8] at H ⊢; exact H)
   have hji8_ : (if 5 < (ji7) then 5 else (ji7)) = ji8 := hji8
   simp only [Option.some.injEq, Prod.mk.injEq] at H
   obtain ⟨rfl, rfl⟩ := H
   go_enter Tryd.func82, Tryd.ntmps82
   go_wp2_with (first | ((with_reducible refine gate_dst (N := 4) rfl ?_); refine box_event ?hg (N := 4) ?hd (cs := #[.slice none 0 0, .int .i64 0]) (t := 47) ?hr ?_; (case hd => rfl); (case hg => rfl); (case hr => first | (go_simp; done) | (go_simp; rfl)); intro gb244 hg w9 hbox hb; have BK244 := am_ (hbox); have GW244 := am_ ((by rw [hg]; exact (below_size (bl_)) : w.heap.size ≤ gb244)); have GE244 := am_ ((by rw [hg]; exact (below_size (bl_)) : w.heap.size ≤ gb244)); replace HB := am_ (below_step (bl_) hb); clear hb hbox hg) | ((with_reducible refine gate_dst (N := 8) rfl ?_); refine Kd.R_make (Kd.int .u64) _ 28 rfl (N := 8) rfl 45 _ _ rfl ji4 rfl rfl Tryd.underlying45 (.int .u64 0) 8 info28 rfl (by decide) (by omega) 0 (ok := fun _ => True) (okp := fun _ => True) rfl (fun _ hk => hk) trivial (of_decide_eq_true (as_)) (Nat.le_trans (Nat.mul_le_mul_right _ (of_decide_eq_true (as_) : ji4.toNat ≤ 35184372088832)) (by omega)) (Below.refl _ _) (Nat.le_refl _) ?_; intro v246 w10 ho11 hb hg_ hnew_; clear hg_ hnew_; (first | rw [← Ny245.out] at ho11 | (simp only [Int.reduceToNat] at ho11; rw [← Ny245.out] at ho11)); have HO247 := am_ (Kd.R_lower ho11 (below_size (bl_))); replace BK244 := am_ (blk_below (g := gb244) (o := .cells #[.slice none 0 0, .int .i64 0] 47 (0, 0)) (bk_ BK244.out) hb); replace HB := am_ (below_step (bl_) hb); clear hb ho11; obtain ⟨Ao12, co12, eo12⟩ := Kd.R_slice HO247.out; subst eo12; have hcz13_0 : w10.cell? ⟨gb244, 0, none⟩ = some (.slice none 0 0) := (blk_cell BK244.out 0).trans rfl; have hcz13_1 : w10.cell? ⟨gb244, 1, none⟩ = some (.int .i64 0) := (blk_cell BK244.out 1).trans rfl; have hfz13_0 := blk_frozen BK244.out 0; have hfz13_1 := blk_frozen BK244.out 1))
   refine bodyPost_ret (results_cell_row rfl _ _ gb244 47 #[.slice Ao12 y245.length co12, .int .i64 ji8] (0, 0) _ rfl (by refine bp_ ?_; refine blk_put (cs := #[.slice Ao12 y245.length co12, .int .i64 0]) ?_ 1 _ rfl; refine bp_ ?_; refine blk_put (cs := #[.slice none 0 0, .int .i64 0]) ?_ 0 _ rfl; refine bp_ ?_; exact BK244.out) Tryd.underlying47 rfl (by kernel_rfl)) rfl ?_
   exact ⟨_, by first | rfl | (simp [errW_none, errW_some] <;> rfl) | (simp only [← hji3, ← hji4, ← hji7, ← hji8]; first | rfl | (simp [errW_none, errW_some] <;> rfl)) | (simp [*, errW_none, errW_some] <;> rfl), by (with_reducible repeat (first | apply Kd.R_alloc | apply Kd.R_drewN | apply Kd.R_drew)); exact Kd.R_mono (Kd.R_far (p := ⟨gb244, 1, none⟩) (Kd.R_far (p := ⟨gb244, 0, none⟩) (Kd.R_types HO247.out BK244.out (by decide)) (fun _ hk => hk.2) (.slice Ao12 y245.length co12)) (fun _ hk => hk.2) (.int .i64 ji8)) (fun _ hk => trivial), bl_⟩
  ·rw [if_neg c6] at H
   exact absurd H (by simp)
 ·rw [if_neg c5] at H
  exact absurd H (by simp)

def sift_New.f (a0 : Int) (a1 : Int) (a2 : Int) : Option (List Int × Int × (List (S106)) × Int × Int × Bool) := (bloom_New.f a1 a2).bind fun bt249 => (some (bt249.1, bt249.2, ([] : List (S106)), a0, 0, true))
set_option maxHeartbeats 8000000 in
set_option maxRecDepth 100000 in
theorem sift_New.calls (a0 : Int) (a1 : Int) (a2 : Int) (r1 : List Int) (r2 : Int) (r3 : List (S106)) (r4 : Int) (r5 : Int) (r6 : Bool) (w : World) (h : sift_New.f a0 a1 a2 = some (r1, r2, r3, r4, r5, r6)) :
  Calls Tryd.prog 42 #[.int .i64 a0, .int .i64 a1, .int .i64 a2] w fun e w' => ∃ v0_ v2_ : Value, e = .returned (.agg #[v0_, .int .i64 r2, v2_, .int .i64 r4, .int .i64 r5, .bool r6]) ∧ Kd.R (Kd.int .u64) 28 w' w.heap.size (fun _ => True) v0_ r1 ∧ Kd.R k106 106 w' w.heap.size (fun _ => True) v2_ r3 ∧ Below w.heap.size w w' := by
 have hu50 := Tryd.underlying50
 have HB := am_ (Below.refl w.heap.size w)
 have H : ((bloom_New.f a1 a2).bind fun bt249 => (some (bt249.1, bt249.2, ([] : List (S106)), a0, 0, true))) = some (r1, r2, r3, r4, r5, r6) := h
 clear h
 replace H := Option.bind_eq_some_iff.mp H
 obtain ⟨⟨t249, t252⟩, A40, H⟩ := H
 replace H : (some (t249, t252, ([] : List (S106)), a0, 0, true)) = some (r1, r2, r3, r4, r5, r6) := H
 have A4 := am_ A40
 clear A40
 simp only [Option.some.injEq, Prod.mk.injEq] at H
 obtain ⟨rfl, rfl, rfl, rfl, rfl, rfl⟩ := H
 go_enter Tryd.func42, Tryd.ntmps42
 go_wp2_with (first | ((with_reducible refine gate_dst (N := 6) rfl ?_); refine box_event ?hg (N := 6) ?hd (cs := #[.slice none 0 0, .int .i64 0, .slice none 0 0, .int .i64 0, .int .i64 0, .bool false]) (t := 50) ?hr ?_; (case hd => rfl); (case hg => rfl); (case hr => first | (go_simp; done) | (go_simp; rfl)); intro gb248 hg w5 hbox hb; have BK248 := am_ (hbox); have GW248 := am_ ((by rw [hg]; exact (below_size (bl_)) : w.heap.size ≤ gb248)); have GE248 := am_ ((by rw [hg]; exact (below_size (bl_)) : w.heap.size ≤ gb248)); replace HB := am_ (below_step (bl_) hb); clear hb hbox hg) | ((with_reducible refine gate_callee (f := 82) rfl ?_); refine goesL_ (some 9) rfl rfl Tryd.func82 (by kernel_rfl) rfl #[.int .i64 a1, .int .i64 a2] rfl (by (try simp only [List.map_toArray, List.map_cons, List.map_nil]); first | done | rfl | (simp only [List.length_drop, List.length_take]; rfl)) ?_; (with_reducible refine (bloom_New.calls a1 a2 t249 t252 _ A4.out).mono ?_); rintro e w6 ⟨v250, rfl, ho0, hb⟩; refine ⟨_, rfl, ?_⟩; have HO251 := am_ (Kd.R_lower ho0 (below_size (bl_))); replace BK248 := am_ (blk_below (g := gb248) (o := .cells #[.slice none 0 0, .int .i64 0, .slice none 0 0, .int .i64 0, .int .i64 0, .bool false] 50 (0, 0)) (bk_ BK248.out) hb); replace HB := am_ (below_step (bl_) hb); (try clear hb); (try clear hb2); (try clear hk); (try clear hi); (try clear ho0); obtain ⟨Ao7, co7, eo7⟩ := Kd.R_slice HO251.out; subst eo7; have hcz8_0 : w6.cell? ⟨gb248, 0, none⟩ = some (.slice none 0 0) := (blk_cell BK248.out 0).trans rfl; have hcz8_1 : w6.cell? ⟨gb248, 1, none⟩ = some (.int .i64 0) := (blk_cell BK248.out 1).trans rfl; have hcz8_2 : w6.cell? ⟨gb248, 2, none⟩ = some (.slice none 0 0) := (blk_cell BK248.out 2).trans rfl; have hcz8_3 : w6.cell? ⟨gb248, 3, none⟩ = some (.int .i64 0) := (blk_cell BK248.out 3).trans rfl; have hcz8_4 : w6.cell? ⟨gb248, 4, none⟩ = some (.int .i64 0) := (blk_cell BK248.out 4).trans rfl; have hcz8_5 : w6.cell? ⟨gb248, 5, none⟩ = some (.bool false) := (blk_cell BK248.out 5).trans rfl; have hfz8_0 := blk_frozen BK248.out 0; have hfz8_1 := blk_frozen BK248.out 1; have hfz8_2 := blk_frozen BK248.out 2; have hfz8_3 := blk_frozen BK248.out 3; have hfz8_4 := blk_frozen BK248.out 4; have hfz8_5 := blk_frozen BK248.out 5))
 refine bodyPost_ret (results_cell_row rfl _ _ gb248 50 #[.slice Ao7 t249.length co7, .int .i64 t252, .slice none 0 0, .int .i64 a0, .int .i64 0, .bool true] (0, 0) _ rfl (by refine bp_ ?_; refine blk_put (cs := #[.slice Ao7 t249.length co7, .int .i64 t252, .slice none 0 0, .int .i64 a0, .int .i64 0, .bool false]) ?_ 5 _ rfl; refine bp_ ?_; refine blk_put (cs := #[.slice Ao7 t249.length co7, .int .i64 t252, .slice none 0 0, .int .i64 a0, .int .i64 0, .bool false]) ?_ 4 _ rfl; refine bp_ ?_; refine blk_put (cs := #[.slice Ao7 t249.length co7, .int .i64 t252, .slice none 0 0, .int .i64 0, .int .i64 0, .bool false]) ?_ 3 _ rfl; refine bp_ ?_; refine blk_put (cs := #[.slice Ao7 t249.length co7, .int .i64 t252, .slice none 0 0, .int .i64 0, .int .i64 0, .bool false]) ?_ 2 _ rfl; refine bp_ ?_; refine blk_put (cs := #[.slice Ao7 t249.length co7, .int .i64 0, .slice none 0 0, .int .i64 0, .int .i64 0, .bool false]) ?_ 1 _ rfl; refine bp_ ?_; refine blk_put (cs := #[.slice none 0 0, .int .i64 0, .slice none 0 0, .int .i64 0, .int .i64 0, .bool false]) ?_ 0 _ rfl; refine bp_ ?_; exact BK248.out) Tryd.underlying50 rfl (by kernel_rfl)) rfl ?_
 exact ⟨_, _, ew_, by (with_reducible repeat (first | apply Kd.R_alloc | apply Kd.R_drewN | apply Kd.R_drew)); exact Kd.R_mono (Kd.R_far (p := ⟨gb248, 5, none⟩) (Kd.R_far (p := ⟨gb248, 4, none⟩) (Kd.R_far (p := ⟨gb248, 3, none⟩) (Kd.R_far (p := ⟨gb248, 2, none⟩) (Kd.R_far (p := ⟨gb248, 1, none⟩) (Kd.R_far (p := ⟨gb248, 0, none⟩) (Kd.R_types HO251.out BK248.out (by decide)) (fun _ hk => hk.2) (.slice Ao7 t249.length co7)) (fun _ hk => hk.2) (.int .i64 t252)) (fun _ hk => hk.2) (.slice none 0 0)) (fun _ hk => hk.2) (.int .i64 a0)) (fun _ hk => hk.2) (.int .i64 0)) (fun _ hk => hk.2) (.bool true)) (fun _ hk => trivial), by first | exact Kd.R_nil _ _ _ _ _ | exact Kd.N_nil _ _ _ _ _ | exact Kd.V_nil _ _ _ _ _ | exact Kd.Q_nil _ _ _ _ _ | exact Kd.S_nil _ _ _ _ _, bl_⟩

def trommellaw20_live.j0 : Nat → Bool → Option (Bool)
 | 0, _ => none
 | k + 1, x0 => some x0
def trommellaw20_live.f (k : Nat)  : Option (Bool) := (some (([(⟨1, 1, (⟨#[]⟩ : ByteArray)⟩ : S23)] : List (S23)) : List (S23))).bind fun y253 => ((sift_New.f 4 1 2).bind fun bt256 => ((sift_Add.f k bt256.1 bt256.2.1 bt256.2.2.1 bt256.2.2.2.1 bt256.2.2.2.2.1 bt256.2.2.2.2.2 (([y253] : List (List (S23))))).bind fun bt269 => ((sift_Passes.f k bt269.1 bt269.2.1 bt269.2.2.1 bt269.2.2.2.1 bt269.2.2.2.2.1 bt269.2.2.2.2.2 y253).bind fun t280 => (if t280 = true then ((sift_Passes.f k bt269.1 bt269.2.1 bt269.2.2.1 bt269.2.2.2.1 bt269.2.2.2.2.1 bt269.2.2.2.2.2 (([(⟨0, 0, (⟨#[]⟩ : ByteArray)⟩ : S23)] : List (S23)))).bind fun t284 => (if t284 = true then (trommellaw20_live.j0 k false) else ((sift_Count.f bt269.1 bt269.2.1 bt269.2.2.1 bt269.2.2.2.1 bt269.2.2.2.2.1 bt269.2.2.2.2.2).bind fun t285 => (trommellaw20_live.j0 k (t285 == 1))))) else (trommellaw20_live.j0 k false)))))
theorem trommellaw20_live.mono_l : ∀ k, (∀ y0, LeO (trommellaw20_live.j0 k y0) (trommellaw20_live.j0 (k + 1) y0))
 | 0 => fun _ r h => by simp [trommellaw20_live.j0] at h
 | k + 1 => by
  have ih0 := trommellaw20_live.mono_l k
  ·intro y0
   unfold trommellaw20_live.j0
   repeat' first
   | (with_reducible exact ih0 _)
   | (with_reducible exact sift_Add.mono _ _ _ _ _ _ _ _)
   | (with_reducible exact sift_Passes.mono _ _ _ _ _ _ _ _)
   | (with_reducible exact LeO.refl _)
   | (with_reducible exact LeO.none _)
   | (with_reducible refine LeO.ite ?_ ?_)
   | (with_reducible refine LeO.bind ?_ (fun _ => ?_))
   | exact ih0 _
   | exact sift_Add.mono _ _ _ _ _ _ _ _
   | exact sift_Passes.mono _ _ _ _ _ _ _ _
   | exact LeO.none _
   | refine LeO.ite ?_ ?_
   | refine LeO.bind ?_ (fun _ => ?_)
theorem trommellaw20_live.mono : ∀ k, LeO (trommellaw20_live.f k ) (trommellaw20_live.f (k + 1) ) := by
 intro  k
 have ih0 := trommellaw20_live.mono_l k
 unfold trommellaw20_live.f
 repeat' first
   | (with_reducible exact ih0 _)
   | (with_reducible exact sift_Add.mono _ _ _ _ _ _ _ _)
   | (with_reducible exact sift_Passes.mono _ _ _ _ _ _ _ _)
   | (with_reducible exact LeO.refl _)
   | (with_reducible exact LeO.none _)
   | (with_reducible refine LeO.ite ?_ ?_)
   | (with_reducible refine LeO.bind ?_ (fun _ => ?_))
   | exact ih0 _
   | exact sift_Add.mono _ _ _ _ _ _ _ _
   | exact sift_Passes.mono _ _ _ _ _ _ _ _
   | exact LeO.none _
   | refine LeO.ite ?_ ?_
   | refine LeO.bind ?_ (fun _ => ?_)
set_option maxHeartbeats 8000000 in
set_option maxRecDepth 100000 in
theorem trommellaw20_live.calls (k : Nat)  (r : Bool) (w : World) (h : trommellaw20_live.f k  = some r) (HT : Aside0 (TabOK w)) :
  Calls Tryd.prog 24 #[] w fun e w' => e = .returned (.bool r) ∧ Below w.heap.size w w' := by
 have hu23 := Tryd.underlying23
 have hu50 := Tryd.underlying50
 have HB := am_ (Below.refl w.heap.size w)
 have H : ((some (([(⟨1, 1, (⟨#[]⟩ : ByteArray)⟩ : S23)] : List (S23)) : List (S23))).bind fun y253 => ((sift_New.f 4 1 2).bind fun bt256 => ((sift_Add.f k bt256.1 bt256.2.1 bt256.2.2.1 bt256.2.2.2.1 bt256.2.2.2.2.1 bt256.2.2.2.2.2 (([y253] : List (List (S23))))).bind fun bt269 => ((sift_Passes.f k bt269.1 bt269.2.1 bt269.2.2.1 bt269.2.2.2.1 bt269.2.2.2.2.1 bt269.2.2.2.2.2 y253).bind fun t280 => (if t280 = true then ((sift_Passes.f k bt269.1 bt269.2.1 bt269.2.2.1 bt269.2.2.2.1 bt269.2.2.2.2.1 bt269.2.2.2.2.2 (([(⟨0, 0, (⟨#[]⟩ : ByteArray)⟩ : S23)] : List (S23)))).bind fun t284 => (if t284 = true then (trommellaw20_live.j0 k false) else ((sift_Count.f bt269.1 bt269.2.1 bt269.2.2.1 bt269.2.2.2.1 bt269.2.2.2.2.1 bt269.2.2.2.2.2).bind fun t285 => (trommellaw20_live.j0 k (t285 == 1))))) else (trommellaw20_live.j0 k false)))))) = some r := h
 clear h
 obtain ⟨y253, hy253⟩ : ∃ y_ : List (S23), y_ = (([(⟨1, 1, (⟨#[]⟩ : ByteArray)⟩ : S23)] : List (S23))) := ⟨_, rfl⟩
 replace H : ((sift_New.f 4 1 2).bind fun bt256 => ((sift_Add.f k bt256.1 bt256.2.1 bt256.2.2.1 bt256.2.2.2.1 bt256.2.2.2.2.1 bt256.2.2.2.2.2 (([y253] : List (List (S23))))).bind fun bt269 => ((sift_Passes.f k bt269.1 bt269.2.1 bt269.2.2.1 bt269.2.2.2.1 bt269.2.2.2.2.1 bt269.2.2.2.2.2 y253).bind fun t280 => (if t280 = true then ((sift_Passes.f k bt269.1 bt269.2.1 bt269.2.2.1 bt269.2.2.2.1 bt269.2.2.2.2.1 bt269.2.2.2.2.2 (([(⟨0, 0, (⟨#[]⟩ : ByteArray)⟩ : S23)] : List (S23)))).bind fun t284 => (if t284 = true then (trommellaw20_live.j0 k false) else ((sift_Count.f bt269.1 bt269.2.1 bt269.2.2.1 bt269.2.2.2.1 bt269.2.2.2.2.1 bt269.2.2.2.2.2).bind fun t285 => (trommellaw20_live.j0 k (t285 == 1))))) else (trommellaw20_live.j0 k false))))) = some r := by first | (rw [hy253]; with_reducible exact H) | (have H2_ := (Option.bind_some _ _).symm.trans H; rw [hy253]; with_reducible exact H2_) | (have H2_ := (Option.bind_some _ _).symm.trans H; with_reducible exact H2_) | with_reducible exact H | (rw [hy253]; exact H) | exact H
 have Ny253 := am_ hy253
 clear hy253
 replace H := Option.bind_eq_some_iff.mp H
 obtain ⟨⟨t256, t259, t260, t263, t264, t265⟩, A10, H⟩ := H
 replace H : ((sift_Add.f k t256 t259 t260 t263 t264 t265 (([y253] : List (List (S23))))).bind fun bt269 => ((sift_Passes.f k bt269.1 bt269.2.1 bt269.2.2.1 bt269.2.2.2.1 bt269.2.2.2.2.1 bt269.2.2.2.2.2 y253).bind fun t280 => (if t280 = true then ((sift_Passes.f k bt269.1 bt269.2.1 bt269.2.2.1 bt269.2.2.2.1 bt269.2.2.2.2.1 bt269.2.2.2.2.2 (([(⟨0, 0, (⟨#[]⟩ : ByteArray)⟩ : S23)] : List (S23)))).bind fun t284 => (if t284 = true then (trommellaw20_live.j0 k false) else ((sift_Count.f bt269.1 bt269.2.1 bt269.2.2.1 bt269.2.2.2.1 bt269.2.2.2.2.1 bt269.2.2.2.2.2).bind fun t285 => (trommellaw20_live.j0 k (t285 == 1))))) else (trommellaw20_live.j0 k false)))) = some r := H
 have A1 := am_ A10
 clear A10
 obtain ⟨y266, hy266⟩ : ∃ y_ : List (List (S23)), y_ = (([y253] : List (List (S23)))) := ⟨_, rfl⟩
 replace H : ((sift_Add.f k t256 t259 t260 t263 t264 t265 y266).bind fun bt269 => ((sift_Passes.f k bt269.1 bt269.2.1 bt269.2.2.1 bt269.2.2.2.1 bt269.2.2.2.2.1 bt269.2.2.2.2.2 y253).bind fun t280 => (if t280 = true then ((sift_Passes.f k bt269.1 bt269.2.1 bt269.2.2.1 bt269.2.2.2.1 bt269.2.2.2.2.1 bt269.2.2.2.2.2 (([(⟨0, 0, (⟨#[]⟩ : ByteArray)⟩ : S23)] : List (S23)))).bind fun t284 => (if t284 = true then (trommellaw20_live.j0 k false) else ((sift_Count.f bt269.1 bt269.2.1 bt269.2.2.1 bt269.2.2.2.1 bt269.2.2.2.2.1 bt269.2.2.2.2.2).bind fun t285 => (trommellaw20_live.j0 k (t285 == 1))))) else (trommellaw20_live.j0 k false)))) = some r := by first | (rw [hy266]; with_reducible exact H) | (have H2_ := (Option.bind_some _ _).symm.trans H; rw [hy266]; with_reducible exact H2_) | (have H2_ := (Option.bind_some _ _).symm.trans H; with_reducible exact H2_) | with_reducible exact H | (rw [hy266]; exact H) | exact H
 have Ny266 := am_ hy266
 clear hy266
 replace H := Option.bind_eq_some_iff.mp H
 obtain ⟨⟨t269, t272, t273, t276, t277, t278⟩, A20, H⟩ := H
 replace H : ((sift_Passes.f k t269 t272 t273 t276 t277 t278 y253).bind fun t280 => (if t280 = true then ((sift_Passes.f k t269 t272 t273 t276 t277 t278 (([(⟨0, 0, (⟨#[]⟩ : ByteArray)⟩ : S23)] : List (S23)))).bind fun t284 => (if t284 = true then (trommellaw20_live.j0 k false) else ((sift_Count.f t269 t272 t273 t276 t277 t278).bind fun t285 => (trommellaw20_live.j0 k (t285 == 1))))) else (trommellaw20_live.j0 k false))) = some r := H
 have A2 := am_ A20
 clear A20
 have HC3 := am_ H
 clear H
 go_enter Tryd.func24, Tryd.ntmps24
 go_upto_region 3 with (first | ((with_reducible refine gate_dst (N := 4) rfl ?_); (try (refine gate_guard (by rfl) ?_; dsimp only)); refine Kd.R_lit k23 _ 23 ?hg (N := 4) ?hd (xs := ([(⟨1, 1, (⟨#[]⟩ : ByteArray)⟩ : S23)] : List (S23))) (inner := [.int .i64 1, .int .i64 1, .string (⟨#[]⟩ : ByteArray)]) (ok := fun _ => True) (okp := fun _ => True) ?hr ?hp (fun _ hk => hk) trivial (Below.refl _ _) (Nat.le_refl _) (by simp) ?_; (case hd => rfl); (case hg => rfl); (case hr => first | (go_simp; done) | (go_simp; rfl)); (case hp => exact (Reps.c3 (show Kd.M k23 _ _ _ (⟨1, 1, (⟨#[]⟩ : ByteArray)⟩ : S23) [.int .i64 1, .int .i64 1, .string (⟨#[]⟩ : ByteArray)] from (k23_mkM _ _ _ (⟨1, 1, (⟨#[]⟩ : ByteArray)⟩ : S23) )) (Reps.none _ _))); intro v254 w4 ho5 hb hg_ hnew_; replace ho5 := R_Vn ho5; clear hg_ hnew_; (first | rw [← Ny253.out] at ho5 | (simp only [Int.reduceToNat] at ho5; rw [← Ny253.out] at ho5)); have HO255 := am_ (Kd.V_lower (Kd.V_mono (ok' := fun k_ => True) ho5 (fun k_ hk_ => trivial)) (below_size (bl_))); replace HB := am_ (below_step (bl_) hb); clear hb ho5) | ((with_reducible refine gate_callee (f := 42) rfl ?_); refine goesL_ (some 5) rfl rfl Tryd.func42 (by kernel_rfl) rfl #[.int .i64 4, .int .i64 1, .int .i64 2] rfl (by (try simp only [List.map_toArray, List.map_cons, List.map_nil]); first | done | rfl | (simp only [List.length_drop, List.length_take]; rfl)) ?_; (with_reducible refine (sift_New.calls 4 1 2 t256 t259 t260 t263 t264 t265 _ A1.out).mono ?_); rintro e w6 ⟨v257, v261, rfl, ho0, ho1, hb⟩; refine ⟨_, rfl, ?_⟩; replace HO255 := am_ (Kd.V_mono (Kd.V_told (Kd.V_told (Kd.V_old (kv_ HO255.out) hb) (Kd.R_base ho0)) (Kd.R_base ho1)) (fun _ h_ => h_.1)); have HO258 := am_ (Kd.R_lower ho0 (below_size (bl_))); have HO262 := am_ (Kd.R_lower ho1 (below_size (bl_))); replace HB := am_ (below_step (bl_) hb); (try clear hb); (try clear hb2); (try clear hk); (try clear hi); (try clear ho0); (try clear ho1); obtain ⟨Ao7, co7, eo7⟩ := Kd.V_slice HO255.out; subst eo7) | ((with_reducible refine gate_dst (N := 7) rfl ?_); (try (refine gate_guard (by rfl) ?_; dsimp only)); refine Kd.N_lit (Kd.slice 23 k23) _ 24 ?hg (N' := 7) ?hd (xs := ([y253] : List (List (S23)))) (inner := [.slice Ao7 y253.length co7]) (ok := (fun k_ => some k_ ≠ (v257 : Value).ownBlock ∧ some k_ ≠ (v261 : Value).ownBlock)) (okp := (fun k_ => some k_ ≠ (v257 : Value).ownBlock ∧ some k_ ≠ (v261 : Value).ownBlock)) ?hr ?hp (fun _ hk => hk) ((show ∀ k_, w6.heap.size ≤ k_ → (fun k_ => some k_ ≠ (v257 : Value).ownBlock ∧ some k_ ≠ (v261 : Value).ownBlock) k_ from fun k_ hk => ⟨Kd.fresh' (Kd.R_lt (kr_ HO258.out)) k_ hk, Kd.fresh' (Kd.R_lt (kr_ HO262.out)) k_ hk⟩) _ (Nat.le_refl _)) (Below.refl _ _) (Nat.le_refl _) (by simp) ?_; (case hd => rfl); (case hg => rfl); (case hr => first | (go_simp; done) | (go_simp; rfl)); (case hp => exact (Reps.one (show Kd.FK (Kd.slice 23 k23) _ _ y253 [.slice Ao7 y253.length co7] from (Kd.FK_slice_mk (Kd.V_reads' (Kd.V_mono (ok' := (fun k_ => some k_ ≠ (v257 : Value).ownBlock ∧ some k_ ≠ (v261 : Value).ownBlock)) (kv_ (HO255.out)) (fun k_ hk => ⟨hk.1.2, hk.2⟩))).2.1 (Kd.V_F (Kd.V_mono (ok' := (fun k_ => some k_ ≠ (v257 : Value).ownBlock ∧ some k_ ≠ (v261 : Value).ownBlock)) (kv_ (HO255.out)) (fun k_ hk => ⟨hk.1.2, hk.2⟩))))) (Reps.none _ _))); intro v267 w8 ho9 hb hg_ hnew_; clear hg_ hnew_; (first | rw [← Ny266.out] at ho9 | (simp only [Int.reduceToNat] at ho9; rw [← Ny266.out] at ho9)); replace HO255 := am_ (Kd.V_elder' (kv_ HO255.out) (Kd.N_base ho9) hb); replace HO258 := am_ (Kd.R_below (kr_ HO258.out) hb); replace HO262 := am_ (Kd.R_below (kr_ HO262.out) hb); have HO268 := am_ (Kd.N_lower ho9 (below_size (bl_))); replace HB := am_ (below_step (bl_) hb); clear hb ho9; obtain ⟨Ao10, co10, eo10⟩ := Kd.R_slice HO258.out; subst eo10; obtain ⟨Ao11, co11, eo11⟩ := Kd.R_slice HO262.out; subst eo11; obtain ⟨Ao12, co12, eo12⟩ := Kd.N_slice HO268.out; subst eo12) | ((with_reducible refine gate_callee (f := 29) rfl ?_); refine goesL_ (some 8) rfl rfl Tryd.func29 (by kernel_rfl) rfl #[.agg #[.slice Ao10 t256.length co10, .int .i64 t259, .slice Ao11 t260.length co11, .int .i64 t263, .int .i64 t264, .bool t265], .slice Ao12 y266.length co12] rfl (by (try simp only [List.map_toArray, List.map_cons, List.map_nil]); first | done | rfl | (simp only [List.length_drop, List.length_take]; rfl)) ?_; (with_reducible refine (sift_Add.calls k (fun k_ => some k_ = (.slice Ao10 t256.length co10 : Value).ownBlock) _ _ t256 t259 (fun k_ => some k_ = (.slice Ao11 t260.length co11 : Value).ownBlock) _ _ t260 t263 t264 t265 _ _ y266 t269 t272 t273 t276 t277 t278 _ ?side1 ?side2 ?side3 ?side4 A2.out (by first | with_reducible exact HT | exact ⟨TabOK.below HT.out (bl_)⟩)).mono ?_); (case side1 => exact Kd.R_V (Kd.R_tight rfl (Kd.R_apart' (Kd.R_apart' (HO258.out) (Kd.R_typed HO262.out) (by decide)) (Kd.N_typed HO268.out) (by decide)))); (case side2 => exact Kd.R_V (Kd.R_tight rfl (Kd.R_apart' (Kd.R_apart' (HO262.out) (Kd.R_typed HO258.out) (by decide)) (Kd.N_typed HO268.out) (by decide)))); (case side3 => repeat (first | exact (Kd.N_reads' HO268.out).2.2 | (with_reducible refine Kd.C_alloc ?_ _) | (with_reducible refine Kd.C_drewN ?_ _) | (with_reducible refine Kd.C_drew ?_))); (case side4 => exact (Kd.N_reads' HO268.out).2.1); rintro e w13 ⟨v270, v274, rfl, ho0, ho1, hb⟩; refine ⟨_, rfl, ?_⟩; have n0_ := am_ (Kd.V_below (kv_ HO255.out) hb); have n1_ := am_ (Kd.R_below (kr_ HO258.out) hb); have n2_ := am_ (Kd.R_below (kr_ HO262.out) hb); have n3_ := am_ (Kd.N_below (kn_ HO268.out) hb); have n4_ := am_ (Kd.V_lower (Kd.V_mono (ok' := fun k_ => some k_ ≠ (.slice Ao12 y266.length co12 : Value).ownBlock) ho0 (fun k_ hk_ => Or.elim hk_ (fun hs_ => Or.elim hs_ (fun hs_ => ((Kd.R_apart' (Kd.R_apart' (HO258.out) (Kd.R_typed HO262.out) (by decide)) (Kd.N_typed HO268.out) (by decide)).1 k_ hs_.symm).2) (fun hs_ => ((Kd.R_apart' (Kd.R_apart' (HO262.out) (Kd.R_typed HO258.out) (by decide)) (Kd.N_typed HO268.out) (by decide)).1 k_ hs_.symm).2)) (fun hn_ => (Kd.fresh' (Kd.N_lt (kn_ HO268.out)) k_ hn_)))) (below_size (bl_))); have n5_ := am_ (Kd.V_lower (Kd.V_mono (ok' := fun k_ => some k_ ≠ (.slice Ao12 y266.length co12 : Value).ownBlock) ho1 (fun k_ hk_ => Or.elim hk_ (fun hs_ => Or.elim hs_ (fun hs_ => ((Kd.R_apart' (Kd.R_apart' (HO258.out) (Kd.R_typed HO262.out) (by decide)) (Kd.N_typed HO268.out) (by decide)).1 k_ hs_.symm).2) (fun hs_ => ((Kd.R_apart' (Kd.R_apart' (HO262.out) (Kd.R_typed HO258.out) (by decide)) (Kd.N_typed HO268.out) (by decide)).1 k_ hs_.symm).2)) (fun hn_ => (Kd.fresh' (Kd.N_lt (kn_ HO268.out)) k_ hn_)))) (below_size (bl_))); have n6_ := am_ (below_step (bl_) hb); clear HO255; clear HO258; clear HO262; clear HO268; clear HB; have HO255 := n0_; have HO258 := n1_; have HO262 := n2_; have HO268 := n3_; have HO271 := n4_; have HO275 := n5_; have HB := n6_; clear n0_ n1_ n2_ n3_ n4_ n5_ n6_; (try clear hb); (try clear hb2); (try clear hk); (try clear hi); (try clear ho0); (try clear ho1)) | ((with_reducible refine gate_dst (N := 2) rfl ?_); (try (refine gate_guard (by rfl) ?_; dsimp only)); refine box_event ?hg (N := 2) ?hd (cs := #[.slice none 0 0, .int .i64 0, .slice none 0 0, .int .i64 0, .int .i64 0, .bool false]) (t := 50) ?hr ?_; (case hd => rfl); (case hg => rfl); (case hr => first | (go_simp; done) | (go_simp; rfl)); intro gb279 hg w14 hbox hb; replace HO255 := am_ (Kd.V_below (Kd.V_elderB (kv_ HO255.out) gb279 (Nat.le_of_eq hg.symm)) hb); replace HO258 := am_ (Kd.R_below (kr_ HO258.out) hb); replace HO262 := am_ (Kd.R_below (kr_ HO262.out) hb); replace HO268 := am_ (Kd.N_below (Kd.N_elderB (kn_ HO268.out) gb279 (Nat.le_of_eq hg.symm)) hb); replace HO271 := am_ (Kd.V_below (Kd.V_elderB (kv_ HO271.out) gb279 (Nat.le_of_eq hg.symm)) hb); replace HO275 := am_ (Kd.V_below (Kd.V_elderB (kv_ HO275.out) gb279 (Nat.le_of_eq hg.symm)) hb); have BK279 := am_ (hbox); have GW279 := am_ ((by rw [hg]; exact (below_size (bl_)) : w.heap.size ≤ gb279)); have GE279 := am_ ((by rw [hg]; exact (below_size (bl_)) : w.heap.size ≤ gb279)); replace HB := am_ (below_step (bl_) hb); clear hb hbox hg; obtain ⟨Ao15, co15, eo15⟩ := Kd.V_slice HO271.out; subst eo15; have hcz16_0 : w14.cell? ⟨gb279, 0, none⟩ = some (.slice none 0 0) := (blk_cell BK279.out 0).trans rfl; have hcz16_1 : w14.cell? ⟨gb279, 1, none⟩ = some (.int .i64 0) := (blk_cell BK279.out 1).trans rfl; have hcz16_2 : w14.cell? ⟨gb279, 2, none⟩ = some (.slice none 0 0) := (blk_cell BK279.out 2).trans rfl; have hcz16_3 : w14.cell? ⟨gb279, 3, none⟩ = some (.int .i64 0) := (blk_cell BK279.out 3).trans rfl; have hcz16_4 : w14.cell? ⟨gb279, 4, none⟩ = some (.int .i64 0) := (blk_cell BK279.out 4).trans rfl; have hcz16_5 : w14.cell? ⟨gb279, 5, none⟩ = some (.bool false) := (blk_cell BK279.out 5).trans rfl; have hfz16_0 := blk_frozen BK279.out 0; have hfz16_1 := blk_frozen BK279.out 1; have hfz16_2 := blk_frozen BK279.out 2; have hfz16_3 := blk_frozen BK279.out 3; have hfz16_4 := blk_frozen BK279.out 4; have hfz16_5 := blk_frozen BK279.out 5; obtain ⟨Ao17, co17, eo17⟩ := Kd.V_slice HO275.out; subst eo17))
 (try simp only [Act.put, List.setIfInBounds_toArray, List.set_cons_zero, List.set_cons_succ])
 go_cut [0] (fun v0 wc => ∃ (kq : Nat) (x0_2 : Bool), v0 = .bool x0_2 ∧ Aside0 (trommellaw20_live.j0 kq x0_2 = some r) ∧ Aside0 (kq ≤ k) ∧ Aside0 (Kd.V (Kd.int .u64) 28 wc w.heap.size (fun k_ => k_ ≠ gb279) (.slice Ao15 t269.length co15) t269) ∧ Aside0 (Kd.V k106 106 wc w.heap.size (fun k_ => k_ ≠ gb279) (.slice Ao17 t273.length co17) t273) ∧ Aside0 (wc.heap[gb279]? = some (.cells #[(.slice Ao15 t269.length co15), .int .i64 t272, (.slice Ao17 t273.length co17), .int .i64 t276, .int .i64 t277, .bool t278] 50 (0, 0))) ∧ Aside0 (Below w.heap.size w wc))
 case first =>
  have H := HC3.out
  clear HC3
  replace H := Option.bind_eq_some_iff.mp H
  obtain ⟨t280, A180, H⟩ := H
  replace H : (if t280 = true then ((sift_Passes.f k t269 t272 t273 t276 t277 t278 (([(⟨0, 0, (⟨#[]⟩ : ByteArray)⟩ : S23)] : List (S23)))).bind fun t284 => (if t284 = true then (trommellaw20_live.j0 k false) else ((sift_Count.f t269 t272 t273 t276 t277 t278).bind fun t285 => (trommellaw20_live.j0 k (t285 == 1))))) else (trommellaw20_live.j0 k false)) = some r := H
  have A18 := am_ A180
  clear A180
  by_cases c19 : t280 = true
  ·subst c19
   have H1 : ((sift_Passes.f k t269 t272 t273 t276 t277 t278 (([(⟨0, 0, (⟨#[]⟩ : ByteArray)⟩ : S23)] : List (S23)))).bind fun t284 => (if t284 = true then (trommellaw20_live.j0 k false) else ((sift_Count.f t269 t272 t273 t276 t277 t278).bind fun t285 => (trommellaw20_live.j0 k (t285 == 1))))) = some r := by rw [if_pos rfl] at H; exact H
   clear H
   have H := H1
   clear H1
   obtain ⟨y281, hy281⟩ : ∃ y_ : List (S23), y_ = (([(⟨0, 0, (⟨#[]⟩ : ByteArray)⟩ : S23)] : List (S23))) := ⟨_, rfl⟩
   replace H : ((sift_Passes.f k t269 t272 t273 t276 t277 t278 y281).bind fun t284 => (if t284 = true then (trommellaw20_live.j0 k false) else ((sift_Count.f t269 t272 t273 t276 t277 t278).bind fun t285 => (trommellaw20_live.j0 k (t285 == 1))))) = some r := by first | (rw [hy281]; with_reducible exact H) | (have H2_ := (Option.bind_some _ _).symm.trans H; rw [hy281]; with_reducible exact H2_) | (have H2_ := (Option.bind_some _ _).symm.trans H; with_reducible exact H2_) | with_reducible exact H | (rw [hy281]; exact H) | exact H
   have Ny281 := am_ hy281
   clear hy281
   replace H := Option.bind_eq_some_iff.mp H
   obtain ⟨t284, A200, H⟩ := H
   replace H : (if t284 = true then (trommellaw20_live.j0 k false) else ((sift_Count.f t269 t272 t273 t276 t277 t278).bind fun t285 => (trommellaw20_live.j0 k (t285 == 1)))) = some r := H
   have A20 := am_ A200
   clear A200
   by_cases c21 : t284 = true
   ·subst c21
    have H1 : (trommellaw20_live.j0 k false) = some r := by rw [if_pos rfl] at H; exact H
    clear H
    have H := H1
    clear H1
    have H' := am_ H
    clear H
    have hcz22_0 : w14.cell? ⟨gb279, 0, none⟩ = some (.slice none 0 0) := (blk_cell BK279.out 0).trans rfl
    have hcz22_1 : w14.cell? ⟨gb279, 1, none⟩ = some (.int .i64 0) := (blk_cell BK279.out 1).trans rfl
    have hcz22_2 : w14.cell? ⟨gb279, 2, none⟩ = some (.slice none 0 0) := (blk_cell BK279.out 2).trans rfl
    have hcz22_3 : w14.cell? ⟨gb279, 3, none⟩ = some (.int .i64 0) := (blk_cell BK279.out 3).trans rfl
    have hcz22_4 : w14.cell? ⟨gb279, 4, none⟩ = some (.int .i64 0) := (blk_cell BK279.out 4).trans rfl
    have hcz22_5 : w14.cell? ⟨gb279, 5, none⟩ = some (.bool false) := (blk_cell BK279.out 5).trans rfl
    have hfz22_0 := blk_frozen BK279.out 0
    have hfz22_1 := blk_frozen BK279.out 1
    have hfz22_2 := blk_frozen BK279.out 2
    have hfz22_3 := blk_frozen BK279.out 3
    have hfz22_4 := blk_frozen BK279.out 4
    have hfz22_5 := blk_frozen BK279.out 5
    go_wp2_with (first | ((with_reducible refine gate_callee (f := 28) rfl ?_); refine goesL_ (some 11) rfl rfl Tryd.func28 (by kernel_rfl) rfl #[.agg #[.slice Ao15 t269.length co15, .int .i64 t272, .slice Ao17 t273.length co17, .int .i64 t276, .int .i64 t277, .bool t278], .slice Ao7 y253.length co7] rfl (by (try simp only [List.map_toArray, List.map_cons, List.map_nil]); first | done | rfl | (simp only [List.length_drop, List.length_take]; rfl)) ?_; (with_reducible refine (sift_Passes.calls k _ _ t269 t272 _ _ t273 t276 t277 t278 _ _ y253 true _ ?side1 ?side2 ?side3 ?side4 ?side5 ?side6 A18.out (by first | with_reducible exact HT | exact ⟨TabOK.below HT.out (bl_)⟩)).mono ?_); (case side1 => refine (Kd.V_reads' (e := 28) (base := w.heap.size) (ok := fun k_ => (some k_ ≠ (.slice Ao12 y266.length co12 : Value).ownBlock ∧ k_ ≠ gb279)) (n := t269.length) (c := co15) ?_).2.2; exact (by (with_reducible repeat (first | apply Kd.V_alloc | apply Kd.V_drewN | apply Kd.V_drew)); exact (Kd.V_mono (Kd.V_far (p := ⟨gb279, 5, none⟩) (Kd.V_far (p := ⟨gb279, 4, none⟩) (Kd.V_far (p := ⟨gb279, 3, none⟩) (Kd.V_far (p := ⟨gb279, 2, none⟩) (Kd.V_far (p := ⟨gb279, 1, none⟩) (Kd.V_far (p := ⟨gb279, 0, none⟩) (Kd.V_mono HO271.out (fun k_ hk => (⟨hk, hk.2⟩ : _ ∧ k_ ≠ gb279))) (fun _ hk => hk.2) (.slice Ao15 t269.length co15)) (fun _ hk => hk.2) (.int .i64 t272)) (fun _ hk => hk.2) (.slice Ao17 t273.length co17)) (fun _ hk => hk.2) (.int .i64 t276)) (fun _ hk => hk.2) (.int .i64 t277)) (fun _ hk => hk.2) (.bool t278)) (fun _ h_ => h_.1)))); (case side2 => exact (Kd.V_reads' HO271.out).2.1); (case side3 => refine (Kd.V_reads' (e := 106) (base := w.heap.size) (ok := fun k_ => (some k_ ≠ (.slice Ao12 y266.length co12 : Value).ownBlock ∧ k_ ≠ gb279)) (n := t273.length) (c := co17) ?_).2.2; exact (by (with_reducible repeat (first | apply Kd.V_alloc | apply Kd.V_drewN | apply Kd.V_drew)); exact (Kd.V_mono (Kd.V_far (p := ⟨gb279, 5, none⟩) (Kd.V_far (p := ⟨gb279, 4, none⟩) (Kd.V_far (p := ⟨gb279, 3, none⟩) (Kd.V_far (p := ⟨gb279, 2, none⟩) (Kd.V_far (p := ⟨gb279, 1, none⟩) (Kd.V_far (p := ⟨gb279, 0, none⟩) (Kd.V_mono HO275.out (fun k_ hk => (⟨hk, hk.2⟩ : _ ∧ k_ ≠ gb279))) (fun _ hk => hk.2) (.slice Ao15 t269.length co15)) (fun _ hk => hk.2) (.int .i64 t272)) (fun _ hk => hk.2) (.slice Ao17 t273.length co17)) (fun _ hk => hk.2) (.int .i64 t276)) (fun _ hk => hk.2) (.int .i64 t277)) (fun _ hk => hk.2) (.bool t278)) (fun _ h_ => h_.1)))); (case side4 => exact (Kd.V_reads' HO275.out).2.1); (case side5 => refine (Kd.V_reads' (e := 23) (base := w.heap.size) (ok := fun k_ => ((((True ∧ some k_ ≠ (.slice Ao10 t256.length co10 : Value).ownBlock) ∧ some k_ ≠ (.slice Ao11 t260.length co11 : Value).ownBlock) ∧ some k_ ≠ (.slice Ao12 y266.length co12 : Value).ownBlock) ∧ k_ ≠ gb279)) (n := y253.length) (c := co7) ?_).2.2; exact (by (with_reducible repeat (first | apply Kd.V_alloc | apply Kd.V_drewN | apply Kd.V_drew)); exact (Kd.V_mono (Kd.V_far (p := ⟨gb279, 5, none⟩) (Kd.V_far (p := ⟨gb279, 4, none⟩) (Kd.V_far (p := ⟨gb279, 3, none⟩) (Kd.V_far (p := ⟨gb279, 2, none⟩) (Kd.V_far (p := ⟨gb279, 1, none⟩) (Kd.V_far (p := ⟨gb279, 0, none⟩) (Kd.V_mono HO255.out (fun k_ hk => (⟨hk, hk.2⟩ : _ ∧ k_ ≠ gb279))) (fun _ hk => hk.2) (.slice Ao15 t269.length co15)) (fun _ hk => hk.2) (.int .i64 t272)) (fun _ hk => hk.2) (.slice Ao17 t273.length co17)) (fun _ hk => hk.2) (.int .i64 t276)) (fun _ hk => hk.2) (.int .i64 t277)) (fun _ hk => hk.2) (.bool t278)) (fun _ h_ => h_.1)))); (case side6 => exact (Kd.V_reads' HO255.out).2.1); rintro e w23 ⟨rfl, hb⟩; refine ⟨_, rfl, ?_⟩; replace HO255 := am_ (Kd.V_below (by (with_reducible repeat (first | apply Kd.V_alloc | apply Kd.V_drewN | apply Kd.V_drew)); exact (Kd.V_mono (Kd.V_far (p := ⟨gb279, 5, none⟩) (Kd.V_far (p := ⟨gb279, 4, none⟩) (Kd.V_far (p := ⟨gb279, 3, none⟩) (Kd.V_far (p := ⟨gb279, 2, none⟩) (Kd.V_far (p := ⟨gb279, 1, none⟩) (Kd.V_far (p := ⟨gb279, 0, none⟩) (Kd.V_mono HO255.out (fun k_ hk => (⟨hk, hk.2⟩ : _ ∧ k_ ≠ gb279))) (fun _ hk => hk.2) (.slice Ao15 t269.length co15)) (fun _ hk => hk.2) (.int .i64 t272)) (fun _ hk => hk.2) (.slice Ao17 t273.length co17)) (fun _ hk => hk.2) (.int .i64 t276)) (fun _ hk => hk.2) (.int .i64 t277)) (fun _ hk => hk.2) (.bool t278)) (fun _ h_ => h_.1))) hb); replace HO258 := am_ (Kd.R_below (by (with_reducible repeat (first | apply Kd.R_alloc | apply Kd.R_drewN | apply Kd.R_drew)); exact (Kd.R_mono (Kd.R_far (p := ⟨gb279, 5, none⟩) (Kd.R_far (p := ⟨gb279, 4, none⟩) (Kd.R_far (p := ⟨gb279, 3, none⟩) (Kd.R_far (p := ⟨gb279, 2, none⟩) (Kd.R_far (p := ⟨gb279, 1, none⟩) (Kd.R_far (p := ⟨gb279, 0, none⟩) (Kd.R_types HO258.out BK279.out (by decide)) (fun _ hk => hk.2) (.slice Ao15 t269.length co15)) (fun _ hk => hk.2) (.int .i64 t272)) (fun _ hk => hk.2) (.slice Ao17 t273.length co17)) (fun _ hk => hk.2) (.int .i64 t276)) (fun _ hk => hk.2) (.int .i64 t277)) (fun _ hk => hk.2) (.bool t278)) (fun _ h_ => h_.1))) hb); replace HO262 := am_ (Kd.R_below (by (with_reducible repeat (first | apply Kd.R_alloc | apply Kd.R_drewN | apply Kd.R_drew)); exact (Kd.R_mono (Kd.R_far (p := ⟨gb279, 5, none⟩) (Kd.R_far (p := ⟨gb279, 4, none⟩) (Kd.R_far (p := ⟨gb279, 3, none⟩) (Kd.R_far (p := ⟨gb279, 2, none⟩) (Kd.R_far (p := ⟨gb279, 1, none⟩) (Kd.R_far (p := ⟨gb279, 0, none⟩) (Kd.R_types HO262.out BK279.out (by decide)) (fun _ hk => hk.2) (.slice Ao15 t269.length co15)) (fun _ hk => hk.2) (.int .i64 t272)) (fun _ hk => hk.2) (.slice Ao17 t273.length co17)) (fun _ hk => hk.2) (.int .i64 t276)) (fun _ hk => hk.2) (.int .i64 t277)) (fun _ hk => hk.2) (.bool t278)) (fun _ h_ => h_.1))) hb); replace HO268 := am_ (Kd.N_below (by (with_reducible repeat (first | apply Kd.N_alloc | apply Kd.N_drewN | apply Kd.N_drew)); exact (Kd.N_mono (Kd.N_far (p := ⟨gb279, 5, none⟩) (Kd.N_far (p := ⟨gb279, 4, none⟩) (Kd.N_far (p := ⟨gb279, 3, none⟩) (Kd.N_far (p := ⟨gb279, 2, none⟩) (Kd.N_far (p := ⟨gb279, 1, none⟩) (Kd.N_far (p := ⟨gb279, 0, none⟩) (Kd.N_mono HO268.out (fun k_ hk => (⟨hk, hk.2⟩ : _ ∧ k_ ≠ gb279))) (fun _ hk => hk.2) (.slice Ao15 t269.length co15)) (fun _ hk => hk.2) (.int .i64 t272)) (fun _ hk => hk.2) (.slice Ao17 t273.length co17)) (fun _ hk => hk.2) (.int .i64 t276)) (fun _ hk => hk.2) (.int .i64 t277)) (fun _ hk => hk.2) (.bool t278)) (fun _ h_ => h_.1))) hb); replace HO271 := am_ (Kd.V_below (by (with_reducible repeat (first | apply Kd.V_alloc | apply Kd.V_drewN | apply Kd.V_drew)); exact (Kd.V_mono (Kd.V_far (p := ⟨gb279, 5, none⟩) (Kd.V_far (p := ⟨gb279, 4, none⟩) (Kd.V_far (p := ⟨gb279, 3, none⟩) (Kd.V_far (p := ⟨gb279, 2, none⟩) (Kd.V_far (p := ⟨gb279, 1, none⟩) (Kd.V_far (p := ⟨gb279, 0, none⟩) (Kd.V_mono HO271.out (fun k_ hk => (⟨hk, hk.2⟩ : _ ∧ k_ ≠ gb279))) (fun _ hk => hk.2) (.slice Ao15 t269.length co15)) (fun _ hk => hk.2) (.int .i64 t272)) (fun _ hk => hk.2) (.slice Ao17 t273.length co17)) (fun _ hk => hk.2) (.int .i64 t276)) (fun _ hk => hk.2) (.int .i64 t277)) (fun _ hk => hk.2) (.bool t278)) (fun _ h_ => h_.1))) hb); replace HO275 := am_ (Kd.V_below (by (with_reducible repeat (first | apply Kd.V_alloc | apply Kd.V_drewN | apply Kd.V_drew)); exact (Kd.V_mono (Kd.V_far (p := ⟨gb279, 5, none⟩) (Kd.V_far (p := ⟨gb279, 4, none⟩) (Kd.V_far (p := ⟨gb279, 3, none⟩) (Kd.V_far (p := ⟨gb279, 2, none⟩) (Kd.V_far (p := ⟨gb279, 1, none⟩) (Kd.V_far (p := ⟨gb279, 0, none⟩) (Kd.V_mono HO275.out (fun k_ hk => (⟨hk, hk.2⟩ : _ ∧ k_ ≠ gb279))) (fun _ hk => hk.2) (.slice Ao15 t269.length co15)) (fun _ hk => hk.2) (.int .i64 t272)) (fun _ hk => hk.2) (.slice Ao17 t273.length co17)) (fun _ hk => hk.2) (.int .i64 t276)) (fun _ hk => hk.2) (.int .i64 t277)) (fun _ hk => hk.2) (.bool t278)) (fun _ h_ => h_.1))) hb); replace BK279 := am_ (blk_below (g := gb279) (o := .cells #[.slice Ao15 t269.length co15, .int .i64 t272, .slice Ao17 t273.length co17, .int .i64 t276, .int .i64 t277, .bool t278] 50 (0, 0)) (by refine bp_ ?_; refine blk_put (cs := #[.slice Ao15 t269.length co15, .int .i64 t272, .slice Ao17 t273.length co17, .int .i64 t276, .int .i64 t277, .bool false]) ?_ 5 _ rfl; refine bp_ ?_; refine blk_put (cs := #[.slice Ao15 t269.length co15, .int .i64 t272, .slice Ao17 t273.length co17, .int .i64 t276, .int .i64 0, .bool false]) ?_ 4 _ rfl; refine bp_ ?_; refine blk_put (cs := #[.slice Ao15 t269.length co15, .int .i64 t272, .slice Ao17 t273.length co17, .int .i64 0, .int .i64 0, .bool false]) ?_ 3 _ rfl; refine bp_ ?_; refine blk_put (cs := #[.slice Ao15 t269.length co15, .int .i64 t272, .slice none 0 0, .int .i64 0, .int .i64 0, .bool false]) ?_ 2 _ rfl; refine bp_ ?_; refine blk_put (cs := #[.slice Ao15 t269.length co15, .int .i64 0, .slice none 0 0, .int .i64 0, .int .i64 0, .bool false]) ?_ 1 _ rfl; refine bp_ ?_; refine blk_put (cs := #[.slice none 0 0, .int .i64 0, .slice none 0 0, .int .i64 0, .int .i64 0, .bool false]) ?_ 0 _ rfl; refine bp_ ?_; exact BK279.out) hb); replace HB := am_ (below_step (bl_) hb); (try clear hb); (try clear hb2); (try clear hk); (try clear hi); have hcz24_0 : w23.cell? ⟨gb279, 0, none⟩ = some (.slice Ao15 t269.length co15) := (blk_cell BK279.out 0).trans rfl; have hcz24_1 : w23.cell? ⟨gb279, 1, none⟩ = some (.int .i64 t272) := (blk_cell BK279.out 1).trans rfl; have hcz24_2 : w23.cell? ⟨gb279, 2, none⟩ = some (.slice Ao17 t273.length co17) := (blk_cell BK279.out 2).trans rfl; have hcz24_3 : w23.cell? ⟨gb279, 3, none⟩ = some (.int .i64 t276) := (blk_cell BK279.out 3).trans rfl; have hcz24_4 : w23.cell? ⟨gb279, 4, none⟩ = some (.int .i64 t277) := (blk_cell BK279.out 4).trans rfl; have hcz24_5 : w23.cell? ⟨gb279, 5, none⟩ = some (.bool t278) := (blk_cell BK279.out 5).trans rfl; have hfz24_0 := blk_frozen BK279.out 0; have hfz24_1 := blk_frozen BK279.out 1; have hfz24_2 := blk_frozen BK279.out 2; have hfz24_3 := blk_frozen BK279.out 3; have hfz24_4 := blk_frozen BK279.out 4; have hfz24_5 := blk_frozen BK279.out 5) | ((with_reducible refine gate_dst (N := 15) rfl ?_); (try (refine gate_guard (by rfl) ?_; dsimp only)); refine Kd.R_lit k23 _ 23 ?hg (N := 15) ?hd (xs := ([(⟨0, 0, (⟨#[]⟩ : ByteArray)⟩ : S23)] : List (S23))) (inner := [.int .i64 0, .int .i64 0, .string (⟨#[]⟩ : ByteArray)]) (ok := fun _ => True) (okp := fun _ => True) ?hr ?hp (fun _ hk => hk) trivial (Below.refl _ _) (Nat.le_refl _) (by simp) ?_; (case hd => rfl); (case hg => rfl); (case hr => first | (go_simp; done) | (go_simp; rfl)); (case hp => exact (Reps.c3 (show Kd.M k23 _ _ _ (⟨0, 0, (⟨#[]⟩ : ByteArray)⟩ : S23) [.int .i64 0, .int .i64 0, .string (⟨#[]⟩ : ByteArray)] from (k23_mkM _ _ _ (⟨0, 0, (⟨#[]⟩ : ByteArray)⟩ : S23) )) (Reps.none _ _))); intro v282 w25 ho26 hb hg_ hnew_; clear hg_ hnew_; (first | rw [← Ny281.out] at ho26 | (simp only [Int.reduceToNat] at ho26; rw [← Ny281.out] at ho26)); replace HO255 := am_ (Kd.V_elder' (kv_ HO255.out) (Kd.R_base ho26) hb); replace HO258 := am_ (Kd.R_below (kr_ HO258.out) hb); replace HO262 := am_ (Kd.R_below (kr_ HO262.out) hb); replace HO268 := am_ (Kd.N_elder' (kn_ HO268.out) (Kd.R_base ho26) hb); replace HO271 := am_ (Kd.V_elder' (kv_ HO271.out) (Kd.R_base ho26) hb); replace HO275 := am_ (Kd.V_elder' (kv_ HO275.out) (Kd.R_base ho26) hb); have HO283 := am_ (Kd.R_lower ho26 (below_size (bl_))); replace BK279 := am_ (blk_below (g := gb279) (o := .cells #[.slice Ao15 t269.length co15, .int .i64 t272, .slice Ao17 t273.length co17, .int .i64 t276, .int .i64 t277, .bool t278] 50 (0, 0)) (bk_ BK279.out) hb); replace HB := am_ (below_step (bl_) hb); clear hb ho26; obtain ⟨Ao27, co27, eo27⟩ := Kd.R_slice HO283.out; subst eo27) | (go_at_call 28; (with_reducible refine (sift_Passes.calls k _ _ t269 t272 _ _ t273 t276 t277 t278 _ _ y281 true _ ?side1 ?side2 ?side3 ?side4 ?side5 ?side6 A20.out (by first | with_reducible exact HT | exact ⟨TabOK.below HT.out (bl_)⟩)).mono ?_); (case side1 => repeat (first | exact (Kd.V_reads' HO271.out).2.2 | (with_reducible refine Kd.C_alloc ?_ _) | (with_reducible refine Kd.C_drewN ?_ _) | (with_reducible refine Kd.C_drew ?_))); (case side2 => exact (Kd.V_reads' HO271.out).2.1); (case side3 => repeat (first | exact (Kd.V_reads' HO275.out).2.2 | (with_reducible refine Kd.C_alloc ?_ _) | (with_reducible refine Kd.C_drewN ?_ _) | (with_reducible refine Kd.C_drew ?_))); (case side4 => exact (Kd.V_reads' HO275.out).2.1); (case side5 => repeat (first | exact (Kd.R_reads' HO283.out).2.2 | (with_reducible refine Kd.C_alloc ?_ _) | (with_reducible refine Kd.C_drewN ?_ _) | (with_reducible refine Kd.C_drew ?_))); (case side6 => exact (Kd.R_reads' HO283.out).2.1); rintro e w28 ⟨rfl, hb⟩; replace HO255 := am_ (Kd.V_below (kv_ HO255.out) hb); replace HO258 := am_ (Kd.R_below (kr_ HO258.out) hb); replace HO262 := am_ (Kd.R_below (kr_ HO262.out) hb); replace HO268 := am_ (Kd.N_below (kn_ HO268.out) hb); replace HO271 := am_ (Kd.V_below (kv_ HO271.out) hb); replace HO275 := am_ (Kd.V_below (kv_ HO275.out) hb); replace HO283 := am_ (Kd.R_below (kr_ HO283.out) hb); replace BK279 := am_ (blk_below (g := gb279) (o := .cells #[.slice Ao15 t269.length co15, .int .i64 t272, .slice Ao17 t273.length co17, .int .i64 t276, .int .i64 t277, .bool t278] 50 (0, 0)) (bk_ BK279.out) hb); replace HB := am_ (below_step (bl_) hb); (try clear hb); (try clear hb2); (try clear hk); (try clear hi)))
    go_meet
    case rel => exact ⟨_, (false), (rs_), H', ⟨by first | omega | exact Nat.le_refl _⟩, ⟨by (with_reducible repeat (first | apply Kd.V_alloc | apply Kd.V_drewN | apply Kd.V_drew)); exact Kd.V_mono HO271.out (fun _ hk => hk.1.2)⟩, ⟨by (with_reducible repeat (first | apply Kd.V_alloc | apply Kd.V_drewN | apply Kd.V_drew)); exact Kd.V_mono HO275.out (fun _ hk => hk.1.2)⟩, ⟨bk_ BK279.out⟩, ⟨bl_⟩⟩
   ·replace c21 := Bool.eq_false_iff.mpr c21
    subst c21
    have H1 : ((sift_Count.f t269 t272 t273 t276 t277 t278).bind fun t285 => (trommellaw20_live.j0 k (t285 == 1))) = some r := by rw [if_neg (show ¬ (false = true) by decide)] at H; exact H
    clear H
    have H := H1
    clear H1
    replace H := Option.bind_eq_some_iff.mp H
    obtain ⟨t285, A290, H⟩ := H
    replace H : (trommellaw20_live.j0 k (t285 == 1)) = some r := H
    have A29 := am_ A290
    clear A290
    have H' := am_ H
    clear H
    have hcz30_0 : w14.cell? ⟨gb279, 0, none⟩ = some (.slice none 0 0) := (blk_cell BK279.out 0).trans rfl
    have hcz30_1 : w14.cell? ⟨gb279, 1, none⟩ = some (.int .i64 0) := (blk_cell BK279.out 1).trans rfl
    have hcz30_2 : w14.cell? ⟨gb279, 2, none⟩ = some (.slice none 0 0) := (blk_cell BK279.out 2).trans rfl
    have hcz30_3 : w14.cell? ⟨gb279, 3, none⟩ = some (.int .i64 0) := (blk_cell BK279.out 3).trans rfl
    have hcz30_4 : w14.cell? ⟨gb279, 4, none⟩ = some (.int .i64 0) := (blk_cell BK279.out 4).trans rfl
    have hcz30_5 : w14.cell? ⟨gb279, 5, none⟩ = some (.bool false) := (blk_cell BK279.out 5).trans rfl
    have hfz30_0 := blk_frozen BK279.out 0
    have hfz30_1 := blk_frozen BK279.out 1
    have hfz30_2 := blk_frozen BK279.out 2
    have hfz30_3 := blk_frozen BK279.out 3
    have hfz30_4 := blk_frozen BK279.out 4
    have hfz30_5 := blk_frozen BK279.out 5
    go_wp2_with (first | ((with_reducible refine gate_callee (f := 28) rfl ?_); refine goesL_ (some 11) rfl rfl Tryd.func28 (by kernel_rfl) rfl #[.agg #[.slice Ao15 t269.length co15, .int .i64 t272, .slice Ao17 t273.length co17, .int .i64 t276, .int .i64 t277, .bool t278], .slice Ao7 y253.length co7] rfl (by (try simp only [List.map_toArray, List.map_cons, List.map_nil]); first | done | rfl | (simp only [List.length_drop, List.length_take]; rfl)) ?_; (with_reducible refine (sift_Passes.calls k _ _ t269 t272 _ _ t273 t276 t277 t278 _ _ y253 true _ ?side1 ?side2 ?side3 ?side4 ?side5 ?side6 A18.out (by first | with_reducible exact HT | exact ⟨TabOK.below HT.out (bl_)⟩)).mono ?_); (case side1 => refine (Kd.V_reads' (e := 28) (base := w.heap.size) (ok := fun k_ => (some k_ ≠ (.slice Ao12 y266.length co12 : Value).ownBlock ∧ k_ ≠ gb279)) (n := t269.length) (c := co15) ?_).2.2; exact (by (with_reducible repeat (first | apply Kd.V_alloc | apply Kd.V_drewN | apply Kd.V_drew)); exact (Kd.V_mono (Kd.V_far (p := ⟨gb279, 5, none⟩) (Kd.V_far (p := ⟨gb279, 4, none⟩) (Kd.V_far (p := ⟨gb279, 3, none⟩) (Kd.V_far (p := ⟨gb279, 2, none⟩) (Kd.V_far (p := ⟨gb279, 1, none⟩) (Kd.V_far (p := ⟨gb279, 0, none⟩) (Kd.V_mono HO271.out (fun k_ hk => (⟨hk, hk.2⟩ : _ ∧ k_ ≠ gb279))) (fun _ hk => hk.2) (.slice Ao15 t269.length co15)) (fun _ hk => hk.2) (.int .i64 t272)) (fun _ hk => hk.2) (.slice Ao17 t273.length co17)) (fun _ hk => hk.2) (.int .i64 t276)) (fun _ hk => hk.2) (.int .i64 t277)) (fun _ hk => hk.2) (.bool t278)) (fun _ h_ => h_.1)))); (case side2 => exact (Kd.V_reads' HO271.out).2.1); (case side3 => refine (Kd.V_reads' (e := 106) (base := w.heap.size) (ok := fun k_ => (some k_ ≠ (.slice Ao12 y266.length co12 : Value).ownBlock ∧ k_ ≠ gb279)) (n := t273.length) (c := co17) ?_).2.2; exact (by (with_reducible repeat (first | apply Kd.V_alloc | apply Kd.V_drewN | apply Kd.V_drew)); exact (Kd.V_mono (Kd.V_far (p := ⟨gb279, 5, none⟩) (Kd.V_far (p := ⟨gb279, 4, none⟩) (Kd.V_far (p := ⟨gb279, 3, none⟩) (Kd.V_far (p := ⟨gb279, 2, none⟩) (Kd.V_far (p := ⟨gb279, 1, none⟩) (Kd.V_far (p := ⟨gb279, 0, none⟩) (Kd.V_mono HO275.out (fun k_ hk => (⟨hk, hk.2⟩ : _ ∧ k_ ≠ gb279))) (fun _ hk => hk.2) (.slice Ao15 t269.length co15)) (fun _ hk => hk.2) (.int .i64 t272)) (fun _ hk => hk.2) (.slice Ao17 t273.length co17)) (fun _ hk => hk.2) (.int .i64 t276)) (fun _ hk => hk.2) (.int .i64 t277)) (fun _ hk => hk.2) (.bool t278)) (fun _ h_ => h_.1)))); (case side4 => exact (Kd.V_reads' HO275.out).2.1); (case side5 => refine (Kd.V_reads' (e := 23) (base := w.heap.size) (ok := fun k_ => ((((True ∧ some k_ ≠ (.slice Ao10 t256.length co10 : Value).ownBlock) ∧ some k_ ≠ (.slice Ao11 t260.length co11 : Value).ownBlock) ∧ some k_ ≠ (.slice Ao12 y266.length co12 : Value).ownBlock) ∧ k_ ≠ gb279)) (n := y253.length) (c := co7) ?_).2.2; exact (by (with_reducible repeat (first | apply Kd.V_alloc | apply Kd.V_drewN | apply Kd.V_drew)); exact (Kd.V_mono (Kd.V_far (p := ⟨gb279, 5, none⟩) (Kd.V_far (p := ⟨gb279, 4, none⟩) (Kd.V_far (p := ⟨gb279, 3, none⟩) (Kd.V_far (p := ⟨gb279, 2, none⟩) (Kd.V_far (p := ⟨gb279, 1, none⟩) (Kd.V_far (p := ⟨gb279, 0, none⟩) (Kd.V_mono HO255.out (fun k_ hk => (⟨hk, hk.2⟩ : _ ∧ k_ ≠ gb279))) (fun _ hk => hk.2) (.slice Ao15 t269.length co15)) (fun _ hk => hk.2) (.int .i64 t272)) (fun _ hk => hk.2) (.slice Ao17 t273.length co17)) (fun _ hk => hk.2) (.int .i64 t276)) (fun _ hk => hk.2) (.int .i64 t277)) (fun _ hk => hk.2) (.bool t278)) (fun _ h_ => h_.1)))); (case side6 => exact (Kd.V_reads' HO255.out).2.1); rintro e w31 ⟨rfl, hb⟩; refine ⟨_, rfl, ?_⟩; replace HO255 := am_ (Kd.V_below (by (with_reducible repeat (first | apply Kd.V_alloc | apply Kd.V_drewN | apply Kd.V_drew)); exact (Kd.V_mono (Kd.V_far (p := ⟨gb279, 5, none⟩) (Kd.V_far (p := ⟨gb279, 4, none⟩) (Kd.V_far (p := ⟨gb279, 3, none⟩) (Kd.V_far (p := ⟨gb279, 2, none⟩) (Kd.V_far (p := ⟨gb279, 1, none⟩) (Kd.V_far (p := ⟨gb279, 0, none⟩) (Kd.V_mono HO255.out (fun k_ hk => (⟨hk, hk.2⟩ : _ ∧ k_ ≠ gb279))) (fun _ hk => hk.2) (.slice Ao15 t269.length co15)) (fun _ hk => hk.2) (.int .i64 t272)) (fun _ hk => hk.2) (.slice Ao17 t273.length co17)) (fun _ hk => hk.2) (.int .i64 t276)) (fun _ hk => hk.2) (.int .i64 t277)) (fun _ hk => hk.2) (.bool t278)) (fun _ h_ => h_.1))) hb); replace HO258 := am_ (Kd.R_below (by (with_reducible repeat (first | apply Kd.R_alloc | apply Kd.R_drewN | apply Kd.R_drew)); exact (Kd.R_mono (Kd.R_far (p := ⟨gb279, 5, none⟩) (Kd.R_far (p := ⟨gb279, 4, none⟩) (Kd.R_far (p := ⟨gb279, 3, none⟩) (Kd.R_far (p := ⟨gb279, 2, none⟩) (Kd.R_far (p := ⟨gb279, 1, none⟩) (Kd.R_far (p := ⟨gb279, 0, none⟩) (Kd.R_types HO258.out BK279.out (by decide)) (fun _ hk => hk.2) (.slice Ao15 t269.length co15)) (fun _ hk => hk.2) (.int .i64 t272)) (fun _ hk => hk.2) (.slice Ao17 t273.length co17)) (fun _ hk => hk.2) (.int .i64 t276)) (fun _ hk => hk.2) (.int .i64 t277)) (fun _ hk => hk.2) (.bool t278)) (fun _ h_ => h_.1))) hb); replace HO262 := am_ (Kd.R_below (by (with_reducible repeat (first | apply Kd.R_alloc | apply Kd.R_drewN | apply Kd.R_drew)); exact (Kd.R_mono (Kd.R_far (p := ⟨gb279, 5, none⟩) (Kd.R_far (p := ⟨gb279, 4, none⟩) (Kd.R_far (p := ⟨gb279, 3, none⟩) (Kd.R_far (p := ⟨gb279, 2, none⟩) (Kd.R_far (p := ⟨gb279, 1, none⟩) (Kd.R_far (p := ⟨gb279, 0, none⟩) (Kd.R_types HO262.out BK279.out (by decide)) (fun _ hk => hk.2) (.slice Ao15 t269.length co15)) (fun _ hk => hk.2) (.int .i64 t272)) (fun _ hk => hk.2) (.slice Ao17 t273.length co17)) (fun _ hk => hk.2) (.int .i64 t276)) (fun _ hk => hk.2) (.int .i64 t277)) (fun _ hk => hk.2) (.bool t278)) (fun _ h_ => h_.1))) hb); replace HO268 := am_ (Kd.N_below (by (with_reducible repeat (first | apply Kd.N_alloc | apply Kd.N_drewN | apply Kd.N_drew)); exact (Kd.N_mono (Kd.N_far (p := ⟨gb279, 5, none⟩) (Kd.N_far (p := ⟨gb279, 4, none⟩) (Kd.N_far (p := ⟨gb279, 3, none⟩) (Kd.N_far (p := ⟨gb279, 2, none⟩) (Kd.N_far (p := ⟨gb279, 1, none⟩) (Kd.N_far (p := ⟨gb279, 0, none⟩) (Kd.N_mono HO268.out (fun k_ hk => (⟨hk, hk.2⟩ : _ ∧ k_ ≠ gb279))) (fun _ hk => hk.2) (.slice Ao15 t269.length co15)) (fun _ hk => hk.2) (.int .i64 t272)) (fun _ hk => hk.2) (.slice Ao17 t273.length co17)) (fun _ hk => hk.2) (.int .i64 t276)) (fun _ hk => hk.2) (.int .i64 t277)) (fun _ hk => hk.2) (.bool t278)) (fun _ h_ => h_.1))) hb); replace HO271 := am_ (Kd.V_below (by (with_reducible repeat (first | apply Kd.V_alloc | apply Kd.V_drewN | apply Kd.V_drew)); exact (Kd.V_mono (Kd.V_far (p := ⟨gb279, 5, none⟩) (Kd.V_far (p := ⟨gb279, 4, none⟩) (Kd.V_far (p := ⟨gb279, 3, none⟩) (Kd.V_far (p := ⟨gb279, 2, none⟩) (Kd.V_far (p := ⟨gb279, 1, none⟩) (Kd.V_far (p := ⟨gb279, 0, none⟩) (Kd.V_mono HO271.out (fun k_ hk => (⟨hk, hk.2⟩ : _ ∧ k_ ≠ gb279))) (fun _ hk => hk.2) (.slice Ao15 t269.length co15)) (fun _ hk => hk.2) (.int .i64 t272)) (fun _ hk => hk.2) (.slice Ao17 t273.length co17)) (fun _ hk => hk.2) (.int .i64 t276)) (fun _ hk => hk.2) (.int .i64 t277)) (fun _ hk => hk.2) (.bool t278)) (fun _ h_ => h_.1))) hb); replace HO275 := am_ (Kd.V_below (by (with_reducible repeat (first | apply Kd.V_alloc | apply Kd.V_drewN | apply Kd.V_drew)); exact (Kd.V_mono (Kd.V_far (p := ⟨gb279, 5, none⟩) (Kd.V_far (p := ⟨gb279, 4, none⟩) (Kd.V_far (p := ⟨gb279, 3, none⟩) (Kd.V_far (p := ⟨gb279, 2, none⟩) (Kd.V_far (p := ⟨gb279, 1, none⟩) (Kd.V_far (p := ⟨gb279, 0, none⟩) (Kd.V_mono HO275.out (fun k_ hk => (⟨hk, hk.2⟩ : _ ∧ k_ ≠ gb279))) (fun _ hk => hk.2) (.slice Ao15 t269.length co15)) (fun _ hk => hk.2) (.int .i64 t272)) (fun _ hk => hk.2) (.slice Ao17 t273.length co17)) (fun _ hk => hk.2) (.int .i64 t276)) (fun _ hk => hk.2) (.int .i64 t277)) (fun _ hk => hk.2) (.bool t278)) (fun _ h_ => h_.1))) hb); replace BK279 := am_ (blk_below (g := gb279) (o := .cells #[.slice Ao15 t269.length co15, .int .i64 t272, .slice Ao17 t273.length co17, .int .i64 t276, .int .i64 t277, .bool t278] 50 (0, 0)) (by refine bp_ ?_; refine blk_put (cs := #[.slice Ao15 t269.length co15, .int .i64 t272, .slice Ao17 t273.length co17, .int .i64 t276, .int .i64 t277, .bool false]) ?_ 5 _ rfl; refine bp_ ?_; refine blk_put (cs := #[.slice Ao15 t269.length co15, .int .i64 t272, .slice Ao17 t273.length co17, .int .i64 t276, .int .i64 0, .bool false]) ?_ 4 _ rfl; refine bp_ ?_; refine blk_put (cs := #[.slice Ao15 t269.length co15, .int .i64 t272, .slice Ao17 t273.length co17, .int .i64 0, .int .i64 0, .bool false]) ?_ 3 _ rfl; refine bp_ ?_; refine blk_put (cs := #[.slice Ao15 t269.length co15, .int .i64 t272, .slice none 0 0, .int .i64 0, .int .i64 0, .bool false]) ?_ 2 _ rfl; refine bp_ ?_; refine blk_put (cs := #[.slice Ao15 t269.length co15, .int .i64 0, .slice none 0 0, .int .i64 0, .int .i64 0, .bool false]) ?_ 1 _ rfl; refine bp_ ?_; refine blk_put (cs := #[.slice none 0 0, .int .i64 0, .slice none 0 0, .int .i64 0, .int .i64 0, .bool false]) ?_ 0 _ rfl; refine bp_ ?_; exact BK279.out) hb); replace HB := am_ (below_step (bl_) hb); (try clear hb); (try clear hb2); (try clear hk); (try clear hi); have hcz32_0 : w31.cell? ⟨gb279, 0, none⟩ = some (.slice Ao15 t269.length co15) := (blk_cell BK279.out 0).trans rfl; have hcz32_1 : w31.cell? ⟨gb279, 1, none⟩ = some (.int .i64 t272) := (blk_cell BK279.out 1).trans rfl; have hcz32_2 : w31.cell? ⟨gb279, 2, none⟩ = some (.slice Ao17 t273.length co17) := (blk_cell BK279.out 2).trans rfl; have hcz32_3 : w31.cell? ⟨gb279, 3, none⟩ = some (.int .i64 t276) := (blk_cell BK279.out 3).trans rfl; have hcz32_4 : w31.cell? ⟨gb279, 4, none⟩ = some (.int .i64 t277) := (blk_cell BK279.out 4).trans rfl; have hcz32_5 : w31.cell? ⟨gb279, 5, none⟩ = some (.bool t278) := (blk_cell BK279.out 5).trans rfl; have hfz32_0 := blk_frozen BK279.out 0; have hfz32_1 := blk_frozen BK279.out 1; have hfz32_2 := blk_frozen BK279.out 2; have hfz32_3 := blk_frozen BK279.out 3; have hfz32_4 := blk_frozen BK279.out 4; have hfz32_5 := blk_frozen BK279.out 5) | ((with_reducible refine gate_dst (N := 15) rfl ?_); (try (refine gate_guard (by rfl) ?_; dsimp only)); refine Kd.R_lit k23 _ 23 ?hg (N := 15) ?hd (xs := ([(⟨0, 0, (⟨#[]⟩ : ByteArray)⟩ : S23)] : List (S23))) (inner := [.int .i64 0, .int .i64 0, .string (⟨#[]⟩ : ByteArray)]) (ok := fun _ => True) (okp := fun _ => True) ?hr ?hp (fun _ hk => hk) trivial (Below.refl _ _) (Nat.le_refl _) (by simp) ?_; (case hd => rfl); (case hg => rfl); (case hr => first | (go_simp; done) | (go_simp; rfl)); (case hp => exact (Reps.c3 (show Kd.M k23 _ _ _ (⟨0, 0, (⟨#[]⟩ : ByteArray)⟩ : S23) [.int .i64 0, .int .i64 0, .string (⟨#[]⟩ : ByteArray)] from (k23_mkM _ _ _ (⟨0, 0, (⟨#[]⟩ : ByteArray)⟩ : S23) )) (Reps.none _ _))); intro v282 w33 ho34 hb hg_ hnew_; clear hg_ hnew_; (first | rw [← Ny281.out] at ho34 | (simp only [Int.reduceToNat] at ho34; rw [← Ny281.out] at ho34)); replace HO255 := am_ (Kd.V_elder' (kv_ HO255.out) (Kd.R_base ho34) hb); replace HO258 := am_ (Kd.R_below (kr_ HO258.out) hb); replace HO262 := am_ (Kd.R_below (kr_ HO262.out) hb); replace HO268 := am_ (Kd.N_elder' (kn_ HO268.out) (Kd.R_base ho34) hb); replace HO271 := am_ (Kd.V_elder' (kv_ HO271.out) (Kd.R_base ho34) hb); replace HO275 := am_ (Kd.V_elder' (kv_ HO275.out) (Kd.R_base ho34) hb); have HO283 := am_ (Kd.R_lower ho34 (below_size (bl_))); replace BK279 := am_ (blk_below (g := gb279) (o := .cells #[.slice Ao15 t269.length co15, .int .i64 t272, .slice Ao17 t273.length co17, .int .i64 t276, .int .i64 t277, .bool t278] 50 (0, 0)) (bk_ BK279.out) hb); replace HB := am_ (below_step (bl_) hb); clear hb ho34; obtain ⟨Ao35, co35, eo35⟩ := Kd.R_slice HO283.out; subst eo35) | (go_at_call 28; (with_reducible refine (sift_Passes.calls k _ _ t269 t272 _ _ t273 t276 t277 t278 _ _ y281 false _ ?side1 ?side2 ?side3 ?side4 ?side5 ?side6 A20.out (by first | with_reducible exact HT | exact ⟨TabOK.below HT.out (bl_)⟩)).mono ?_); (case side1 => repeat (first | exact (Kd.V_reads' HO271.out).2.2 | (with_reducible refine Kd.C_alloc ?_ _) | (with_reducible refine Kd.C_drewN ?_ _) | (with_reducible refine Kd.C_drew ?_))); (case side2 => exact (Kd.V_reads' HO271.out).2.1); (case side3 => repeat (first | exact (Kd.V_reads' HO275.out).2.2 | (with_reducible refine Kd.C_alloc ?_ _) | (with_reducible refine Kd.C_drewN ?_ _) | (with_reducible refine Kd.C_drew ?_))); (case side4 => exact (Kd.V_reads' HO275.out).2.1); (case side5 => repeat (first | exact (Kd.R_reads' HO283.out).2.2 | (with_reducible refine Kd.C_alloc ?_ _) | (with_reducible refine Kd.C_drewN ?_ _) | (with_reducible refine Kd.C_drew ?_))); (case side6 => exact (Kd.R_reads' HO283.out).2.1); rintro e w36 ⟨rfl, hb⟩; replace HO255 := am_ (Kd.V_below (kv_ HO255.out) hb); replace HO258 := am_ (Kd.R_below (kr_ HO258.out) hb); replace HO262 := am_ (Kd.R_below (kr_ HO262.out) hb); replace HO268 := am_ (Kd.N_below (kn_ HO268.out) hb); replace HO271 := am_ (Kd.V_below (kv_ HO271.out) hb); replace HO275 := am_ (Kd.V_below (kv_ HO275.out) hb); replace HO283 := am_ (Kd.R_below (kr_ HO283.out) hb); replace BK279 := am_ (blk_below (g := gb279) (o := .cells #[.slice Ao15 t269.length co15, .int .i64 t272, .slice Ao17 t273.length co17, .int .i64 t276, .int .i64 t277, .bool t278] 50 (0, 0)) (bk_ BK279.out) hb); replace HB := am_ (below_step (bl_) hb); (try clear hb); (try clear hb2); (try clear hk); (try clear hi); have hcz37_0 : w36.cell? ⟨gb279, 0, none⟩ = some (.slice Ao15 t269.length co15) := (blk_cell BK279.out 0).trans rfl; have hcz37_1 : w36.cell? ⟨gb279, 1, none⟩ = some (.int .i64 t272) := (blk_cell BK279.out 1).trans rfl; have hcz37_2 : w36.cell? ⟨gb279, 2, none⟩ = some (.slice Ao17 t273.length co17) := (blk_cell BK279.out 2).trans rfl; have hcz37_3 : w36.cell? ⟨gb279, 3, none⟩ = some (.int .i64 t276) := (blk_cell BK279.out 3).trans rfl; have hcz37_4 : w36.cell? ⟨gb279, 4, none⟩ = some (.int .i64 t277) := (blk_cell BK279.out 4).trans rfl; have hcz37_5 : w36.cell? ⟨gb279, 5, none⟩ = some (.bool t278) := (blk_cell BK279.out 5).trans rfl; have hfz37_0 := blk_frozen BK279.out 0; have hfz37_1 := blk_frozen BK279.out 1; have hfz37_2 := blk_frozen BK279.out 2; have hfz37_3 := blk_frozen BK279.out 3; have hfz37_4 := blk_frozen BK279.out 4; have hfz37_5 := blk_frozen BK279.out 5) | (go_at_call 30; (with_reducible refine (sift_Count.calls _ _ t269 t272 _ _ t273 t276 t277 t278 t285 _ ?side1 ?side2 ?side3 ?side4 A29.out).mono ?_); (case side1 => repeat (first | exact (Kd.V_reads' HO271.out).2.2 | (with_reducible refine Kd.C_alloc ?_ _) | (with_reducible refine Kd.C_drewN ?_ _) | (with_reducible refine Kd.C_drew ?_))); (case side2 => exact (Kd.V_reads' HO271.out).2.1); (case side3 => repeat (first | exact (Kd.V_reads' HO275.out).2.2 | (with_reducible refine Kd.C_alloc ?_ _) | (with_reducible refine Kd.C_drewN ?_ _) | (with_reducible refine Kd.C_drew ?_))); (case side4 => exact (Kd.V_reads' HO275.out).2.1); rintro e w38 ⟨rfl, hb⟩; replace HO255 := am_ (Kd.V_below (kv_ HO255.out) hb); replace HO258 := am_ (Kd.R_below (kr_ HO258.out) hb); replace HO262 := am_ (Kd.R_below (kr_ HO262.out) hb); replace HO268 := am_ (Kd.N_below (kn_ HO268.out) hb); replace HO271 := am_ (Kd.V_below (kv_ HO271.out) hb); replace HO275 := am_ (Kd.V_below (kv_ HO275.out) hb); replace HO283 := am_ (Kd.R_below (kr_ HO283.out) hb); replace BK279 := am_ (blk_below (g := gb279) (o := .cells #[.slice Ao15 t269.length co15, .int .i64 t272, .slice Ao17 t273.length co17, .int .i64 t276, .int .i64 t277, .bool t278] 50 (0, 0)) (bk_ BK279.out) hb); replace HB := am_ (below_step (bl_) hb); (try clear hb); (try clear hb2); (try clear hk); (try clear hi)))
    go_meet
    case rel => exact ⟨_, ((t285 == 1)), (rs_), H', ⟨by first | omega | exact Nat.le_refl _⟩, ⟨by (with_reducible repeat (first | apply Kd.V_alloc | apply Kd.V_drewN | apply Kd.V_drew)); exact Kd.V_mono HO271.out (fun _ hk => hk.1.2)⟩, ⟨by (with_reducible repeat (first | apply Kd.V_alloc | apply Kd.V_drewN | apply Kd.V_drew)); exact Kd.V_mono HO275.out (fun _ hk => hk.1.2)⟩, ⟨bk_ BK279.out⟩, ⟨bl_⟩⟩
  ·replace c19 := Bool.eq_false_iff.mpr c19
   subst c19
   have H1 : (trommellaw20_live.j0 k false) = some r := by rw [if_neg (show ¬ (false = true) by decide)] at H; exact H
   clear H
   have H := H1
   clear H1
   have H' := am_ H
   clear H
   have hcz39_0 : w14.cell? ⟨gb279, 0, none⟩ = some (.slice none 0 0) := (blk_cell BK279.out 0).trans rfl
   have hcz39_1 : w14.cell? ⟨gb279, 1, none⟩ = some (.int .i64 0) := (blk_cell BK279.out 1).trans rfl
   have hcz39_2 : w14.cell? ⟨gb279, 2, none⟩ = some (.slice none 0 0) := (blk_cell BK279.out 2).trans rfl
   have hcz39_3 : w14.cell? ⟨gb279, 3, none⟩ = some (.int .i64 0) := (blk_cell BK279.out 3).trans rfl
   have hcz39_4 : w14.cell? ⟨gb279, 4, none⟩ = some (.int .i64 0) := (blk_cell BK279.out 4).trans rfl
   have hcz39_5 : w14.cell? ⟨gb279, 5, none⟩ = some (.bool false) := (blk_cell BK279.out 5).trans rfl
   have hfz39_0 := blk_frozen BK279.out 0
   have hfz39_1 := blk_frozen BK279.out 1
   have hfz39_2 := blk_frozen BK279.out 2
   have hfz39_3 := blk_frozen BK279.out 3
   have hfz39_4 := blk_frozen BK279.out 4
   have hfz39_5 := blk_frozen BK279.out 5
   go_wp2_with (first | ((with_reducible refine gate_callee (f := 28) rfl ?_); refine goesL_ (some 11) rfl rfl Tryd.func28 (by kernel_rfl) rfl #[.agg #[.slice Ao15 t269.length co15, .int .i64 t272, .slice Ao17 t273.length co17, .int .i64 t276, .int .i64 t277, .bool t278], .slice Ao7 y253.length co7] rfl (by (try simp only [List.map_toArray, List.map_cons, List.map_nil]); first | done | rfl | (simp only [List.length_drop, List.length_take]; rfl)) ?_; (with_reducible refine (sift_Passes.calls k _ _ t269 t272 _ _ t273 t276 t277 t278 _ _ y253 false _ ?side1 ?side2 ?side3 ?side4 ?side5 ?side6 A18.out (by first | with_reducible exact HT | exact ⟨TabOK.below HT.out (bl_)⟩)).mono ?_); (case side1 => refine (Kd.V_reads' (e := 28) (base := w.heap.size) (ok := fun k_ => (some k_ ≠ (.slice Ao12 y266.length co12 : Value).ownBlock ∧ k_ ≠ gb279)) (n := t269.length) (c := co15) ?_).2.2; exact (by (with_reducible repeat (first | apply Kd.V_alloc | apply Kd.V_drewN | apply Kd.V_drew)); exact (Kd.V_mono (Kd.V_far (p := ⟨gb279, 5, none⟩) (Kd.V_far (p := ⟨gb279, 4, none⟩) (Kd.V_far (p := ⟨gb279, 3, none⟩) (Kd.V_far (p := ⟨gb279, 2, none⟩) (Kd.V_far (p := ⟨gb279, 1, none⟩) (Kd.V_far (p := ⟨gb279, 0, none⟩) (Kd.V_mono HO271.out (fun k_ hk => (⟨hk, hk.2⟩ : _ ∧ k_ ≠ gb279))) (fun _ hk => hk.2) (.slice Ao15 t269.length co15)) (fun _ hk => hk.2) (.int .i64 t272)) (fun _ hk => hk.2) (.slice Ao17 t273.length co17)) (fun _ hk => hk.2) (.int .i64 t276)) (fun _ hk => hk.2) (.int .i64 t277)) (fun _ hk => hk.2) (.bool t278)) (fun _ h_ => h_.1)))); (case side2 => exact (Kd.V_reads' HO271.out).2.1); (case side3 => refine (Kd.V_reads' (e := 106) (base := w.heap.size) (ok := fun k_ => (some k_ ≠ (.slice Ao12 y266.length co12 : Value).ownBlock ∧ k_ ≠ gb279)) (n := t273.length) (c := co17) ?_).2.2; exact (by (with_reducible repeat (first | apply Kd.V_alloc | apply Kd.V_drewN | apply Kd.V_drew)); exact (Kd.V_mono (Kd.V_far (p := ⟨gb279, 5, none⟩) (Kd.V_far (p := ⟨gb279, 4, none⟩) (Kd.V_far (p := ⟨gb279, 3, none⟩) (Kd.V_far (p := ⟨gb279, 2, none⟩) (Kd.V_far (p := ⟨gb279, 1, none⟩) (Kd.V_far (p := ⟨gb279, 0, none⟩) (Kd.V_mono HO275.out (fun k_ hk => (⟨hk, hk.2⟩ : _ ∧ k_ ≠ gb279))) (fun _ hk => hk.2) (.slice Ao15 t269.length co15)) (fun _ hk => hk.2) (.int .i64 t272)) (fun _ hk => hk.2) (.slice Ao17 t273.length co17)) (fun _ hk => hk.2) (.int .i64 t276)) (fun _ hk => hk.2) (.int .i64 t277)) (fun _ hk => hk.2) (.bool t278)) (fun _ h_ => h_.1)))); (case side4 => exact (Kd.V_reads' HO275.out).2.1); (case side5 => refine (Kd.V_reads' (e := 23) (base := w.heap.size) (ok := fun k_ => ((((True ∧ some k_ ≠ (.slice Ao10 t256.length co10 : Value).ownBlock) ∧ some k_ ≠ (.slice Ao11 t260.length co11 : Value).ownBlock) ∧ some k_ ≠ (.slice Ao12 y266.length co12 : Value).ownBlock) ∧ k_ ≠ gb279)) (n := y253.length) (c := co7) ?_).2.2; exact (by (with_reducible repeat (first | apply Kd.V_alloc | apply Kd.V_drewN | apply Kd.V_drew)); exact (Kd.V_mono (Kd.V_far (p := ⟨gb279, 5, none⟩) (Kd.V_far (p := ⟨gb279, 4, none⟩) (Kd.V_far (p := ⟨gb279, 3, none⟩) (Kd.V_far (p := ⟨gb279, 2, none⟩) (Kd.V_far (p := ⟨gb279, 1, none⟩) (Kd.V_far (p := ⟨gb279, 0, none⟩) (Kd.V_mono HO255.out (fun k_ hk => (⟨hk, hk.2⟩ : _ ∧ k_ ≠ gb279))) (fun _ hk => hk.2) (.slice Ao15 t269.length co15)) (fun _ hk => hk.2) (.int .i64 t272)) (fun _ hk => hk.2) (.slice Ao17 t273.length co17)) (fun _ hk => hk.2) (.int .i64 t276)) (fun _ hk => hk.2) (.int .i64 t277)) (fun _ hk => hk.2) (.bool t278)) (fun _ h_ => h_.1)))); (case side6 => exact (Kd.V_reads' HO255.out).2.1); rintro e w40 ⟨rfl, hb⟩; refine ⟨_, rfl, ?_⟩; replace HO255 := am_ (Kd.V_below (by (with_reducible repeat (first | apply Kd.V_alloc | apply Kd.V_drewN | apply Kd.V_drew)); exact (Kd.V_mono (Kd.V_far (p := ⟨gb279, 5, none⟩) (Kd.V_far (p := ⟨gb279, 4, none⟩) (Kd.V_far (p := ⟨gb279, 3, none⟩) (Kd.V_far (p := ⟨gb279, 2, none⟩) (Kd.V_far (p := ⟨gb279, 1, none⟩) (Kd.V_far (p := ⟨gb279, 0, none⟩) (Kd.V_mono HO255.out (fun k_ hk => (⟨hk, hk.2⟩ : _ ∧ k_ ≠ gb279))) (fun _ hk => hk.2) (.slice Ao15 t269.length co15)) (fun _ hk => hk.2) (.int .i64 t272)) (fun _ hk => hk.2) (.slice Ao17 t273.length co17)) (fun _ hk => hk.2) (.int .i64 t276)) (fun _ hk => hk.2) (.int .i64 t277)) (fun _ hk => hk.2) (.bool t278)) (fun _ h_ => h_.1))) hb); replace HO258 := am_ (Kd.R_below (by (with_reducible repeat (first | apply Kd.R_alloc | apply Kd.R_drewN | apply Kd.R_drew)); exact (Kd.R_mono (Kd.R_far (p := ⟨gb279, 5, none⟩) (Kd.R_far (p := ⟨gb279, 4, none⟩) (Kd.R_far (p := ⟨gb279, 3, none⟩) (Kd.R_far (p := ⟨gb279, 2, none⟩) (Kd.R_far (p := ⟨gb279, 1, none⟩) (Kd.R_far (p := ⟨gb279, 0, none⟩) (Kd.R_types HO258.out BK279.out (by decide)) (fun _ hk => hk.2) (.slice Ao15 t269.length co15)) (fun _ hk => hk.2) (.int .i64 t272)) (fun _ hk => hk.2) (.slice Ao17 t273.length co17)) (fun _ hk => hk.2) (.int .i64 t276)) (fun _ hk => hk.2) (.int .i64 t277)) (fun _ hk => hk.2) (.bool t278)) (fun _ h_ => h_.1))) hb); replace HO262 := am_ (Kd.R_below (by (with_reducible repeat (first | apply Kd.R_alloc | apply Kd.R_drewN | apply Kd.R_drew)); exact (Kd.R_mono (Kd.R_far (p := ⟨gb279, 5, none⟩) (Kd.R_far (p := ⟨gb279, 4, none⟩) (Kd.R_far (p := ⟨gb279, 3, none⟩) (Kd.R_far (p := ⟨gb279, 2, none⟩) (Kd.R_far (p := ⟨gb279, 1, none⟩) (Kd.R_far (p := ⟨gb279, 0, none⟩) (Kd.R_types HO262.out BK279.out (by decide)) (fun _ hk => hk.2) (.slice Ao15 t269.length co15)) (fun _ hk => hk.2) (.int .i64 t272)) (fun _ hk => hk.2) (.slice Ao17 t273.length co17)) (fun _ hk => hk.2) (.int .i64 t276)) (fun _ hk => hk.2) (.int .i64 t277)) (fun _ hk => hk.2) (.bool t278)) (fun _ h_ => h_.1))) hb); replace HO268 := am_ (Kd.N_below (by (with_reducible repeat (first | apply Kd.N_alloc | apply Kd.N_drewN | apply Kd.N_drew)); exact (Kd.N_mono (Kd.N_far (p := ⟨gb279, 5, none⟩) (Kd.N_far (p := ⟨gb279, 4, none⟩) (Kd.N_far (p := ⟨gb279, 3, none⟩) (Kd.N_far (p := ⟨gb279, 2, none⟩) (Kd.N_far (p := ⟨gb279, 1, none⟩) (Kd.N_far (p := ⟨gb279, 0, none⟩) (Kd.N_mono HO268.out (fun k_ hk => (⟨hk, hk.2⟩ : _ ∧ k_ ≠ gb279))) (fun _ hk => hk.2) (.slice Ao15 t269.length co15)) (fun _ hk => hk.2) (.int .i64 t272)) (fun _ hk => hk.2) (.slice Ao17 t273.length co17)) (fun _ hk => hk.2) (.int .i64 t276)) (fun _ hk => hk.2) (.int .i64 t277)) (fun _ hk => hk.2) (.bool t278)) (fun _ h_ => h_.1))) hb); replace HO271 := am_ (Kd.V_below (by (with_reducible repeat (first | apply Kd.V_alloc | apply Kd.V_drewN | apply Kd.V_drew)); exact (Kd.V_mono (Kd.V_far (p := ⟨gb279, 5, none⟩) (Kd.V_far (p := ⟨gb279, 4, none⟩) (Kd.V_far (p := ⟨gb279, 3, none⟩) (Kd.V_far (p := ⟨gb279, 2, none⟩) (Kd.V_far (p := ⟨gb279, 1, none⟩) (Kd.V_far (p := ⟨gb279, 0, none⟩) (Kd.V_mono HO271.out (fun k_ hk => (⟨hk, hk.2⟩ : _ ∧ k_ ≠ gb279))) (fun _ hk => hk.2) (.slice Ao15 t269.length co15)) (fun _ hk => hk.2) (.int .i64 t272)) (fun _ hk => hk.2) (.slice Ao17 t273.length co17)) (fun _ hk => hk.2) (.int .i64 t276)) (fun _ hk => hk.2) (.int .i64 t277)) (fun _ hk => hk.2) (.bool t278)) (fun _ h_ => h_.1))) hb); replace HO275 := am_ (Kd.V_below (by (with_reducible repeat (first | apply Kd.V_alloc | apply Kd.V_drewN | apply Kd.V_drew)); exact (Kd.V_mono (Kd.V_far (p := ⟨gb279, 5, none⟩) (Kd.V_far (p := ⟨gb279, 4, none⟩) (Kd.V_far (p := ⟨gb279, 3, none⟩) (Kd.V_far (p := ⟨gb279, 2, none⟩) (Kd.V_far (p := ⟨gb279, 1, none⟩) (Kd.V_far (p := ⟨gb279, 0, none⟩) (Kd.V_mono HO275.out (fun k_ hk => (⟨hk, hk.2⟩ : _ ∧ k_ ≠ gb279))) (fun _ hk => hk.2) (.slice Ao15 t269.length co15)) (fun _ hk => hk.2) (.int .i64 t272)) (fun _ hk => hk.2) (.slice Ao17 t273.length co17)) (fun _ hk => hk.2) (.int .i64 t276)) (fun _ hk => hk.2) (.int .i64 t277)) (fun _ hk => hk.2) (.bool t278)) (fun _ h_ => h_.1))) hb); replace BK279 := am_ (blk_below (g := gb279) (o := .cells #[.slice Ao15 t269.length co15, .int .i64 t272, .slice Ao17 t273.length co17, .int .i64 t276, .int .i64 t277, .bool t278] 50 (0, 0)) (by refine bp_ ?_; refine blk_put (cs := #[.slice Ao15 t269.length co15, .int .i64 t272, .slice Ao17 t273.length co17, .int .i64 t276, .int .i64 t277, .bool false]) ?_ 5 _ rfl; refine bp_ ?_; refine blk_put (cs := #[.slice Ao15 t269.length co15, .int .i64 t272, .slice Ao17 t273.length co17, .int .i64 t276, .int .i64 0, .bool false]) ?_ 4 _ rfl; refine bp_ ?_; refine blk_put (cs := #[.slice Ao15 t269.length co15, .int .i64 t272, .slice Ao17 t273.length co17, .int .i64 0, .int .i64 0, .bool false]) ?_ 3 _ rfl; refine bp_ ?_; refine blk_put (cs := #[.slice Ao15 t269.length co15, .int .i64 t272, .slice none 0 0, .int .i64 0, .int .i64 0, .bool false]) ?_ 2 _ rfl; refine bp_ ?_; refine blk_put (cs := #[.slice Ao15 t269.length co15, .int .i64 0, .slice none 0 0, .int .i64 0, .int .i64 0, .bool false]) ?_ 1 _ rfl; refine bp_ ?_; refine blk_put (cs := #[.slice none 0 0, .int .i64 0, .slice none 0 0, .int .i64 0, .int .i64 0, .bool false]) ?_ 0 _ rfl; refine bp_ ?_; exact BK279.out) hb); replace HB := am_ (below_step (bl_) hb); (try clear hb); (try clear hb2); (try clear hk); (try clear hi)))
   go_meet
   case rel => exact ⟨_, (false), (rs_), H', ⟨by first | omega | exact Nat.le_refl _⟩, ⟨by (with_reducible repeat (first | apply Kd.V_alloc | apply Kd.V_drewN | apply Kd.V_drew)); exact Kd.V_mono HO271.out (fun _ hk => hk.2)⟩, ⟨by (with_reducible repeat (first | apply Kd.V_alloc | apply Kd.V_drewN | apply Kd.V_drew)); exact Kd.V_mono HO275.out (fun _ hk => hk.2)⟩, ⟨bk_ BK279.out⟩, ⟨bl_⟩⟩
 case rest =>
  clear HC3
  try clear c1
  try clear c2
  try clear p2
  try clear c3
  try clear c4
  try clear c19
  try clear c21
  try clear c24
  try clear c28
  try clear c29
  try clear hcz16_0
  try clear hcz16_1
  try clear hcz16_2
  try clear hcz16_3
  try clear hcz16_4
  try clear hcz16_5
  try clear hcz22_0
  try clear hcz22_1
  try clear hcz22_2
  try clear hcz22_3
  try clear hcz22_4
  try clear hcz22_5
  try clear hcz24_0
  try clear hcz24_1
  try clear hcz24_2
  try clear hcz24_3
  try clear hcz24_4
  try clear hcz24_5
  try clear hcz30_0
  try clear hcz30_1
  try clear hcz30_2
  try clear hcz30_3
  try clear hcz30_4
  try clear hcz30_5
  try clear hcz32_0
  try clear hcz32_1
  try clear hcz32_2
  try clear hcz32_3
  try clear hcz32_4
  try clear hcz32_5
  try clear hcz37_0
  try clear hcz37_1
  try clear hcz37_2
  try clear hcz37_3
  try clear hcz37_4
  try clear hcz37_5
  try clear hcz39_0
  try clear hcz39_1
  try clear hcz39_2
  try clear hcz39_3
  try clear hcz39_4
  try clear hcz39_5
  try clear hfz16_0
  try clear hfz16_1
  try clear hfz16_2
  try clear hfz16_3
  try clear hfz16_4
  try clear hfz16_5
  try clear hfz22_0
  try clear hfz22_1
  try clear hfz22_2
  try clear hfz22_3
  try clear hfz22_4
  try clear hfz22_5
  try clear hfz24_0
  try clear hfz24_1
  try clear hfz24_2
  try clear hfz24_3
  try clear hfz24_4
  try clear hfz24_5
  try clear hfz30_0
  try clear hfz30_1
  try clear hfz30_2
  try clear hfz30_3
  try clear hfz30_4
  try clear hfz30_5
  try clear hfz32_0
  try clear hfz32_1
  try clear hfz32_2
  try clear hfz32_3
  try clear hfz32_4
  try clear hfz32_5
  try clear hfz37_0
  try clear hfz37_1
  try clear hfz37_2
  try clear hfz37_3
  try clear hfz37_4
  try clear hfz37_5
  try clear hfz39_0
  try clear hfz39_1
  try clear hfz39_2
  try clear hfz39_3
  try clear hfz39_4
  try clear hfz39_5
  obtain ⟨kq, x0_2, rfl, HA, HJ2, HO_280000, HO_280002, BK279, HB⟩ := hcut
  cases kq with
  | zero => exact absurd HA.out (by simp [trommellaw20_live.j0])
  | succ kj2 =>
   have H := HA.out
   clear HA
   simp only [trommellaw20_live.j0] at H
   obtain rfl := Option.some.inj H
   go_wp2
   go_ret
   exact ⟨ew_, bl_⟩

mutual
def trommelref04_Much.l0 : Nat → List (List (S23)) → Int → Int → Option (Bool)
 | 0, _, _, _ => none
 | k + 1, x0, x3, x4 => if x4 < (x0.length : Int) then (trommelref04_Much.j1 k x0 x3 x4 (decide (x4 < 60))) else (trommelref04_Much.j1 k x0 x3 x4 false)
def trommelref04_Much.j1 : Nat → List (List (S23)) → Int → Int → Bool → Option (Bool)
 | 0, _, _, _, _ => none
 | k + 1, x0, x3, x4, x13 => if x13 = true then (if 0 ≤ x4 then (if x4 < (x0.length : Int) then (if ((rd_L6 x0 x4).length : Int) > 40 then (some true) else (trommelref04_Much.l1 k x0 x3 x4 0)) else (none)) else (none)) else (some (decide ((x0.length : Int) > 50)))
def trommelref04_Much.l1 : Nat → List (List (S23)) → Int → Int → Int → Option (Bool)
 | 0, _, _, _, _ => none
 | k + 1, x0, x3, x4, x5 => if 0 ≤ x4 then (if x4 < (x0.length : Int) then (if x5 < ((rd_L6 x0 x4).length : Int) then (if 0 ≤ x5 then (trommelref04_Much.l1 k x0 (wrap64 ((wrap64 (x3 + 1)) + (((rd_T23 (rd_L6 x0 x4) x5).f2).size : Int))) x4 (wrap64 (x5 + 1))) else (none)) else (if x3 > 2000 then (some true) else (trommelref04_Much.l0 k x0 x3 (wrap64 (x4 + 1))))) else (none)) else (none)
end
def trommelref04_Much.f (k : Nat) (l0 : List (List (S23))) : Option (Bool) := trommelref04_Much.l0 k l0 0 0
theorem trommelref04_Much.mono_l : ∀ k, (∀ y0 y1 y2, LeO (trommelref04_Much.l0 k y0 y1 y2) (trommelref04_Much.l0 (k + 1) y0 y1 y2)) ∧ (∀ y0 y1 y2 y3, LeO (trommelref04_Much.j1 k y0 y1 y2 y3) (trommelref04_Much.j1 (k + 1) y0 y1 y2 y3)) ∧ (∀ y0 y1 y2 y3, LeO (trommelref04_Much.l1 k y0 y1 y2 y3) (trommelref04_Much.l1 (k + 1) y0 y1 y2 y3))
 | 0 => ⟨fun _ _ _ r h => by simp [trommelref04_Much.l0] at h, fun _ _ _ _ r h => by simp [trommelref04_Much.j1] at h, fun _ _ _ _ r h => by simp [trommelref04_Much.l1] at h⟩
 | k + 1 => by
  obtain ⟨ih0, ih1, ih2⟩ := trommelref04_Much.mono_l k
  refine ⟨?_, ?_, ?_⟩
  ·intro y0 y1 y2
   unfold trommelref04_Much.l0
   repeat' first
   | (with_reducible exact ih0 _ _ _)
   | (with_reducible exact ih1 _ _ _ _)
   | (with_reducible exact ih2 _ _ _ _)
   | (with_reducible exact LeO.refl _)
   | (with_reducible exact LeO.none _)
   | (with_reducible refine LeO.ite ?_ ?_)
   | (with_reducible refine LeO.bind ?_ (fun _ => ?_))
   | exact ih0 _ _ _
   | exact ih1 _ _ _ _
   | exact ih2 _ _ _ _
   | exact LeO.none _
   | refine LeO.ite ?_ ?_
   | refine LeO.bind ?_ (fun _ => ?_)
  ·intro y0 y1 y2 y3
   unfold trommelref04_Much.j1
   repeat' first
   | (with_reducible exact ih0 _ _ _)
   | (with_reducible exact ih1 _ _ _ _)
   | (with_reducible exact ih2 _ _ _ _)
   | (with_reducible exact LeO.refl _)
   | (with_reducible exact LeO.none _)
   | (with_reducible refine LeO.ite ?_ ?_)
   | (with_reducible refine LeO.bind ?_ (fun _ => ?_))
   | exact ih0 _ _ _
   | exact ih1 _ _ _ _
   | exact ih2 _ _ _ _
   | exact LeO.none _
   | refine LeO.ite ?_ ?_
   | refine LeO.bind ?_ (fun _ => ?_)
  ·intro y0 y1 y2 y3
   unfold trommelref04_Much.l1
   repeat' first
   | (with_reducible exact ih0 _ _ _)
   | (with_reducible exact ih1 _ _ _ _)
   | (with_reducible exact ih2 _ _ _ _)
   | (with_reducible exact LeO.refl _)
   | (with_reducible exact LeO.none _)
   | (with_reducible refine LeO.ite ?_ ?_)
   | (with_reducible refine LeO.bind ?_ (fun _ => ?_))
   | exact ih0 _ _ _
   | exact ih1 _ _ _ _
   | exact ih2 _ _ _ _
   | exact LeO.none _
   | refine LeO.ite ?_ ?_
   | refine LeO.bind ?_ (fun _ => ?_)
theorem trommelref04_Much.mono : ∀ a0 k, LeO (trommelref04_Much.f k a0) (trommelref04_Much.f (k + 1) a0) := by
 intro a0 k
 obtain ⟨ih0, ih1, ih2⟩ := trommelref04_Much.mono_l k
 unfold trommelref04_Much.f
 repeat' first
   | (with_reducible exact ih0 _ _ _)
   | (with_reducible exact ih1 _ _ _ _)
   | (with_reducible exact ih2 _ _ _ _)
   | (with_reducible exact LeO.refl _)
   | (with_reducible exact LeO.none _)
   | (with_reducible refine LeO.ite ?_ ?_)
   | (with_reducible refine LeO.bind ?_ (fun _ => ?_))
   | exact ih0 _ _ _
   | exact ih1 _ _ _ _
   | exact ih2 _ _ _ _
   | exact LeO.none _
   | refine LeO.ite ?_ ?_
   | refine LeO.bind ?_ (fun _ => ?_)
set_option maxHeartbeats 8000000 in
set_option maxRecDepth 100000 in
theorem trommelref04_Much.calls (k : Nat) (A0 : Option Addr) (c0 : Nat) (l0 : List (List (S23))) (r : Bool) (w : World) (hr0 : Kd.C (Kd.slice 23 k23) w A0 l0.length l0) (hc0 : l0.length ≤ c0) (h : trommelref04_Much.f k l0 = some r) :
  Calls Tryd.prog 11 #[.slice A0 l0.length c0] w fun e w' => e = .returned (.bool r) ∧ Drawn0 w w' := by
 have HR0 := am_ hr0
 have HC0 := am_ hc0
 clear hr0 hc0
 have H : (trommelref04_Much.l0 k l0 0 0) = some r := h
 clear h
 have H' := am_ H
 clear H
 go_enter Tryd.func11, Tryd.ntmps11
 go_wp2
 go_loopg [3, 4] k (fun kq v3 v4 w' => ∃ (x3_1 : Int) (x4_1 : Int), v3 = .int .i64 x3_1 ∧ v4 = .int .i64 x4_1 ∧ Aside0 (trommelref04_Much.l0 kq l0 x3_1 x4_1 = some r) ∧ Aside0 (kq ≤ k) ∧ Drawn0 w w')
 case atStart => exact ⟨(0), (0), (rs_), (rs_), H', ⟨Nat.le_refl _⟩, by repeat (first | exact Drawn0.refl _ | apply Drawn0.step)⟩
 case round =>
  clear H'
  try clear c1
  obtain ⟨x3_1, x4_1, rfl, rfl, HA, HK1, ⟨m1, rfl⟩⟩ := hrel
  cases gk with
  | zero => exact absurd HA.out (by simp [trommelref04_Much.l0])
  | succ k1 =>
   have H := HA.out
   clear HA
   simp only [trommelref04_Much.l0] at H
   have HC2 := am_ H
   clear H
   go_upto_region 3 with (fail)
   go_cut [13] (fun v13 wc => ∃ (kq : Nat) (x13_1 : Bool), v13 = .bool x13_1 ∧ Aside0 (trommelref04_Much.j1 kq l0 x3_1 x4_1 x13_1 = some r) ∧ Aside0 (kq ≤ k1) ∧ Drawn0 w wc)
   case first =>
    have H := HC2.out
    clear HC2
    by_cases c3 : x4_1 < (l0.length : Int)
    ·rw [if_pos c3] at H
     have c3b0 : decide (x4_1 < (l0.length : Int)) = true := decide_eq_true c3
     clear c3
     (first | rw [c3b0] | (simp only [i64_w, i32_w]; rw [c3b0]) | skip)
     have H' := am_ H
     clear H
     go_wp2
     go_meet
     case rel => exact ⟨_, (decide (x4_1 < 60)), (rs_), H', ⟨by have := HK1.out; first | omega | exact Nat.le_refl _⟩, by repeat (first | exact Drawn0.refl _ | apply Drawn0.step)⟩
    ·rw [if_neg c3] at H
     have c3b0 : decide (x4_1 < (l0.length : Int)) = false := decide_eq_false c3
     clear c3
     (first | rw [c3b0] | (simp only [i64_w, i32_w]; rw [c3b0]) | skip)
     have H' := am_ H
     clear H
     go_wp2
     go_meet
     case rel => exact ⟨_, (false), (rs_), H', ⟨by have := HK1.out; first | omega | exact Nat.le_refl _⟩, by repeat (first | exact Drawn0.refl _ | apply Drawn0.step)⟩
   case rest =>
    clear HC2
    try clear c1
    try clear p2
    try clear c3
    try clear c3b0
    obtain ⟨kq, x13_1, rfl, HA, HJ1, ⟨mc1, rfl⟩⟩ := hcut
    cases kq with
    | zero => exact absurd HA.out (by simp [trommelref04_Much.j1])
    | succ kj1 =>
     have H := HA.out
     clear HA
     simp only [trommelref04_Much.j1] at H
     by_cases c4 : x13_1 = true
     ·subst c4
      have H1 : (if 0 ≤ x4_1 then (if x4_1 < (l0.length : Int) then (if ((rd_L6 l0 x4_1).length : Int) > 40 then (some true) else (trommelref04_Much.l1 kj1 l0 x3_1 x4_1 0)) else (none)) else (none)) = some r := by rw [if_pos rfl] at H; exact H
      clear H
      have H := H1
      clear H1
      by_cases c5 : 0 ≤ x4_1
      ·rw [if_pos c5] at H
       have c5b0 : decide (0 ≤ x4_1) = true := decide_eq_true c5
       clear c5
       by_cases c6 : x4_1 < (l0.length : Int)
       ·rw [if_pos c6] at H
        have c6b0 : decide (x4_1 < (l0.length : Int)) = true := decide_eq_true c6
        clear c6
        by_cases c7 : ((rd_L6 l0 x4_1).length : Int) > 40
        ·rw [if_pos c7] at H
         have c7b0 : decide (40 < ((rd_L6 l0 x4_1).length : Int)) = true := decide_eq_true c7
         have c7b1 : decide (40 < (rd_L6 l0 x4_1).length) = true := decide_eq_true (by omega)
         clear c7
         obtain rfl := Option.some.inj H
         have p286 : 0 ≤ (x4_1 : Int) := of_decide_eq_true (as_)
         have q286 : x4_1 < (l0.length : Int) := of_decide_eq_true (as_)
         obtain ⟨ad286, A286_0, c286_0, e286, hx286_0, hl286_0, hi286_0⟩ := at_L6 HR0.out x4_1 p286 q286
         cases e286
         have HR286_0 := am_ hi286_0
         have HC286_0 := am_ hl286_0
         clear hi286_0 hl286_0
         replace p286 := eq_true p286
         replace q286 := eq_true q286
         go_wp2
         go_ret
         exact ⟨rs_, by repeat (first | exact Drawn0.refl _ | apply Drawn0.step)⟩
        ·rw [if_neg c7] at H
         have c7b0 : decide (40 < ((rd_L6 l0 x4_1).length : Int)) = false := decide_eq_false c7
         have c7b1 : decide (40 < (rd_L6 l0 x4_1).length) = false := decide_eq_false (by omega)
         clear c7
         have H' := am_ H
         clear H
         have p286 : 0 ≤ (x4_1 : Int) := of_decide_eq_true (as_)
         have q286 : x4_1 < (l0.length : Int) := of_decide_eq_true (as_)
         obtain ⟨ad286, A286_0, c286_0, e286, hx286_0, hl286_0, hi286_0⟩ := at_L6 HR0.out x4_1 p286 q286
         cases e286
         have HR286_0 := am_ hi286_0
         have HC286_0 := am_ hl286_0
         clear hi286_0 hl286_0
         replace p286 := eq_true p286
         replace q286 := eq_true q286
         go_wp2
         go_loopg [3, 5] kj1 (fun kq v3 v5 w' => ∃ (x3_3 : Int) (x5_3 : Int), v3 = .int .i64 x3_3 ∧ v5 = .int .i64 x5_3 ∧ Aside0 (trommelref04_Much.l1 kq l0 x3_3 x4_1 x5_3 = some r) ∧ Aside0 (kq ≤ kj1) ∧ Drawn0 w w')
         case atStart => exact ⟨(x3_1), (0), (rs_), (rs_), H', ⟨Nat.le_refl _⟩, by repeat (first | exact Drawn0.refl _ | apply Drawn0.step)⟩
         case round =>
          clear H'
          try clear c1
          try clear c2
          try clear p2
          try clear q2
          try clear hx2
          try clear c3
          try clear c3b0
          try clear c4
          try clear c5
          try clear c5b0
          try clear c6
          try clear c6b0
          try clear c7
          try clear c7b0
          try clear c7b1
          try clear hx286_0
          try clear p2
          try clear p286
          try clear q286
          obtain ⟨x3_3, x5_3, rfl, rfl, HA, HK3, ⟨m3, rfl⟩⟩ := hrel
          cases gk with
          | zero => exact absurd HA.out (by simp [trommelref04_Much.l1])
          | succ k3 =>
           have H := HA.out
           clear HA
           simp only [trommelref04_Much.l1] at H
           by_cases c8 : 0 ≤ x4_1
           ·rw [if_pos c8] at H
            have c8b0 : decide (0 ≤ x4_1) = true := decide_eq_true c8
            clear c8
            by_cases c9 : x4_1 < (l0.length : Int)
            ·rw [if_pos c9] at H
             have c9b0 : decide (x4_1 < (l0.length : Int)) = true := decide_eq_true c9
             clear c9
             by_cases c10 : x5_3 < ((rd_L6 l0 x4_1).length : Int)
             ·rw [if_pos c10] at H
              have c10b0 : decide (x5_3 < ((rd_L6 l0 x4_1).length : Int)) = true := decide_eq_true c10
              clear c10
              by_cases c11 : 0 ≤ x5_3
              ·rw [if_pos c11] at H
               have c11b0 : decide (0 ≤ x5_3) = true := decide_eq_true c11
               clear c11
               have H' := am_ H
               clear H
               have p287 : 0 ≤ (x4_1 : Int) := of_decide_eq_true (as_)
               have q287 : x4_1 < (l0.length : Int) := of_decide_eq_true (as_)
               obtain ⟨ad287, A287_0, c287_0, e287, hx287_0, hl287_0, hi287_0⟩ := at_L6 HR0.out x4_1 p287 q287
               obtain rfl : ad286 = ad287 := (by injection e287)
               have HR287_0 := am_ hi287_0
               have HC287_0 := am_ hl287_0
               clear hi287_0 hl287_0
               replace p287 := eq_true p287
               replace q287 := eq_true q287
               have p288 : 0 ≤ (x4_1 : Int) := of_decide_eq_true (as_)
               have q288 : x4_1 < (l0.length : Int) := of_decide_eq_true (as_)
               obtain ⟨ad288, A288_0, c288_0, e288, hx288_0, hl288_0, hi288_0⟩ := at_L6 HR0.out x4_1 p288 q288
               obtain rfl : ad286 = ad288 := (by injection e288)
               have HR288_0 := am_ hi288_0
               have HC288_0 := am_ hl288_0
               clear hi288_0 hl288_0
               replace p288 := eq_true p288
               replace q288 := eq_true q288
               have ea_ := Option.some.inj (hx287_0.symm.trans hx288_0)
               injection ea_ with ea_ en_ ec_
               subst ea_
               subst ec_
               clear en_
               have p289 : 0 ≤ (x5_3 : Int) := of_decide_eq_true (as_)
               have q289 : x5_3 < ((rd_L6 l0 x4_1).length : Int) := of_decide_eq_true (as_)
               obtain ⟨ad289, e289, hx289_0, hx289_1, hx289_2⟩ := at_T23 HR288_0.out x5_3 p289 q289
               cases e289
               replace p289 := eq_true p289
               replace q289 := eq_true q289
               go_wp2
               go_roundg k3
               case measure => have := HK1.out; have := HJ1.out; have := HK3.out; omega
               case rel => exact ⟨(wrap64 ((wrap64 (x3_3 + 1)) + (((rd_T23 (rd_L6 l0 x4_1) x5_3).f2).size : Int))), (wrap64 (x5_3 + 1)), (rs_), (rs_), H', ⟨by have := HK1.out; have := HJ1.out; have := HK3.out; omega⟩, by repeat (first | exact Drawn0.refl _ | apply Drawn0.step)⟩
              ·rw [if_neg c11] at H
               exact absurd H (by simp)
             ·rw [if_neg c10] at H
              have c10b0 : decide (x5_3 < ((rd_L6 l0 x4_1).length : Int)) = false := decide_eq_false c10
              clear c10
              by_cases c12 : x3_3 > 2000
              ·rw [if_pos c12] at H
               have c12b0 : decide (2000 < x3_3) = true := decide_eq_true c12
               clear c12
               obtain rfl := Option.some.inj H
               have p287 : 0 ≤ (x4_1 : Int) := of_decide_eq_true (as_)
               have q287 : x4_1 < (l0.length : Int) := of_decide_eq_true (as_)
               obtain ⟨ad287, A287_0, c287_0, e287, hx287_0, hl287_0, hi287_0⟩ := at_L6 HR0.out x4_1 p287 q287
               obtain rfl : ad286 = ad287 := (by injection e287)
               have HR287_0 := am_ hi287_0
               have HC287_0 := am_ hl287_0
               clear hi287_0 hl287_0
               replace p287 := eq_true p287
               replace q287 := eq_true q287
               go_wp2
               go_ret
               exact ⟨rs_, by repeat (first | exact Drawn0.refl _ | apply Drawn0.step)⟩
              ·rw [if_neg c12] at H
               have c12b0 : decide (2000 < x3_3) = false := decide_eq_false c12
               clear c12
               have H' := am_ H
               clear H
               have p287 : 0 ≤ (x4_1 : Int) := of_decide_eq_true (as_)
               have q287 : x4_1 < (l0.length : Int) := of_decide_eq_true (as_)
               obtain ⟨ad287, A287_0, c287_0, e287, hx287_0, hl287_0, hi287_0⟩ := at_L6 HR0.out x4_1 p287 q287
               obtain rfl : ad286 = ad287 := (by injection e287)
               have HR287_0 := am_ hi287_0
               have HC287_0 := am_ hl287_0
               clear hi287_0 hl287_0
               replace p287 := eq_true p287
               replace q287 := eq_true q287
               go_wp2
               go_roundg k3
               case measure => have := HK1.out; have := HJ1.out; have := HK3.out; omega
               case rel => exact ⟨(x3_3), (wrap64 (x4_1 + 1)), (rs_), (rs_), H', ⟨by have := HK1.out; have := HJ1.out; have := HK3.out; omega⟩, by repeat (first | exact Drawn0.refl _ | apply Drawn0.step)⟩
            ·rw [if_neg c9] at H
             exact absurd H (by simp)
           ·rw [if_neg c8] at H
            exact absurd H (by simp)
       ·rw [if_neg c6] at H
        exact absurd H (by simp)
      ·rw [if_neg c5] at H
       exact absurd H (by simp)
     ·replace c4 := Bool.eq_false_iff.mpr c4
      subst c4
      have H1 : (some (decide ((l0.length : Int) > 50))) = some r := by rw [if_neg (show ¬ (false = true) by decide)] at H; exact H
      clear H
      have H := H1
      clear H1
      obtain rfl := Option.some.inj H
      go_wp2
      go_ret
      exact ⟨rs_, by repeat (first | exact Drawn0.refl _ | apply Drawn0.step)⟩

def trommellaw20_much.f (k : Nat) (l0 : List (List (S23))) (l1 : List (S23)) (a2 : Int) : Option (Bool) := (some (([l1] : List (List (S23))) : List (List (S23)))).bind fun y290 => (if y290.length + l0.length < 5864062014805 then ((trommelref04_Much.f k (y290 ++ l0)).bind fun t296 => (if t296 = true then (some true) else (some (decide (a2 > 40))))) else (none))
theorem trommellaw20_much.mono : ∀ a0 a1 a2 k, LeO (trommellaw20_much.f k a0 a1 a2) (trommellaw20_much.f (k + 1) a0 a1 a2) := by
 intro a0 a1 a2 k
 unfold trommellaw20_much.f
 repeat' first
   | (with_reducible exact trommelref04_Much.mono _ _)
   | (with_reducible exact LeO.refl _)
   | (with_reducible exact LeO.none _)
   | (with_reducible refine LeO.ite ?_ ?_)
   | (with_reducible refine LeO.bind ?_ (fun _ => ?_))
   | exact trommelref04_Much.mono _ _
   | exact LeO.none _
   | refine LeO.ite ?_ ?_
   | refine LeO.bind ?_ (fun _ => ?_)
set_option maxHeartbeats 8000000 in
set_option maxRecDepth 100000 in
theorem trommellaw20_much.calls (k : Nat) (P0_ : Nat → Prop) (A0 : Option Addr) (c0 : Nat) (l0 : List (List (S23))) (P1_ : Nat → Prop) (A1 : Option Addr) (c1 : Nat) (l1 : List (S23)) (a2 : Int) (r : Bool) (w : World) (hs0 : Kd.V (Kd.slice 23 k23) 24 w w.heap.size (fun k_ => P0_ k_) (.slice A0 l0.length c0) l0) (hs1 : Kd.V k23 23 w w.heap.size (fun k_ => P1_ k_) (.slice A1 l1.length c1) l1) (h : trommellaw20_much.f k l0 l1 a2 = some r) :
  Calls Tryd.prog 41 #[.slice A0 l0.length c0, .slice A1 l1.length c1, .int .i64 a2] w fun e w' => e = .returned (.bool r) ∧ Below w.heap.size w w' := by
 have HO0 := am_ (show Kd.V (Kd.slice 23 k23) 24 w w.heap.size (fun k_ => ((P0_ k_ ∨ P1_ k_) ∨ w.heap.size ≤ k_)) (.slice A0 l0.length c0) l0 from Kd.V_mono hs0 (fun k_ hk => .inl (.inl hk)))
 have HO1 := am_ (show Kd.V k23 23 w w.heap.size (fun k_ => ((P0_ k_ ∨ P1_ k_) ∨ w.heap.size ≤ k_)) (.slice A1 l1.length c1) l1 from Kd.V_mono hs1 (fun k_ hk => .inl (.inr hk)))
 have HB := am_ (Below.refl w.heap.size w)
 have H : ((some (([l1] : List (List (S23))) : List (List (S23)))).bind fun y290 => (if y290.length + l0.length < 5864062014805 then ((trommelref04_Much.f k (y290 ++ l0)).bind fun t296 => (if t296 = true then (some true) else (some (decide (a2 > 40))))) else (none))) = some r := h
 clear h
 obtain ⟨y290, hy290⟩ : ∃ y_ : List (List (S23)), y_ = (([l1] : List (List (S23)))) := ⟨_, rfl⟩
 replace H : (if y290.length + l0.length < 5864062014805 then ((trommelref04_Much.f k (y290 ++ l0)).bind fun t296 => (if t296 = true then (some true) else (some (decide (a2 > 40))))) else (none)) = some r := by first | (rw [hy290]; with_reducible exact H) | (have H2_ := (Option.bind_some _ _).symm.trans H; rw [hy290]; with_reducible exact H2_) | (have H2_ := (Option.bind_some _ _).symm.trans H; with_reducible exact H2_) | with_reducible exact H | (rw [hy290]; exact H) | exact H
 have Ny290 := am_ hy290
 clear hy290
 by_cases c4 : y290.length + l0.length < 5864062014805
 ·rw [if_pos c4] at H
  have LMc4 := am_ c4
  clear c4
  obtain ⟨y293, hy293⟩ : ∃ y_ : List (List (S23)), y_ = (y290 ++ l0) := ⟨_, rfl⟩
  replace H : ((trommelref04_Much.f k y293).bind fun t296 => (if t296 = true then (some true) else (some (decide (a2 > 40))))) = some r := by first | (rw [hy293]; with_reducible exact H) | (have H2_ := (Option.bind_some _ _).symm.trans H; rw [hy293]; with_reducible exact H2_) | (have H2_ := (Option.bind_some _ _).symm.trans H; with_reducible exact H2_) | with_reducible exact H | (rw [hy293]; exact H) | exact H
  have Ny293 := am_ hy293
  clear hy293
  replace H := Option.bind_eq_some_iff.mp H
  obtain ⟨t296, A50, H⟩ := H
  replace H : (if t296 = true then (some true) else (some (decide (a2 > 40)))) = some r := H
  have A5 := am_ A50
  clear A50
  by_cases c6 : t296 = true
  ·subst c6
   have H1 : (some true) = some r := by rw [if_pos rfl] at H; exact H
   clear H
   have H := H1
   clear H1
   obtain rfl := Option.some.inj H
   go_enter Tryd.func41, Tryd.ntmps41
   go_wp2_with (first | ((with_reducible refine gate_dst (N := 8) rfl ?_); refine Kd.N_lit (Kd.slice 23 k23) _ 24 ?hg (N' := 8) ?hd (xs := ([l1] : List (List (S23)))) (inner := [.slice A1 l1.length c1]) (ok := (fun k_ => ((P0_ k_ ∨ P1_ k_) ∨ w.heap.size ≤ k_))) (okp := (fun k_ => ((P0_ k_ ∨ P1_ k_) ∨ w.heap.size ≤ k_))) ?hr ?hp (fun _ hk => hk) ((show ∀ k_, w.heap.size ≤ k_ → (fun k_ => ((P0_ k_ ∨ P1_ k_) ∨ w.heap.size ≤ k_)) k_ from fun k_ hk => (.inr (Nat.le_trans (below_size (bl_)) hk))) _ (Nat.le_refl _)) (Below.refl _ _) (Nat.le_refl _) (by simp) ?_; (case hd => rfl); (case hg => rfl); (case hr => first | (go_simp; done) | (go_simp; rfl)); (case hp => exact (Reps.one (show Kd.FK (Kd.slice 23 k23) _ _ l1 [.slice A1 l1.length c1] from (Kd.FK_slice_mk (Kd.V_reads' (Kd.V_mono (ok' := (fun k_ => ((P0_ k_ ∨ P1_ k_) ∨ w.heap.size ≤ k_))) (kv_ (HO1.out)) (fun k_ hk => hk))).2.1 (Kd.V_F (Kd.V_mono (ok' := (fun k_ => ((P0_ k_ ∨ P1_ k_) ∨ w.heap.size ≤ k_))) (kv_ (HO1.out)) (fun k_ hk => hk))))) (Reps.none _ _))); intro v291 w7 ho8 hb hg_ hnew_; clear hg_ hnew_; (first | rw [← Ny290.out] at ho8 | (simp only [Int.reduceToNat] at ho8; rw [← Ny290.out] at ho8)); replace HO0 := am_ (Kd.V_elder' (kv_ HO0.out) (Kd.N_base ho8) hb); replace HO1 := am_ (Kd.V_elder' (kv_ HO1.out) (Kd.N_base ho8) hb); have HO292 := am_ (Kd.N_lower ho8 (below_size (bl_))); replace HB := am_ (below_step (bl_) hb); clear hb ho8) | ((with_reducible refine gate_builtin (b := .append) (xs := #[.tmp 8, .tmp 9]) rfl ?_); at_builtin; refine Kd.N_append_rows (Kd.slice 23 k23) (w0 := w) w.heap.size rfl (.tmp 8) (.tmp 9) 26 24 (.slice none 0 0) 24 rfl Tryd.underlying26 info24 rfl (by decide) (by omega) v291 y290 l0 _ _ _ (fun k_ => ((P0_ k_ ∨ P1_ k_) ∨ w.heap.size ≤ k_)) (fun k_ => ((fun k_ => ((P0_ k_ ∨ P1_ k_) ∨ w.heap.size ≤ k_))) k_ ∧ some k_ ≠ (v291 : Value).ownBlock) rfl rfl ?aO ?aR (fun _ hk => hk) ?aF ?aB ?aS ?aL ?_; (case aR => exact (by skip; exact Kd.V_F (Kd.V_mono (ok' := (fun k_ => ((fun k_ => ((P0_ k_ ∨ P1_ k_) ∨ w.heap.size ≤ k_))) k_ ∧ some k_ ≠ (v291 : Value).ownBlock)) (HO0.out) (fun k_ hk => ⟨hk.1, hk.2⟩)))); (case aB => exact (bl_)); (case aF => exact (fun k_ hk => (.inr (Nat.le_trans (below_size (bl_)) hk)))); (case aO => exact (kn_ HO292.out)); (case aS => exact (below_size (bl_))); (case aL => have := LMc4.out; omega); intro v294 w9 ho hb hg hat; rw [← Ny293.out] at ho; replace HO0 := am_ (Kd.V_afterv (ok := (fun k_ => ((P0_ k_ ∨ P1_ k_) ∨ w.heap.size ≤ k_))) (kv_ HO0.out) hg hat); replace HO1 := am_ (Kd.V_afterv (ok := (fun k_ => ((P0_ k_ ∨ P1_ k_) ∨ w.heap.size ≤ k_))) (kv_ HO1.out) hg hat); have HO295 := am_ (ho); replace HB := am_ (hb); clear HO292; clear ho hb hg hat; obtain ⟨Ao10, co10, eo10⟩ := Kd.N_slice HO295.out; subst eo10) | ((with_reducible refine gate_callee (f := 11) rfl ?_); refine goesL_ (some 11) rfl rfl Tryd.func11 (by kernel_rfl) rfl #[.slice Ao10 y293.length co10] rfl (by (try simp only [List.map_toArray, List.map_cons, List.map_nil]); first | done | rfl | (simp only [List.length_drop, List.length_take]; rfl)) ?_; (with_reducible refine (trommelref04_Much.calls k _ _ y293 true _ ?side1 ?side2 A5.out).mono ?_); (case side1 => repeat (first | exact (Kd.N_reads' HO295.out).2.2 | (with_reducible refine Kd.C_alloc ?_ _) | (with_reducible refine Kd.C_drewN ?_ _) | (with_reducible refine Kd.C_drew ?_))); (case side2 => exact (Kd.N_reads' HO295.out).2.1); rintro e w' ⟨rfl, ⟨nd, rfl⟩⟩; refine ⟨_, rfl, ?_⟩))
   go_ret
   exact ⟨ew_, bl_⟩
  ·replace c6 := Bool.eq_false_iff.mpr c6
   subst c6
   have H1 : (some (decide (a2 > 40))) = some r := by rw [if_neg (show ¬ (false = true) by decide)] at H; exact H
   clear H
   have H := H1
   clear H1
   obtain rfl := Option.some.inj H
   go_enter Tryd.func41, Tryd.ntmps41
   go_wp2_with (first | ((with_reducible refine gate_dst (N := 8) rfl ?_); refine Kd.N_lit (Kd.slice 23 k23) _ 24 ?hg (N' := 8) ?hd (xs := ([l1] : List (List (S23)))) (inner := [.slice A1 l1.length c1]) (ok := (fun k_ => ((P0_ k_ ∨ P1_ k_) ∨ w.heap.size ≤ k_))) (okp := (fun k_ => ((P0_ k_ ∨ P1_ k_) ∨ w.heap.size ≤ k_))) ?hr ?hp (fun _ hk => hk) ((show ∀ k_, w.heap.size ≤ k_ → (fun k_ => ((P0_ k_ ∨ P1_ k_) ∨ w.heap.size ≤ k_)) k_ from fun k_ hk => (.inr (Nat.le_trans (below_size (bl_)) hk))) _ (Nat.le_refl _)) (Below.refl _ _) (Nat.le_refl _) (by simp) ?_; (case hd => rfl); (case hg => rfl); (case hr => first | (go_simp; done) | (go_simp; rfl)); (case hp => exact (Reps.one (show Kd.FK (Kd.slice 23 k23) _ _ l1 [.slice A1 l1.length c1] from (Kd.FK_slice_mk (Kd.V_reads' (Kd.V_mono (ok' := (fun k_ => ((P0_ k_ ∨ P1_ k_) ∨ w.heap.size ≤ k_))) (kv_ (HO1.out)) (fun k_ hk => hk))).2.1 (Kd.V_F (Kd.V_mono (ok' := (fun k_ => ((P0_ k_ ∨ P1_ k_) ∨ w.heap.size ≤ k_))) (kv_ (HO1.out)) (fun k_ hk => hk))))) (Reps.none _ _))); intro v291 w11 ho12 hb hg_ hnew_; clear hg_ hnew_; (first | rw [← Ny290.out] at ho12 | (simp only [Int.reduceToNat] at ho12; rw [← Ny290.out] at ho12)); replace HO0 := am_ (Kd.V_elder' (kv_ HO0.out) (Kd.N_base ho12) hb); replace HO1 := am_ (Kd.V_elder' (kv_ HO1.out) (Kd.N_base ho12) hb); have HO292 := am_ (Kd.N_lower ho12 (below_size (bl_))); replace HB := am_ (below_step (bl_) hb); clear hb ho12) | ((with_reducible refine gate_builtin (b := .append) (xs := #[.tmp 8, .tmp 9]) rfl ?_); at_builtin; refine Kd.N_append_rows (Kd.slice 23 k23) (w0 := w) w.heap.size rfl (.tmp 8) (.tmp 9) 26 24 (.slice none 0 0) 24 rfl Tryd.underlying26 info24 rfl (by decide) (by omega) v291 y290 l0 _ _ _ (fun k_ => ((P0_ k_ ∨ P1_ k_) ∨ w.heap.size ≤ k_)) (fun k_ => ((fun k_ => ((P0_ k_ ∨ P1_ k_) ∨ w.heap.size ≤ k_))) k_ ∧ some k_ ≠ (v291 : Value).ownBlock) rfl rfl ?aO ?aR (fun _ hk => hk) ?aF ?aB ?aS ?aL ?_; (case aR => exact (by skip; exact Kd.V_F (Kd.V_mono (ok' := (fun k_ => ((fun k_ => ((P0_ k_ ∨ P1_ k_) ∨ w.heap.size ≤ k_))) k_ ∧ some k_ ≠ (v291 : Value).ownBlock)) (HO0.out) (fun k_ hk => ⟨hk.1, hk.2⟩)))); (case aB => exact (bl_)); (case aF => exact (fun k_ hk => (.inr (Nat.le_trans (below_size (bl_)) hk)))); (case aO => exact (kn_ HO292.out)); (case aS => exact (below_size (bl_))); (case aL => have := LMc4.out; omega); intro v294 w13 ho hb hg hat; rw [← Ny293.out] at ho; replace HO0 := am_ (Kd.V_afterv (ok := (fun k_ => ((P0_ k_ ∨ P1_ k_) ∨ w.heap.size ≤ k_))) (kv_ HO0.out) hg hat); replace HO1 := am_ (Kd.V_afterv (ok := (fun k_ => ((P0_ k_ ∨ P1_ k_) ∨ w.heap.size ≤ k_))) (kv_ HO1.out) hg hat); have HO295 := am_ (ho); replace HB := am_ (hb); clear HO292; clear ho hb hg hat; obtain ⟨Ao14, co14, eo14⟩ := Kd.N_slice HO295.out; subst eo14) | ((with_reducible refine gate_callee (f := 11) rfl ?_); refine goesL_ (some 11) rfl rfl Tryd.func11 (by kernel_rfl) rfl #[.slice Ao14 y293.length co14] rfl (by (try simp only [List.map_toArray, List.map_cons, List.map_nil]); first | done | rfl | (simp only [List.length_drop, List.length_take]; rfl)) ?_; (with_reducible refine (trommelref04_Much.calls k _ _ y293 false _ ?side1 ?side2 A5.out).mono ?_); (case side1 => repeat (first | exact (Kd.N_reads' HO295.out).2.2 | (with_reducible refine Kd.C_alloc ?_ _) | (with_reducible refine Kd.C_drewN ?_ _) | (with_reducible refine Kd.C_drew ?_))); (case side2 => exact (Kd.N_reads' HO295.out).2.1); rintro e w' ⟨rfl, ⟨nd, rfl⟩⟩; refine ⟨_, rfl, ?_⟩))
   go_ret
   exact ⟨ew_, bl_⟩
 ·rw [if_neg c4] at H
  exact absurd H (by simp)

end Go.Proofs.YtcfgjaggccnoaaaDoor.PSiftPasses
