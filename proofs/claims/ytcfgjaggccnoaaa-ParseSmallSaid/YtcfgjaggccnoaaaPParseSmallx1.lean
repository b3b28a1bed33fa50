import Derived.Test.YtcfgjaggccnoaaaPParseSmallx0
namespace Go.Proofs.Ytcfgjaggccnoaaa.PParseSmall
open Go.RowKit Go.Proofs.YtcfgjaggccnoaaaW.PrintWords Go.Proofs.YtcfgjaggccnoaaaW.PrintLast Go.Proofs.YtcfgjaggccnoaaaW.PrintMore
attribute [local go_sem] max2_int min2_int max_two min_two max_three min_three max_four min_four
set_option linter.unusedVariables false
set_option maxHeartbeats 8000000
set_option linter.unusedSimpArgs false
set_option maxRecDepth 100000

def token_Blank.f (a0 : Int) : Option (Bool) := if a0 = 32 then (some true) else (if a0 = 9 then (some true) else (if a0 = 10 then (some true) else (some (a0 == 13))))
theorem token_Blank.calls (a0 : Int) (r : Bool) (w : World) (h : token_Blank.f a0 = some r) :
  Calls Try.prog 141 #[.int .u8 a0] w fun e w' => e = .returned (.bool r) ∧ Drawn0 w w' := by
 have H : (if a0 = 32 then (some true) else (if a0 = 9 then (some true) else (if a0 = 10 then (some true) else (some (a0 == 13))))) = some r := h; clear h
 by_cases c2 : a0 = 32
 ·rw [if_pos c2] at H
  have c2b0 : (a0 == 32) = true := beq_iff_eq.mpr c2; have c2b1 : (a0 != 32) = false := bne_eq_false_iff_eq.mpr c2; clear c2; obtain rfl := Option.some.inj H
  go_enter Try.func141, Try.ntmps141
  go_wp2
  go_ret
  exact ⟨rs_, by repeat (first | exact Drawn0.refl _ | apply Drawn0.step)⟩
 ·rw [if_neg c2] at H
  have c2b0 : (a0 == 32) = false := beq_eq_false_iff_ne.mpr c2; have c2b1 : (a0 != 32) = true := bne_iff_ne.mpr c2
  by_cases c3 : a0 = 9
  ·rw [if_pos c3] at H
   have c3b0 : (a0 == 9) = true := beq_iff_eq.mpr c3; have c3b1 : (a0 != 9) = false := bne_eq_false_iff_eq.mpr c3; clear c3; obtain rfl := Option.some.inj H
   go_enter Try.func141, Try.ntmps141
   go_wp2
   go_ret
   exact ⟨rs_, by repeat (first | exact Drawn0.refl _ | apply Drawn0.step)⟩
  ·rw [if_neg c3] at H
   have c3b0 : (a0 == 9) = false := beq_eq_false_iff_ne.mpr c3; have c3b1 : (a0 != 9) = true := bne_iff_ne.mpr c3
   by_cases c4 : a0 = 10
   ·rw [if_pos c4] at H
    have c4b0 : (a0 == 10) = true := beq_iff_eq.mpr c4; have c4b1 : (a0 != 10) = false := bne_eq_false_iff_eq.mpr c4; clear c4; obtain rfl := Option.some.inj H
    go_enter Try.func141, Try.ntmps141
    go_wp2
    go_ret
    exact ⟨rs_, by repeat (first | exact Drawn0.refl _ | apply Drawn0.step)⟩
   ·rw [if_neg c4] at H
    have c4b0 : (a0 == 10) = false := beq_eq_false_iff_ne.mpr c4; have c4b1 : (a0 != 10) = true := bne_iff_ne.mpr c4; obtain rfl := Option.some.inj H
    go_enter Try.func141, Try.ntmps141
    go_wp2
    go_ret
    exact ⟨rs_, by repeat (first | exact Drawn0.refl _ | apply Drawn0.step)⟩

def stringslite_HasPrefix.f (a0 : ByteArray) (a1 : ByteArray) : Option (Bool) := if (a0.size : Int) ≥ (a1.size : Int) then (if 0 ≤ (a1.size : Int) then (if (a1.size : Int) ≤ (a0.size : Int) then (some ((a0.extract 0 ((a1.size : Int) : Int).toNat).toList == a1.toList)) else (none)) else (none)) else (some false)
theorem stringslite_HasPrefix.calls (a0 : ByteArray) (a1 : ByteArray) (r : Bool) (w : World) (h : stringslite_HasPrefix.f a0 a1 = some r) :
  Calls Try.prog 166 #[.string a0, .string a1] w fun e w' => e = .returned (.bool r) ∧ Drawn0 w w' := by
 have H : (if (a0.size : Int) ≥ (a1.size : Int) then (if 0 ≤ (a1.size : Int) then (if (a1.size : Int) ≤ (a0.size : Int) then (some ((a0.extract 0 ((a1.size : Int) : Int).toNat).toList == a1.toList)) else (none)) else (none)) else (some false)) = some r := h; clear h
 by_cases c3 : (a0.size : Int) ≥ (a1.size : Int)
 ·rw [if_pos c3] at H
  have c3b0 : decide ((a1.size : Int) ≤ (a0.size : Int)) = true := decide_eq_true c3; have c3b1 : decide (a1.size ≤ a0.size) = true := decide_eq_true (Int.ofNat_le.mp c3); clear c3
  by_cases c4 : 0 ≤ (a1.size : Int)
  ·rw [if_pos c4] at H
   have c4b0 := eq_true c4; have c4b1 : decide (0 ≤ (a1.size : Int)) = true := decide_eq_true c4; clear c4
   by_cases c5 : (a1.size : Int) ≤ (a0.size : Int)
   ·rw [if_pos c5] at H
    have c5b0 := eq_true c5; have c5b1 : decide ((a1.size : Int) ≤ (a0.size : Int)) = true := decide_eq_true c5; clear c5; obtain rfl := Option.some.inj H
    go_enter Try.func166, Try.ntmps166
    go_wp2
    go_ret
    exact ⟨rs_, by repeat (first | exact Drawn0.refl _ | apply Drawn0.step)⟩
   ·rw [if_neg c5] at H
    exact absurd H (by simp)
  ·rw [if_neg c4] at H
   exact absurd H (by simp)
 ·rw [if_neg c3] at H
  have c3b0 : decide ((a1.size : Int) ≤ (a0.size : Int)) = false := decide_eq_false c3; have c3b1 : decide (a1.size ≤ a0.size) = false := decide_eq_false (fun h => c3 (Int.ofNat_le.mpr h)); clear c3; obtain rfl := Option.some.inj H
  go_enter Try.func166, Try.ntmps166
  go_wp2
  go_ret
  exact ⟨rs_, by repeat (first | exact Drawn0.refl _ | apply Drawn0.step)⟩

def strings_HasPrefix.f (a0 : ByteArray) (a1 : ByteArray) : Option (Bool) := (stringslite_HasPrefix.f a0 a1).bind fun t101 => (some t101)
theorem strings_HasPrefix.calls (a0 : ByteArray) (a1 : ByteArray) (r : Bool) (w : World) (h : strings_HasPrefix.f a0 a1 = some r) :
  Calls Try.prog 157 #[.string a0, .string a1] w fun e w' => e = .returned (.bool r) ∧ Drawn0 w w' := by
 have H : ((stringslite_HasPrefix.f a0 a1).bind fun t101 => (some t101)) = some r := h; clear h; replace H := Option.bind_eq_some_iff.mp H; obtain ⟨t101, A30, H⟩ := H; replace H : (some t101) = some r := H; have A3 := am_ A30; clear A30; obtain rfl := Option.some.inj H
 go_enter Try.func157, Try.ntmps157
 go_wp2_with (first | ((with_reducible refine gate_callee (f := 166) rfl ?_); refine goesL_ (some 7) rfl rfl Try.func166 (by kernel_rfl) rfl #[.string a0, .string a1] rfl (by (try simp only [List.map_toArray, List.map_cons, List.map_nil]); first | done | rfl | (simp only [List.length_drop, List.length_take]; rfl)) ?_; (with_reducible refine (stringslite_HasPrefix.calls a0 a1 t101 _ A3.out).mono ?_); rintro e w' ⟨rfl, ⟨nd, rfl⟩⟩; refine ⟨_, rfl, ?_⟩))
 go_ret
 exact ⟨rs_, by repeat (first | exact Drawn0.refl _ | apply Drawn0.step)⟩

mutual
def token_Sign.j0 : Nat → ByteArray → Int → Bool → Option (ByteArray)
 | 0, _, _, _ => none
 | k + 1, x0, x1, x14 => if x14 = true then (some (⟨#[]⟩ : ByteArray)) else ((some (([(⟨#[60, 62]⟩ : ByteArray), (⟨#[60, 61]⟩ : ByteArray), (⟨#[62, 61]⟩ : ByteArray)] : List ByteArray) : List ByteArray)).bind fun y102 => (token_Sign.l0 k x0 x1 y102 (y102.length : Int) 0))
def token_Sign.l0 : Nat → ByteArray → Int → List ByteArray → Int → Int → Option (ByteArray)
 | 0, _, _, _, _, _ => none
 | k + 1, x0, x1, x15, x16, x17 => if x17 < x16 then (if 0 ≤ x17 then (if x17 < (x15.length : Int) then (if 0 ≤ x1 then (if x1 ≤ (x0.size : Int) then ((strings_HasPrefix.f (x0.extract (x1 : Int).toNat x0.size) (rdOf ByteArray.empty x15 x17)).bind fun t106 => (if t106 = true then (some (rdOf ByteArray.empty x15 x17)) else (token_Sign.l0 k x0 x1 x15 x16 (wrap64 (x17 + 1))))) else (none)) else (none)) else (none)) else (none)) else (if 0 ≤ x1 then (if x1 < (x0.size : Int) then (if (bt x0 x1) = 40 then (if x1 ≤ (wrap64 (x1 + 1)) then (if (wrap64 (x1 + 1)) ≤ (x0.size : Int) then (some (x0.extract (x1 : Int).toNat ((wrap64 (x1 + 1)) : Int).toNat)) else (none)) else (none)) else (if (bt x0 x1) = 41 then (if x1 ≤ (wrap64 (x1 + 1)) then (if (wrap64 (x1 + 1)) ≤ (x0.size : Int) then (some (x0.extract (x1 : Int).toNat ((wrap64 (x1 + 1)) : Int).toNat)) else (none)) else (none)) else (if (bt x0 x1) = 44 then (if x1 ≤ (wrap64 (x1 + 1)) then (if (wrap64 (x1 + 1)) ≤ (x0.size : Int) then (some (x0.extract (x1 : Int).toNat ((wrap64 (x1 + 1)) : Int).toNat)) else (none)) else (none)) else (if (bt x0 x1) = 46 then (if x1 ≤ (wrap64 (x1 + 1)) then (if (wrap64 (x1 + 1)) ≤ (x0.size : Int) then (some (x0.extract (x1 : Int).toNat ((wrap64 (x1 + 1)) : Int).toNat)) else (none)) else (none)) else (if (bt x0 x1) = 42 then (if x1 ≤ (wrap64 (x1 + 1)) then (if (wrap64 (x1 + 1)) ≤ (x0.size : Int) then (some (x0.extract (x1 : Int).toNat ((wrap64 (x1 + 1)) : Int).toNat)) else (none)) else (none)) else (if (bt x0 x1) = 43 then (if x1 ≤ (wrap64 (x1 + 1)) then (if (wrap64 (x1 + 1)) ≤ (x0.size : Int) then (some (x0.extract (x1 : Int).toNat ((wrap64 (x1 + 1)) : Int).toNat)) else (none)) else (none)) else (if (bt x0 x1) = 45 then (if x1 ≤ (wrap64 (x1 + 1)) then (if (wrap64 (x1 + 1)) ≤ (x0.size : Int) then (some (x0.extract (x1 : Int).toNat ((wrap64 (x1 + 1)) : Int).toNat)) else (none)) else (none)) else (if (bt x0 x1) = 61 then (if x1 ≤ (wrap64 (x1 + 1)) then (if (wrap64 (x1 + 1)) ≤ (x0.size : Int) then (some (x0.extract (x1 : Int).toNat ((wrap64 (x1 + 1)) : Int).toNat)) else (none)) else (none)) else (if (bt x0 x1) = 60 then (if x1 ≤ (wrap64 (x1 + 1)) then (if (wrap64 (x1 + 1)) ≤ (x0.size : Int) then (some (x0.extract (x1 : Int).toNat ((wrap64 (x1 + 1)) : Int).toNat)) else (none)) else (none)) else (if (bt x0 x1) = 62 then (if x1 ≤ (wrap64 (x1 + 1)) then (if (wrap64 (x1 + 1)) ≤ (x0.size : Int) then (some (x0.extract (x1 : Int).toNat ((wrap64 (x1 + 1)) : Int).toNat)) else (none)) else (none)) else (some (⟨#[]⟩ : ByteArray)))))))))))) else (none)) else (none))
end
def token_Sign.f (k : Nat) (a0 : ByteArray) (a1 : Int) : Option (ByteArray) := if a1 < 0 then (token_Sign.j0 k a0 a1 true) else (token_Sign.j0 k a0 a1 (decide (a1 ≥ (a0.size : Int))))
theorem token_Sign.mono_l : ∀ k, (∀ y0 y1 y2, LeO (token_Sign.j0 k y0 y1 y2) (token_Sign.j0 (k + 1) y0 y1 y2)) ∧ (∀ y0 y1 y2 y3 y4, LeO (token_Sign.l0 k y0 y1 y2 y3 y4) (token_Sign.l0 (k + 1) y0 y1 y2 y3 y4))
 | 0 => ⟨fun _ _ _ r h => by simp [token_Sign.j0] at h, fun _ _ _ _ _ r h => by simp [token_Sign.l0] at h⟩
 | k + 1 => by
  obtain ⟨ih0, ih1⟩ := token_Sign.mono_l k; refine ⟨?_, ?_⟩
  ·intro y0 y1 y2
   unfold token_Sign.j0
   repeat' first
   | (with_reducible exact ih0 _ _ _)
   | (with_reducible exact ih1 _ _ _ _ _)
   | (with_reducible exact LeO.refl _)
   | (with_reducible exact LeO.none _)
   | (with_reducible refine LeO.ite ?_ ?_)
   | (with_reducible refine LeO.bind ?_ (fun _ => ?_))
   | exact ih0 _ _ _
   | exact ih1 _ _ _ _ _
   | exact LeO.none _
   | refine LeO.ite ?_ ?_
   | refine LeO.bind ?_ (fun _ => ?_)
  ·intro y0 y1 y2 y3 y4
   unfold token_Sign.l0
   repeat' first
   | (with_reducible exact ih0 _ _ _)
   | (with_reducible exact ih1 _ _ _ _ _)
   | (with_reducible exact LeO.refl _)
   | (with_reducible exact LeO.none _)
   | (with_reducible refine LeO.ite ?_ ?_)
   | (with_reducible refine LeO.bind ?_ (fun _ => ?_))
   | exact ih0 _ _ _
   | exact ih1 _ _ _ _ _
   | exact LeO.none _
   | refine LeO.ite ?_ ?_
   | refine LeO.bind ?_ (fun _ => ?_)
theorem token_Sign.mono : ∀ a0 a1 k, LeO (token_Sign.f k a0 a1) (token_Sign.f (k + 1) a0 a1) := by
 intro a0 a1 k; obtain ⟨ih0, ih1⟩ := token_Sign.mono_l k; unfold token_Sign.f
 repeat' first
   | (with_reducible exact ih0 _ _ _)
   | (with_reducible exact ih1 _ _ _ _ _)
   | (with_reducible exact LeO.refl _)
   | (with_reducible exact LeO.none _)
   | (with_reducible refine LeO.ite ?_ ?_)
   | (with_reducible refine LeO.bind ?_ (fun _ => ?_))
   | exact ih0 _ _ _
   | exact ih1 _ _ _ _ _
   | exact LeO.none _
   | refine LeO.ite ?_ ?_
   | refine LeO.bind ?_ (fun _ => ?_)
theorem token_Sign.calls (k : Nat) (a0 : ByteArray) (a1 : Int) (r : ByteArray) (w : World) (h : token_Sign.f k a0 a1 = some r) :
  Calls Try.prog 142 #[.string a0, .int .i64 a1] w fun e w' => e = .returned (.string r) ∧ Below w.heap.size w w' := by
 have HB := am_ (Below.refl w.heap.size w); have H : (if a1 < 0 then (token_Sign.j0 k a0 a1 true) else (token_Sign.j0 k a0 a1 (decide (a1 ≥ (a0.size : Int))))) = some r := h; clear h; have HC3 := am_ H; clear H
 go_enter Try.func142, Try.ntmps142
 go_upto_region 1 with (fail)
 go_cut [14] (fun v14 wc => ∃ (kq : Nat) (x14_2 : Bool), v14 = .bool x14_2 ∧ Aside0 (token_Sign.j0 kq a0 a1 x14_2 = some r) ∧ Aside0 (kq ≤ k) ∧ Aside0 (Below w.heap.size w wc))
 case first =>
  have H := HC3.out; clear HC3
  by_cases c4 : a1 < 0
  ·rw [if_pos c4] at H
   have c4b0 : decide (a1 < 0) = true := decide_eq_true c4; clear c4; (first | rw [c4b0] | (simp only [i64_w, i32_w]; rw [c4b0]) | skip); have H' := am_ H; clear H
   go_wp2
   go_meet
   case rel => exact ⟨_, (true), (rs_), H', ⟨by first | omega | exact Nat.le_refl _⟩, ⟨bl_⟩⟩
  ·rw [if_neg c4] at H
   have c4b0 : decide (a1 < 0) = false := decide_eq_false c4; clear c4; (first | rw [c4b0] | (simp only [i64_w, i32_w]; rw [c4b0]) | skip); have H' := am_ H; clear H
   go_wp2
   go_meet
   case rel => exact ⟨_, (decide (a1 ≥ (a0.size : Int))), (rs_), H', ⟨by first | omega | exact Nat.le_refl _⟩, ⟨bl_⟩⟩
 case rest =>
  clear HC3; (try clear c1); (try clear p2); (try clear c4); (try clear c4b0); obtain ⟨kq, x14_2, rfl, HA, HJ2, HB⟩ := hcut
  cases kq with
  | zero => exact absurd HA.out (by simp [token_Sign.j0])
  | succ kj2 =>
   have H := HA.out; clear HA; simp only [token_Sign.j0] at H
   by_cases c5 : x14_2 = true
   ·subst c5
    have H1 : (some (⟨#[]⟩ : ByteArray)) = some r := by rw [if_pos rfl] at H; exact H
    clear H; have H := H1; clear H1; obtain rfl := Option.some.inj H
    go_wp2
    go_ret
    exact ⟨ew_, bl_⟩
   ·replace c5 := Bool.eq_false_iff.mpr c5
    subst c5
    have H1 : ((some (([(⟨#[60, 62]⟩ : ByteArray), (⟨#[60, 61]⟩ : ByteArray), (⟨#[62, 61]⟩ : ByteArray)] : List ByteArray) : List ByteArray)).bind fun y102 => (token_Sign.l0 kj2 a0 a1 y102 (y102.length : Int) 0)) = some r := by rw [if_neg (show ¬ (false = true) by decide)] at H; exact H
    clear H; have H := H1; clear H1
    obtain ⟨y102, hy102⟩ : ∃ y_ : List ByteArray, y_ = (([(⟨#[60, 62]⟩ : ByteArray), (⟨#[60, 61]⟩ : ByteArray), (⟨#[62, 61]⟩ : ByteArray)] : List ByteArray)) := ⟨_, rfl⟩
    replace H : (token_Sign.l0 kj2 a0 a1 y102 (y102.length : Int) 0) = some r := by first | (rw [hy102]; with_reducible exact H) | (have H2_ := (Option.bind_some _ _).symm.trans H; rw [hy102]; with_reducible exact H2_) | (have H2_ := (Option.bind_some _ _).symm.trans H; with_reducible exact H2_) | with_reducible exact H | (rw [hy102]; exact H) | exact H
    have Ny102 := am_ hy102; clear hy102; have H' := am_ H; clear H
    go_wp2_with (first | ((with_reducible refine gate_dst (N := 15) rfl ?_); (try (refine gate_guard (by rfl) ?_; dsimp only)); refine Kd.R_lit Kd.string _ 9 ?hg (N := 15) ?hd (xs := ([(⟨#[60, 62]⟩ : ByteArray), (⟨#[60, 61]⟩ : ByteArray), (⟨#[62, 61]⟩ : ByteArray)] : List ByteArray)) (inner := [.string (⟨#[60, 62]⟩ : ByteArray), .string (⟨#[60, 61]⟩ : ByteArray), .string (⟨#[62, 61]⟩ : ByteArray)]) (ok := fun _ => True) (okp := fun _ => True) ?hr ?hp (fun _ hk => hk) trivial (Below.refl _ _) (Nat.le_refl _) (by simp) ?_; (case hd => rfl); (case hg => rfl); (case hr => first | (go_simp; done) | (go_simp; rfl)); (case hp => exact (Reps.one (show Kd.M Kd.string _ _ _ (⟨#[60, 62]⟩ : ByteArray) [.string (⟨#[60, 62]⟩ : ByteArray)] from rfl) (Reps.one (show Kd.M Kd.string _ _ _ (⟨#[60, 61]⟩ : ByteArray) [.string (⟨#[60, 61]⟩ : ByteArray)] from rfl) (Reps.one (show Kd.M Kd.string _ _ _ (⟨#[62, 61]⟩ : ByteArray) [.string (⟨#[62, 61]⟩ : ByteArray)] from rfl) (Reps.none _ _))))); intro v103 w6 ho7 hb hg_ hnew_; clear hg_ hnew_; (first | rw [← Ny102.out] at ho7 | (simp only [Int.reduceToNat] at ho7; rw [← Ny102.out] at ho7)); have HO104 := am_ (Kd.R_lower ho7 (below_size (bl_))); replace HB := am_ (below_step (bl_) hb); clear hb ho7; obtain ⟨Ao8, co8, eo8⟩ := Kd.R_slice HO104.out; subst eo8))
    go_loopg [17] kj2 (fun kq v17 w' => ∃ (x17_2 : Int), v17 = .int .i64 x17_2 ∧ Aside0 (token_Sign.l0 kq a0 a1 y102 (y102.length : Int) x17_2 = some r) ∧ Aside0 (kq ≤ kj2) ∧ Aside0 (Kd.R Kd.string 9 w' w.heap.size (fun _ => True) (.slice Ao8 y102.length co8) y102) ∧ Aside0 (Below w.heap.size w w'))
    case atStart => exact ⟨(0), (rs_), H', ⟨Nat.le_refl _⟩, ⟨kr_ HO104.out⟩, ⟨bl_⟩⟩
    case round =>
     clear H'; (try clear c1); (try clear p2); (try clear c4); (try clear c4b0); (try clear c5); (try clear p2); obtain ⟨x17_2, rfl, HA, HK2, HO_15, HB⟩ := hrel
     cases gk with
     | zero => exact absurd HA.out (by simp [token_Sign.l0])
     | succ k2 =>
      have H := HA.out; clear HA; simp only [token_Sign.l0] at H
      by_cases c9 : x17_2 < (y102.length : Int)
      ·rw [if_pos c9] at H
       have c9b0 : decide (x17_2 < (y102.length : Int)) = true := decide_eq_true c9; clear c9
       by_cases c10 : 0 ≤ x17_2
       ·rw [if_pos c10] at H
        have c10b0 : decide (0 ≤ x17_2) = true := decide_eq_true c10; clear c10
        by_cases c11 : x17_2 < (y102.length : Int)
        ·rw [if_pos c11] at H
         have c11b0 : decide (x17_2 < (y102.length : Int)) = true := decide_eq_true c11; clear c11
         by_cases c12 : 0 ≤ a1
         ·rw [if_pos c12] at H
          have c12b0 := eq_true c12; have c12b1 : decide (0 ≤ a1) = true := decide_eq_true c12; clear c12
          by_cases c13 : a1 ≤ (a0.size : Int)
          ·rw [if_pos c13] at H
           have c13b0 := eq_true c13; have c13b1 : decide (a1 ≤ (a0.size : Int)) = true := decide_eq_true c13; clear c13; replace H := Option.bind_eq_some_iff.mp H; obtain ⟨t106, A140, H⟩ := H; replace H : (if t106 = true then (some (rdOf ByteArray.empty y102 x17_2)) else (token_Sign.l0 k2 a0 a1 y102 (y102.length : Int) (wrap64 (x17_2 + 1)))) = some r := H; have A14 := am_ A140; clear A140
           by_cases c15 : t106 = true
           ·subst c15
            have H1 : (some (rdOf ByteArray.empty y102 x17_2)) = some r := by rw [if_pos rfl] at H; exact H
            clear H; have H := H1; clear H1; obtain rfl := Option.some.inj H; have p105 : 0 ≤ (x17_2 : Int) := of_decide_eq_true (as_); have q105 : x17_2 < (y102.length : Int) := of_decide_eq_true (as_); obtain ⟨ad105, e105, hx105_0⟩ := Kd.at_string (Kd.R_reads' HO_15.out).2.2 x17_2 p105 q105; cases e105; replace p105 := eq_true p105; replace q105 := eq_true q105
            go_wp2_with (first | ((with_reducible refine gate_callee (f := 157) rfl ?_); refine goesL_ (some 25) rfl rfl Try.func157 (by kernel_rfl) rfl #[.string (a0.extract (a1 : Int).toNat a0.size), .string (rdOf ByteArray.empty y102 x17_2)] rfl (by (try simp only [List.map_toArray, List.map_cons, List.map_nil]); first | done | rfl | (simp only [List.length_drop, List.length_take]; rfl)) ?_; (with_reducible refine (strings_HasPrefix.calls (a0.extract (a1 : Int).toNat a0.size) (rdOf ByteArray.empty y102 x17_2) true _ A14.out).mono ?_); rintro e w' ⟨rfl, ⟨nd, rfl⟩⟩; refine ⟨_, rfl, ?_⟩))
            go_ret
            exact ⟨ew_, bl_⟩
           ·replace c15 := Bool.eq_false_iff.mpr c15
            subst c15
            have H1 : (token_Sign.l0 k2 a0 a1 y102 (y102.length : Int) (wrap64 (x17_2 + 1))) = some r := by rw [if_neg (show ¬ (false = true) by decide)] at H; exact H
            clear H; have H := H1; clear H1; have H' := am_ H; clear H; have p105 : 0 ≤ (x17_2 : Int) := of_decide_eq_true (as_); have q105 : x17_2 < (y102.length : Int) := of_decide_eq_true (as_); obtain ⟨ad105, e105, hx105_0⟩ := Kd.at_string (Kd.R_reads' HO_15.out).2.2 x17_2 p105 q105; cases e105; replace p105 := eq_true p105; replace q105 := eq_true q105
            go_wp2_with (first | ((with_reducible refine gate_callee (f := 157) rfl ?_); refine goesL_ (some 25) rfl rfl Try.func157 (by kernel_rfl) rfl #[.string (a0.extract (a1 : Int).toNat a0.size), .string (rdOf ByteArray.empty y102 x17_2)] rfl (by (try simp only [List.map_toArray, List.map_cons, List.map_nil]); first | done | rfl | (simp only [List.length_drop, List.length_take]; rfl)) ?_; (with_reducible refine (strings_HasPrefix.calls (a0.extract (a1 : Int).toNat a0.size) (rdOf ByteArray.empty y102 x17_2) false _ A14.out).mono ?_); rintro e w' ⟨rfl, ⟨nd, rfl⟩⟩; refine ⟨_, rfl, ?_⟩))
            go_roundg k2
            case measure => have := HJ2.out; have := HK2.out; omega
            case rel => exact ⟨(wrap64 (x17_2 + 1)), (rs_), H', ⟨by have := HJ2.out; have := HK2.out; omega⟩, ⟨kr_ HO_15.out⟩, ⟨bl_⟩⟩
          ·rw [if_neg c13] at H
           exact absurd H (by simp)
         ·rw [if_neg c12] at H
          exact absurd H (by simp)
        ·rw [if_neg c11] at H
         exact absurd H (by simp)
       ·rw [if_neg c10] at H
        exact absurd H (by simp)
      ·rw [if_neg c9] at H
       have c9b0 : decide (x17_2 < (y102.length : Int)) = false := decide_eq_false c9; clear c9
       by_cases c16 : 0 ≤ a1
       ·rw [if_pos c16] at H
        have c16b0 : decide (0 ≤ a1) = true := decide_eq_true c16; clear c16
        by_cases c17 : a1 < (a0.size : Int)
        ·rw [if_pos c17] at H
         have c17b0 : decide (a1 < (a0.size : Int)) = true := decide_eq_true c17; clear c17
         by_cases c19 : (bt a0 a1) = 40
         ·rw [if_pos c19] at H
          have c19b0 : ((bt a0 a1) == 40) = true := beq_iff_eq.mpr c19; have c19b1 : ((bt a0 a1) != 40) = false := bne_eq_false_iff_eq.mpr c19; clear c19; have c20b0 := eq_true (of_decide_eq_true (as_) : 0 ≤ a1)
          by_cases c21 : a1 ≤ (wrap64 (a1 + 1))
          ·rw [if_pos c21] at H
           have c21b0 := eq_true c21; have c21b1 : decide (a1 ≤ (wrap64 (a1 + 1))) = true := decide_eq_true c21
           by_cases c22 : (wrap64 (a1 + 1)) ≤ (a0.size : Int)
           ·rw [if_pos c22] at H
            have c22b0 := eq_true c22; have c22b1 : decide ((wrap64 (a1 + 1)) ≤ (a0.size : Int)) = true := decide_eq_true c22; obtain rfl := Option.some.inj H; have p18 : 0 ≤ (a1 : Int) := of_decide_eq_true (as_); have q18 : a1 < (a0.size : Int) := of_decide_eq_true (as_); have hx18 := bt_at a0 a1; replace p18 := eq_true p18; replace q18 := eq_true q18
            go_wp2
            go_ret
            exact ⟨ew_, bl_⟩
           ·rw [if_neg c22] at H
            exact absurd H (by simp)
          ·rw [if_neg c21] at H
           exact absurd H (by simp)
         ·rw [if_neg c19] at H
          have c19b0 : ((bt a0 a1) == 40) = false := beq_eq_false_iff_ne.mpr c19; have c19b1 : ((bt a0 a1) != 40) = true := bne_iff_ne.mpr c19
          by_cases c23 : (bt a0 a1) = 41
          ·rw [if_pos c23] at H
           have c23b0 : ((bt a0 a1) == 41) = true := beq_iff_eq.mpr c23; have c23b1 : ((bt a0 a1) != 41) = false := bne_eq_false_iff_eq.mpr c23; clear c23; have c24b0 := eq_true (of_decide_eq_true (as_) : 0 ≤ a1)
           by_cases c25 : a1 ≤ (wrap64 (a1 + 1))
           ·rw [if_pos c25] at H
            have c25b0 := eq_true c25; have c25b1 : decide (a1 ≤ (wrap64 (a1 + 1))) = true := decide_eq_true c25
            by_cases c26 : (wrap64 (a1 + 1)) ≤ (a0.size : Int)
            ·rw [if_pos c26] at H
             have c26b0 := eq_true c26; have c26b1 : decide ((wrap64 (a1 + 1)) ≤ (a0.size : Int)) = true := decide_eq_true c26; obtain rfl := Option.some.inj H; have p18 : 0 ≤ (a1 : Int) := of_decide_eq_true (as_); have q18 : a1 < (a0.size : Int) := of_decide_eq_true (as_); have hx18 := bt_at a0 a1; replace p18 := eq_true p18; replace q18 := eq_true q18
             go_wp2
             go_ret
             exact ⟨ew_, bl_⟩
            ·rw [if_neg c26] at H
             exact absurd H (by simp)
           ·rw [if_neg c25] at H
            exact absurd H (by simp)
          ·rw [if_neg c23] at H
           have c23b0 : ((bt a0 a1) == 41) = false := beq_eq_false_iff_ne.mpr c23; have c23b1 : ((bt a0 a1) != 41) = true := bne_iff_ne.mpr c23
           by_cases c27 : (bt a0 a1) = 44
           ·rw [if_pos c27] at H
            have c27b0 : ((bt a0 a1) == 44) = true := beq_iff_eq.mpr c27; have c27b1 : ((bt a0 a1) != 44) = false := bne_eq_false_iff_eq.mpr c27; clear c27; have c28b0 := eq_true (of_decide_eq_true (as_) : 0 ≤ a1)
            by_cases c29 : a1 ≤ (wrap64 (a1 + 1))
            ·rw [if_pos c29] at H
             have c29b0 := eq_true c29; have c29b1 : decide (a1 ≤ (wrap64 (a1 + 1))) = true := decide_eq_true c29
             by_cases c30 : (wrap64 (a1 + 1)) ≤ (a0.size : Int)
             ·rw [if_pos c30] at H
              have c30b0 := eq_true c30; have c30b1 : decide ((wrap64 (a1 + 1)) ≤ (a0.size : Int)) = true := decide_eq_true c30; obtain rfl := Option.some.inj H; have p18 : 0 ≤ (a1 : Int) := of_decide_eq_true (as_); have q18 : a1 < (a0.size : Int) := of_decide_eq_true (as_); have hx18 := bt_at a0 a1; replace p18 := eq_true p18; replace q18 := eq_true q18
              go_wp2
              go_ret
              exact ⟨ew_, bl_⟩
             ·rw [if_neg c30] at H
              exact absurd H (by simp)
            ·rw [if_neg c29] at H
             exact absurd H (by simp)
           ·rw [if_neg c27] at H
            have c27b0 : ((bt a0 a1) == 44) = false := beq_eq_false_iff_ne.mpr c27; have c27b1 : ((bt a0 a1) != 44) = true := bne_iff_ne.mpr c27
            by_cases c31 : (bt a0 a1) = 46
            ·rw [if_pos c31] at H
             have c31b0 : ((bt a0 a1) == 46) = true := beq_iff_eq.mpr c31; have c31b1 : ((bt a0 a1) != 46) = false := bne_eq_false_iff_eq.mpr c31; clear c31; have c32b0 := eq_true (of_decide_eq_true (as_) : 0 ≤ a1)
             by_cases c33 : a1 ≤ (wrap64 (a1 + 1))
             ·rw [if_pos c33] at H
              have c33b0 := eq_true c33; have c33b1 : decide (a1 ≤ (wrap64 (a1 + 1))) = true := decide_eq_true c33
              by_cases c34 : (wrap64 (a1 + 1)) ≤ (a0.size : Int)
              ·rw [if_pos c34] at H
               have c34b0 := eq_true c34; have c34b1 : decide ((wrap64 (a1 + 1)) ≤ (a0.size : Int)) = true := decide_eq_true c34; obtain rfl := Option.some.inj H; have p18 : 0 ≤ (a1 : Int) := of_decide_eq_true (as_); have q18 : a1 < (a0.size : Int) := of_decide_eq_true (as_); have hx18 := bt_at a0 a1; replace p18 := eq_true p18; replace q18 := eq_true q18
               go_wp2
               go_ret
               exact ⟨ew_, bl_⟩
              ·rw [if_neg c34] at H
               exact absurd H (by simp)
             ·rw [if_neg c33] at H
              exact absurd H (by simp)
            ·rw [if_neg c31] at H
             have c31b0 : ((bt a0 a1) == 46) = false := beq_eq_false_iff_ne.mpr c31; have c31b1 : ((bt a0 a1) != 46) = true := bne_iff_ne.mpr c31
             by_cases c35 : (bt a0 a1) = 42
             ·rw [if_pos c35] at H
              have c35b0 : ((bt a0 a1) == 42) = true := beq_iff_eq.mpr c35; have c35b1 : ((bt a0 a1) != 42) = false := bne_eq_false_iff_eq.mpr c35; clear c35; have c36b0 := eq_true (of_decide_eq_true (as_) : 0 ≤ a1)
              by_cases c37 : a1 ≤ (wrap64 (a1 + 1))
              ·rw [if_pos c37] at H
               have c37b0 := eq_true c37; have c37b1 : decide (a1 ≤ (wrap64 (a1 + 1))) = true := decide_eq_true c37
               by_cases c38 : (wrap64 (a1 + 1)) ≤ (a0.size : Int)
               ·rw [if_pos c38] at H
                have c38b0 := eq_true c38; have c38b1 : decide ((wrap64 (a1 + 1)) ≤ (a0.size : Int)) = true := decide_eq_true c38; obtain rfl := Option.some.inj H; have p18 : 0 ≤ (a1 : Int) := of_decide_eq_true (as_); have q18 : a1 < (a0.size : Int) := of_decide_eq_true (as_); have hx18 := bt_at a0 a1; replace p18 := eq_true p18; replace q18 := eq_true q18
                go_wp2
                go_ret
                exact ⟨ew_, bl_⟩
               ·rw [if_neg c38] at H
                exact absurd H (by simp)
              ·rw [if_neg c37] at H
               exact absurd H (by simp)
             ·rw [if_neg c35] at H
              have c35b0 : ((bt a0 a1) == 42) = false := beq_eq_false_iff_ne.mpr c35; have c35b1 : ((bt a0 a1) != 42) = true := bne_iff_ne.mpr c35
              by_cases c39 : (bt a0 a1) = 43
              ·rw [if_pos c39] at H
               have c39b0 : ((bt a0 a1) == 43) = true := beq_iff_eq.mpr c39; have c39b1 : ((bt a0 a1) != 43) = false := bne_eq_false_iff_eq.mpr c39; clear c39; have c40b0 := eq_true (of_decide_eq_true (as_) : 0 ≤ a1)
               by_cases c41 : a1 ≤ (wrap64 (a1 + 1))
               ·rw [if_pos c41] at H
                have c41b0 := eq_true c41; have c41b1 : decide (a1 ≤ (wrap64 (a1 + 1))) = true := decide_eq_true c41
                by_cases c42 : (wrap64 (a1 + 1)) ≤ (a0.size : Int)
                ·rw [if_pos c42] at H
                 have c42b0 := eq_true c42; have c42b1 : decide ((wrap64 (a1 + 1)) ≤ (a0.size : Int)) = true := decide_eq_true c42; obtain rfl := Option.some.inj H; have p18 : 0 ≤ (a1 : Int) := of_decide_eq_true (as_); have q18 : a1 < (a0.size : Int) := of_decide_eq_true (as_); have hx18 := bt_at a0 a1; replace p18 := eq_true p18; replace q18 := eq_true q18
                 go_wp2
                 go_ret
                 exact ⟨ew_, bl_⟩
                ·rw [if_neg c42] at H
                 exact absurd H (by simp)
               ·rw [if_neg c41] at H
                exact absurd H (by simp)
              ·rw [if_neg c39] at H
               have c39b0 : ((bt a0 a1) == 43) = false := beq_eq_false_iff_ne.mpr c39; have c39b1 : ((bt a0 a1) != 43) = true := bne_iff_ne.mpr c39
               by_cases c43 : (bt a0 a1) = 45
               ·rw [if_pos c43] at H
                have c43b0 : ((bt a0 a1) == 45) = true := beq_iff_eq.mpr c43; have c43b1 : ((bt a0 a1) != 45) = false := bne_eq_false_iff_eq.mpr c43; clear c43; have c44b0 := eq_true (of_decide_eq_true (as_) : 0 ≤ a1)
                by_cases c45 : a1 ≤ (wrap64 (a1 + 1))
                ·rw [if_pos c45] at H
                 have c45b0 := eq_true c45; have c45b1 : decide (a1 ≤ (wrap64 (a1 + 1))) = true := decide_eq_true c45
                 by_cases c46 : (wrap64 (a1 + 1)) ≤ (a0.size : Int)
                 ·rw [if_pos c46] at H
                  have c46b0 := eq_true c46; have c46b1 : decide ((wrap64 (a1 + 1)) ≤ (a0.size : Int)) = true := decide_eq_true c46; obtain rfl := Option.some.inj H; have p18 : 0 ≤ (a1 : Int) := of_decide_eq_true (as_); have q18 : a1 < (a0.size : Int) := of_decide_eq_true (as_); have hx18 := bt_at a0 a1; replace p18 := eq_true p18; replace q18 := eq_true q18
                  go_wp2
                  go_ret
                  exact ⟨ew_, bl_⟩
                 ·rw [if_neg c46] at H
                  exact absurd H (by simp)
                ·rw [if_neg c45] at H
                 exact absurd H (by simp)
               ·rw [if_neg c43] at H
                have c43b0 : ((bt a0 a1) == 45) = false := beq_eq_false_iff_ne.mpr c43; have c43b1 : ((bt a0 a1) != 45) = true := bne_iff_ne.mpr c43
                by_cases c47 : (bt a0 a1) = 61
                ·rw [if_pos c47] at H
                 have c47b0 : ((bt a0 a1) == 61) = true := beq_iff_eq.mpr c47; have c47b1 : ((bt a0 a1) != 61) = false := bne_eq_false_iff_eq.mpr c47; clear c47; have c48b0 := eq_true (of_decide_eq_true (as_) : 0 ≤ a1)
                 by_cases c49 : a1 ≤ (wrap64 (a1 + 1))
                 ·rw [if_pos c49] at H
                  have c49b0 := eq_true c49; have c49b1 : decide (a1 ≤ (wrap64 (a1 + 1))) = true := decide_eq_true c49
                  by_cases c50 : (wrap64 (a1 + 1)) ≤ (a0.size : Int)
                  ·rw [if_pos c50] at H
                   have c50b0 := eq_true c50; have c50b1 : decide ((wrap64 (a1 + 1)) ≤ (a0.size : Int)) = true := decide_eq_true c50; obtain rfl := Option.some.inj H; have p18 : 0 ≤ (a1 : Int) := of_decide_eq_true (as_); have q18 : a1 < (a0.size : Int) := of_decide_eq_true (as_); have hx18 := bt_at a0 a1; replace p18 := eq_true p18; replace q18 := eq_true q18
                   go_wp2
                   go_ret
                   exact ⟨ew_, bl_⟩
                  ·rw [if_neg c50] at H
                   exact absurd H (by simp)
                 ·rw [if_neg c49] at H
                  exact absurd H (by simp)
                ·rw [if_neg c47] at H
                 have c47b0 : ((bt a0 a1) == 61) = false := beq_eq_false_iff_ne.mpr c47; have c47b1 : ((bt a0 a1) != 61) = true := bne_iff_ne.mpr c47
                 by_cases c51 : (bt a0 a1) = 60
                 ·rw [if_pos c51] at H
                  have c51b0 : ((bt a0 a1) == 60) = true := beq_iff_eq.mpr c51; have c51b1 : ((bt a0 a1) != 60) = false := bne_eq_false_iff_eq.mpr c51; clear c51; have c52b0 := eq_true (of_decide_eq_true (as_) : 0 ≤ a1)
                  by_cases c53 : a1 ≤ (wrap64 (a1 + 1))
                  ·rw [if_pos c53] at H
                   have c53b0 := eq_true c53; have c53b1 : decide (a1 ≤ (wrap64 (a1 + 1))) = true := decide_eq_true c53
                   by_cases c54 : (wrap64 (a1 + 1)) ≤ (a0.size : Int)
                   ·rw [if_pos c54] at H
                    have c54b0 := eq_true c54; have c54b1 : decide ((wrap64 (a1 + 1)) ≤ (a0.size : Int)) = true := decide_eq_true c54; obtain rfl := Option.some.inj H; have p18 : 0 ≤ (a1 : Int) := of_decide_eq_true (as_); have q18 : a1 < (a0.size : Int) := of_decide_eq_true (as_); have hx18 := bt_at a0 a1; replace p18 := eq_true p18; replace q18 := eq_true q18
                    go_wp2
                    go_ret
                    exact ⟨ew_, bl_⟩
                   ·rw [if_neg c54] at H
                    exact absurd H (by simp)
                  ·rw [if_neg c53] at H
                   exact absurd H (by simp)
                 ·rw [if_neg c51] at H
                  have c51b0 : ((bt a0 a1) == 60) = false := beq_eq_false_iff_ne.mpr c51; have c51b1 : ((bt a0 a1) != 60) = true := bne_iff_ne.mpr c51
                  by_cases c55 : (bt a0 a1) = 62
                  ·rw [if_pos c55] at H
                   have c55b0 : ((bt a0 a1) == 62) = true := beq_iff_eq.mpr c55; have c55b1 : ((bt a0 a1) != 62) = false := bne_eq_false_iff_eq.mpr c55; clear c55; have c56b0 := eq_true (of_decide_eq_true (as_) : 0 ≤ a1)
                   by_cases c57 : a1 ≤ (wrap64 (a1 + 1))
                   ·rw [if_pos c57] at H
                    have c57b0 := eq_true c57; have c57b1 : decide (a1 ≤ (wrap64 (a1 + 1))) = true := decide_eq_true c57
                    by_cases c58 : (wrap64 (a1 + 1)) ≤ (a0.size : Int)
                    ·rw [if_pos c58] at H
                     have c58b0 := eq_true c58; have c58b1 : decide ((wrap64 (a1 + 1)) ≤ (a0.size : Int)) = true := decide_eq_true c58; obtain rfl := Option.some.inj H; have p18 : 0 ≤ (a1 : Int) := of_decide_eq_true (as_); have q18 : a1 < (a0.size : Int) := of_decide_eq_true (as_); have hx18 := bt_at a0 a1; replace p18 := eq_true p18; replace q18 := eq_true q18
                     go_wp2
                     go_ret
                     exact ⟨ew_, bl_⟩
                    ·rw [if_neg c58] at H
                     exact absurd H (by simp)
                   ·rw [if_neg c57] at H
                    exact absurd H (by simp)
                  ·rw [if_neg c55] at H
                   have c55b0 : ((bt a0 a1) == 62) = false := beq_eq_false_iff_ne.mpr c55; have c55b1 : ((bt a0 a1) != 62) = true := bne_iff_ne.mpr c55; obtain rfl := Option.some.inj H; have p18 : 0 ≤ (a1 : Int) := of_decide_eq_true (as_); have q18 : a1 < (a0.size : Int) := of_decide_eq_true (as_); have hx18 := bt_at a0 a1; replace p18 := eq_true p18; replace q18 := eq_true q18
                   go_wp2
                   go_ret
                   exact ⟨ew_, bl_⟩
        ·rw [if_neg c17] at H
         exact absurd H (by simp)
       ·rw [if_neg c16] at H
        exact absurd H (by simp)

def token_letter.f (a0 : Int) : Option (Bool) := if a0 ≥ 97 then (if a0 ≤ 122 then (some true) else (some (a0 == 95))) else (some (a0 == 95))
theorem token_letter.calls (a0 : Int) (r : Bool) (w : World) (h : token_letter.f a0 = some r) :
  Calls Try.prog 143 #[.int .u8 a0] w fun e w' => e = .returned (.bool r) ∧ Drawn0 w w' := by
 have H : (if a0 ≥ 97 then (if a0 ≤ 122 then (some true) else (some (a0 == 95))) else (some (a0 == 95))) = some r := h; clear h
 by_cases c2 : a0 ≥ 97
 ·rw [if_pos c2] at H
  have c2b0 : decide (97 ≤ a0) = true := decide_eq_true c2; clear c2
  by_cases c3 : a0 ≤ 122
  ·rw [if_pos c3] at H
   have c3b0 : decide (a0 ≤ 122) = true := decide_eq_true c3; clear c3; obtain rfl := Option.some.inj H
   go_enter Try.func143, Try.ntmps143
   go_wp2
   go_ret
   exact ⟨rs_, by repeat (first | exact Drawn0.refl _ | apply Drawn0.step)⟩
  ·rw [if_neg c3] at H
   have c3b0 : decide (a0 ≤ 122) = false := decide_eq_false c3; clear c3; obtain rfl := Option.some.inj H
   go_enter Try.func143, Try.ntmps143
   go_wp2
   go_ret
   exact ⟨rs_, by repeat (first | exact Drawn0.refl _ | apply Drawn0.step)⟩
 ·rw [if_neg c2] at H
  have c2b0 : decide (97 ≤ a0) = false := decide_eq_false c2; clear c2; obtain rfl := Option.some.inj H
  go_enter Try.func143, Try.ntmps143
  go_wp2
  go_ret
  exact ⟨rs_, by repeat (first | exact Drawn0.refl _ | apply Drawn0.step)⟩

def token_digit.f (a0 : Int) : Option (Bool) := if a0 ≥ 48 then (some (decide (a0 ≤ 57))) else (some false)
theorem token_digit.calls (a0 : Int) (r : Bool) (w : World) (h : token_digit.f a0 = some r) :
  Calls Try.prog 145 #[.int .u8 a0] w fun e w' => e = .returned (.bool r) ∧ Drawn0 w w' := by
 have H : (if a0 ≥ 48 then (some (decide (a0 ≤ 57))) else (some false)) = some r := h; clear h
 by_cases c2 : a0 ≥ 48
 ·rw [if_pos c2] at H
  have c2b0 : decide (48 ≤ a0) = true := decide_eq_true c2; clear c2; obtain rfl := Option.some.inj H
  go_enter Try.func145, Try.ntmps145
  go_wp2
  go_ret
  exact ⟨rs_, by repeat (first | exact Drawn0.refl _ | apply Drawn0.step)⟩
 ·rw [if_neg c2] at H
  have c2b0 : decide (48 ≤ a0) = false := decide_eq_false c2; clear c2; obtain rfl := Option.some.inj H
  go_enter Try.func145, Try.ntmps145
  go_wp2
  go_ret
  exact ⟨rs_, by repeat (first | exact Drawn0.refl _ | apply Drawn0.step)⟩

end Go.Proofs.Ytcfgjaggccnoaaa.PParseSmall
