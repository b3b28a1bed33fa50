import Derived.Test.YtcfgjaggccnoaaaHpn
import Derived.Defers
import Derived.Deep.LoopGhost
namespace Go.Proofs.Ytcfgjaggccnoaaa.PParseSmall
open Go.RowKit Go.Proofs.YtcfgjaggccnoaaaW.PrintWords Go.Proofs.YtcfgjaggccnoaaaW.PrintLast Go.Proofs.YtcfgjaggccnoaaaW.PrintMore
attribute [local go_sem] max2_int min2_int max_two min_two max_three min_three max_four min_four
set_option linter.unusedVariables false
set_option linter.unusedSimpArgs false
set_option maxRecDepth 100000
set_option maxHeartbeats 4000000
/-! the grammar, whole -/
theorem not_ok (k : Nat) (hN : GOK k .not) (hT : GOK k .test) : GOK (k + 1) .not := by
  intro w g A c l i d e r h hr
  simp only [pr] at hr
  change Calls Try.prog 124 _ _ _
  cases g1 : isP l i e wNot with
  | false =>
    rw [g1, if_neg (by decide)] at hr
    exact not_no hT h g1 hr
  | true =>
    rw [g1, if_pos rfl] at hr
    by_cases hd : 0 ≤ d ∧ d ≤ 100
    · rw [if_pos hd] at hr
      obtain ⟨r1, hr1, hr⟩ := Option.bind_eq_some_iff.1 hr
      by_cases hq : 0 ≤ r1.d ∧ r1.d ≤ 200
      · rw [if_pos hq] at hr
        obtain rfl := Option.some.inj hr
        exact not_yes hN h g1 hd.1 hd.2 hq.1 hq.2 hr1
      · rw [if_neg hq] at hr
        exact absurd hr (by simp)
    · rw [if_neg hd] at hr
      exact absurd hr (by simp)
theorem gok (k : Nat) : ∀ j, j ≤ k → ∀ p, GOK j p := by
  induction k with
  | zero =>
    intro j hj p w g A c l i d e r h hr
    obtain rfl : j = 0 := by omega
    simp only [pr] at hr
    exact absurd hr (by simp)
  | succ k ih =>
    intro j hj p
    rcases Nat.lt_or_ge j (k + 1) with h | h
    · exact ih j (by omega) p
    · obtain rfl : j = k + 1 := by omega
      cases p with
      | or => exact or_ok k fun j hj => ih j hj _
      | and => exact and_ok k fun j hj => ih j hj _
      | not => exact not_ok k (ih k (Nat.le_refl k) _) (ih k (Nat.le_refl k) _)
      | test => exact test_ok k (ih k (Nat.le_refl k) _)
      | sum => exact sum_ok k fun j hj => ih j hj _
      | prod => exact prod_ok k fun j hj => ih j hj _
      | atom => exact atom_ok k (ih k (Nat.le_refl k) _)
theorem GOK.all (k : Nat) (p : Gr) : GOK k p := gok k k (Nat.le_refl k) p
/-! end -/
def enE (l : List S91) (i e : Int) : Int := if e = 0 ∧ (tokP l i e).f0 ≠ 0 then 1 else e
theorem end_st {w : World} {g : Nat} {A : Option Addr} {c : Nat} {l : List S91} {i d e : Int} (h : St w g A c l i d e) :
    Calls Try.prog 42 #[.pointer (some ⟨g, 0, none⟩)] w fun r w' => r = .returned (.tuple #[]) ∧ St w' g A c l i d (enE l i e) ∧ Chg g w w' := by
  unfold enE
  by_cases he : e = 0
  · subst he
    by_cases hk : (tokP l i 0).f0 = 0
    · rw [if_neg (fun q => q.2 hk)]
      exact (end_ok h.ps h.tk.now h.i0 hk).mono fun r w' ⟨a, b, k⟩ => ⟨a, h.go k b h.i0 h.i1, k⟩
    · rw [if_pos ⟨rfl, hk⟩]
      exact (end_no h.ps h.tk.now h.i0 hk).mono fun r w' ⟨a, b, k⟩ => ⟨a, h.go k b h.i0 h.i1, k⟩
  · rw [if_neg (fun q => he q.1)]
    exact (end_err h.ps he).mono fun r w' ⟨a, b, k⟩ => ⟨a, h.go k b h.i0 h.i1, k⟩
/-! begin -/
theorem new_blk (w : World) (o : Obj) : (w.alloc o).heap[w.heap.size]? = some o := Array.getElem?_push_size
theorem begin_any (k : Nat) (s : ByteArray) (l : List S91) (e : Int) (w : World) (hl : l.length ≤ 1000000) (h : token_All.f k s = some (l, e)) :
    Calls Try.prog 40 #[.string s] w fun r w' => ∃ (g : Nat) (A : Option Addr) (c : Nat), r = .returned (.pointer (some ⟨g, 0, none⟩)) ∧ St w' g A c l 0 0 e ∧ Below w.heap.size w w' ∧ w.heap.size ≤ g := by
  have HA := Lib.hid h; clear h
  go_enter Try.func40, Try.ntmps40
  go_wp2_with (first
    | ((with_reducible refine gate_callee (f := 78) rfl ?_); refine goesL_ (some 7) rfl rfl Try.func78 (by kernel_rfl) rfl #[.string s] rfl (by (try simp only [List.map_toArray, List.map_cons, List.map_nil]); first | done | rfl) ?_; refine (token_All.calls k s l e w HA.out).mono ?_; rintro r' w1 ⟨v, rfl, hr, hb⟩; refine ⟨_, rfl, ?_⟩; simp only [Act.put, sa_, sz_, ss_]; obtain ⟨A, c, rfl, hc, hC⟩ := Kd.R_reads hr; have HC := Lib.hid hC; have HB := Lib.hid hb; clear hr hb hC))
  go_ret
  exact ⟨w1.heap.size, A, c, rfl, ⟨new_blk w1 _, ⟨w1, HC.out, below_alloc (Below.refl _ _) _, Nat.le_refl _⟩, Int.le_refl 0, Int.natCast_nonneg _, hl⟩, below_alloc HB.out _, below_size HB.out⟩
/-! Expr -/
def zx27 : S27 := ⟨0, ⟨#[]⟩, ⟨#[]⟩, 0, 0, ⟨0, 0, ⟨#[]⟩⟩, []⟩
def Ends (w : World) (x : S27) (e : Int) (r : Ending) (w' : World) : Prop := ∃ vA vc, r = .returned (.tuple #[exV x vA vc, .int .i64 e]) ∧ Tr w' (fun k => w.heap.size ≤ k) x vA vc ∧ Below w.heap.size w w'
structure ES (w0 : World) (g g2 g5 : Nat) (w : World) (x : S27) (vA : Option Addr) (vc : Nat) : Prop where
  b2 : w.heap[g2]? = some (.cells #[.int .i64 0, .string ⟨#[]⟩, .string ⟨#[]⟩, .int .i64 0, .int .i64 0, .int .i64 0, .int .i64 0, .string ⟨#[]⟩, .slice none 0 0] 27 (0, 0))
  b5 : w.heap[g5]? = some (.cells (cl27 x vA vc) 27 (0, 0))
  tr : Tr w (fun k => w0.heap.size ≤ k ∧ k ≠ g2) x vA vc
  bl : Below w0.heap.size w0 w
  h2 : w0.heap.size ≤ g2
theorem ES.mk' {w w1 w2 w3 w4 w6 : World} {g g2 g5 vc : Nat} {vA : Option Addr} {x : S27} {o0 o1 o2 o3 o4 o5 o6 o7 o8 : Value} (b2 : w1.heap[g2]? = some (.cells #[.int .i64 0, .string ⟨#[]⟩, .string ⟨#[]⟩, .int .i64 0, .int .i64 0, .int .i64 0, .int .i64 0, .string ⟨#[]⟩, .slice none 0 0] 27 (0, 0))) (l1 : Below w.heap.size w w1) (h2 : w.heap.size ≤ g2) (l2 : Below w1.heap.size w1 w2) (hg : w1.heap.size ≤ g) (hl : g < w2.heap.size) (c3 : Chg g w2 w3) (t3 : Tr w3 (fun k => w2.heap.size ≤ k) x vA vc)
    (l4 : Below w3.heap.size w3 w4) (h5 : w3.heap.size ≤ g5) (b5 : w4.heap[g5]? = some (.cells #[o0, o1, o2, o3, o4, o5, o6, o7, o8] 27 (0, 0))) (c6 : Chg g (((((((((w4.setCell ⟨g5, 0, none⟩ (.int .i64 x.f0)).setCell ⟨g5, 1, none⟩ (.string x.f1)).setCell ⟨g5, 2, none⟩ (.string x.f2)).setCell ⟨g5, 3, none⟩ (.int .i64 x.f3)).setCell ⟨g5, 4, none⟩ (.int .i64 x.f4)).setCell ⟨g5, 5, none⟩ (.int .i64 x.f5.f0)).setCell ⟨g5, 6, none⟩ (.int .i64 x.f5.f1)).setCell ⟨g5, 7, none⟩ (.string x.f5.f2)).setCell ⟨g5, 8, none⟩ (.slice vA x.f6.length vc)) w6) : ES w g g2 g5 w6 x vA vc := by
  have n2 := blk_lt b2; have s1 := below_size l1; have s2 := below_size l2; have s3 := c3.size; have s4 := below_size l4
  refine ⟨c6.box (chg9_.box (blk_below (c3.box (blk_below b2 l2) (by omega)) l4) (by omega)) (by omega), c6.box (put9_ b5) (by omega), ?_, ?_, h2⟩
  · have t4 := ((t3.mono fun q hl hq => (⟨by omega, by omega, by omega, by omega⟩ : w.heap.size ≤ q ∧ q ≠ g2 ∧ q ≠ g5 ∧ q ≠ g)).below l4)
    exact ((t4.chg chg9_ (fun q => q.2.2.1 rfl)).chg c6 (fun q => q.2.2.2 rfl)).mono fun _ _ q => ⟨q.1, q.2.1⟩
  · exact ((((l1.trans (l2.mono (by omega))).trans (c3.1.mono (by omega))).trans (l4.mono (by omega))).trans (chg9_.1.mono (by omega))).trans (c6.1.mono (by omega))
theorem ES.drew {w0 w : World} {g g2 g5 vc : Nat} {vA : Option Addr} {x : S27} (h : ES w0 g g2 g5 w x vA vc) : ES w0 g g2 g5 w.drew x vA vc := ⟨h.b2, h.b5, h.tr.below (Below.drew (Below.refl _ _)), Below.drew h.bl, h.h2⟩
theorem ES.done {w0 w : World} {g g2 g5 vc yc : Nat} {vA yA : Option Addr} {x y : S27} (h : ES w0 g g2 g5 w x vA vc) (t : Tr w (fun k => w0.heap.size ≤ k ∧ k ≠ g2) y yA yc) {e : Int} {v0 v1 v2 v3 v4 v5 v6 v7 v8 : Value} : Ends w0 y e (.returned (.tuple #[exV y yA yc, .int .i64 e])) (((((((((w.setCell ⟨g2, 0, none⟩ v0).setCell ⟨g2, 1, none⟩ v1).setCell ⟨g2, 2, none⟩ v2).setCell ⟨g2, 3, none⟩ v3).setCell ⟨g2, 4, none⟩ v4).setCell ⟨g2, 5, none⟩ v5).setCell ⟨g2, 6, none⟩ v6).setCell ⟨g2, 7, none⟩ v7).setCell ⟨g2, 8, none⟩ v8) :=
  ⟨yA, yc, rfl, (t.chg chg9_ (fun q => q.2 rfl)).mono fun _ _ q => q.1, h.bl.trans (chg9_.1.mono h.h2)⟩
theorem expr_ok (k : Nat) (s : ByteArray) (l : List S91) (e0 : Int) (r : Re) (w : World) (hl : l.length ≤ 1000000) (h : token_All.f k s = some (l, e0)) (k2 : Nat) (hr : pr l k2 (.f .or) 0 0 e0 = some r) (he : enE l r.i r.e = 0) :
    Calls Try.prog 15 #[.string s] w (Ends w r.x 0) := by
  have HA := Lib.hid h; clear h
  have HR := Lib.hid hr; clear hr
  have HE := Lib.hid he; clear he
  go_enter Try.func15, Try.ntmps15
  go_wp2_with (first
    | (((with_reducible refine gate_dst (N := 2) rfl ?_); refine box_event ?hg (N := 2) ?hd (cs := #[.int .i64 0, .string (⟨#[]⟩ : ByteArray), .string (⟨#[]⟩ : ByteArray), .int .i64 0, .int .i64 0, .int .i64 0, .int .i64 0, .string (⟨#[]⟩ : ByteArray), .slice none 0 0]) (t := 27) ?hr ?_; (case hd => rfl); (case hg => rfl); (case hr => first | (go_simp; done) | (go_simp; rfl)); intro gb2 hg_ w1 hb_ hl_; have BKgb2 := am_ hb_; have HLgb2 := am_ hl_; have HGgb2 := am_ (Nat.le_of_eq hg_.symm); obtain ⟨zgb2_0, zgb2_1, zgb2_2, zgb2_3, zgb2_4, zgb2_5, zgb2_6, zgb2_7, zgb2_8, ygb2_0, ygb2_1, ygb2_2, ygb2_3, ygb2_4, ygb2_5, ygb2_6, ygb2_7, ygb2_8⟩ := bw9_ hb_; clear hb_ hl_ hg_; simp only [Act.put, sa_, sz_, ss_]); clear zgb2_0 zgb2_1 zgb2_2 zgb2_3 zgb2_4 zgb2_5 zgb2_6 zgb2_7 zgb2_8 ygb2_0 ygb2_1 ygb2_2 ygb2_3 ygb2_4 ygb2_5 ygb2_6 ygb2_7 ygb2_8)
    | ((with_reducible refine gate_callee (f := 40) rfl ?_); refine goesL_ (some 7) rfl rfl Try.func40 (by kernel_rfl) rfl #[.string s] rfl (by (try simp only [List.map_toArray, List.map_cons, List.map_nil]); first | done | rfl) ?_; refine (begin_any k s l e0 w1 hl HA.out).mono ?_; rintro r' w2 ⟨g, A, c, rfl, h2, b2, hg⟩; refine ⟨_, rfl, ?_⟩; simp only [Act.put, sa_, sz_, ss_]; have H2 := Lib.hid h2; have L2 := Lib.hid b2; have G2 := Lib.hid hg; clear h2 b2 hg)
    | ((with_reducible refine gate_callee (f := 41) rfl ?_); refine goesL_ (some 9) rfl rfl Try.func41 (by kernel_rfl) rfl #[.pointer (some ⟨g, 0, none⟩)] rfl (by (try simp only [List.map_toArray, List.map_cons, List.map_nil]); first | done | rfl) ?_; refine (GOK.all k2 .or _ _ _ _ _ _ _ _ _ H2.out HR.out).mono ?_; rintro r' w3 ⟨vA, vc, rfl, h3, c3, t3⟩; refine ⟨_, rfl, ?_⟩; simp only [Act.put, sa_, sz_, ss_]; simp only [exV]; have H3 := Lib.hid h3; have C3 := Lib.hid c3; have T3 := Lib.hid t3; clear h3 c3 t3)
    | (((with_reducible refine gate_dst (N := 5) rfl ?_); refine box_event ?hg (N := 5) ?hd (cs := #[.int .i64 0, .string (⟨#[]⟩ : ByteArray), .string (⟨#[]⟩ : ByteArray), .int .i64 0, .int .i64 0, .int .i64 0, .int .i64 0, .string (⟨#[]⟩ : ByteArray), .slice none 0 0]) (t := 27) ?hr ?_; (case hd => rfl); (case hg => rfl); (case hr => first | (go_simp; done) | (go_simp; rfl)); intro gb5 hg_ w4 hb_ hl_; have BKgb5 := am_ hb_; have HLgb5 := am_ hl_; have HGgb5 := am_ (Nat.le_of_eq hg_.symm); obtain ⟨zgb5_0, zgb5_1, zgb5_2, zgb5_3, zgb5_4, zgb5_5, zgb5_6, zgb5_7, zgb5_8, ygb5_0, ygb5_1, ygb5_2, ygb5_3, ygb5_4, ygb5_5, ygb5_6, ygb5_7, ygb5_8⟩ := bw9_ hb_; clear hb_ hl_ hg_; simp only [Act.put, sa_, sz_, ss_]))
    | ((with_reducible refine gate_callee (f := 42) rfl ?_); refine goesL_ (some 11) rfl rfl Try.func42 (by kernel_rfl) rfl #[.pointer (some ⟨g, 0, none⟩)] rfl (by (try simp only [List.map_toArray, List.map_cons, List.map_nil]); first | done | rfl) ?_; refine (end_st ((H3.out.below HLgb5.out).box chg9_ (Nat.lt_of_lt_of_le H3.out.lt HGgb5.out))).mono ?_; rintro r' w6 ⟨rfl, h6, c6⟩; refine ⟨_, rfl, ?_⟩; simp only [Act.put, sa_, sz_, ss_]; rw [HE.out] at h6; have H6 := Lib.hid h6; have E6 := Lib.hid (ES.mk' BKgb2.out HLgb2.out HGgb2.out L2.out G2.out H2.out.lt C3.out T3.out HLgb5.out HGgb5.out BKgb5.out c6); clear h6 c6 zgb5_0 zgb5_1 zgb5_2 zgb5_3 zgb5_4 zgb5_5 zgb5_6 zgb5_7 zgb5_8 ygb5_0 ygb5_1 ygb5_2 ygb5_3 ygb5_4 ygb5_5 ygb5_6 ygb5_7 ygb5_8)
    | ((with_reducible refine gate_callee (f := 43) rfl ?_); refine goesL_ (some 13) rfl rfl Try.func43 (by kernel_rfl) rfl #[.pointer (some ⟨g, 0, none⟩)] rfl (by (try simp only [List.map_toArray, List.map_cons, List.map_nil]); first | done | rfl) ?_; refine (ok_yes H6.out.ps).mono ?_; rintro r' w7 ⟨rfl, rfl⟩; refine ⟨_, rfl, ?_⟩; simp only [Act.put, sa_, sz_, ss_]; obtain ⟨p0, p1, p2, p3, p4, p5, p6, p7, p8, q0, q1, q2, q3, q4, q5, q6, q7, q8⟩ := bw9_ E6.out.b2; obtain ⟨s0, s1, s2, s3, s4, s5, s6, s7, s8, t0, t1, t2, t3, t4, t5, t6, t7, t8⟩ := bw9_ E6.out.b5))
  exact bodyPost_ret (results_ct rfl _ _ gb2 27 (cl27 r.x vA vc) (0, 0) _ rfl (put9_ E6.out.b2) Try.underlying27 rfl (by kernel_rfl)) rfl (E6.out.done E6.out.tr)
theorem expr_err (k : Nat) (s : ByteArray) (l : List S91) (e0 e1 : Int) (r : Re) (w : World) (hl : l.length ≤ 1000000) (h : token_All.f k s = some (l, e0)) (k2 : Nat) (hr : pr l k2 (.f .or) 0 0 e0 = some r) (he : enE l r.i r.e = e1) (h1 : e1 ≠ 0) :
    Calls Try.prog 15 #[.string s] w (Ends w zx27 e1) := by
  have HA := Lib.hid h; clear h
  have HR := Lib.hid hr; clear hr
  have HE := Lib.hid he; clear he
  have H1 := Lib.hid h1; clear h1
  go_enter Try.func15, Try.ntmps15
  go_wp2_with (first
    | (((with_reducible refine gate_dst (N := 2) rfl ?_); refine box_event ?hg (N := 2) ?hd (cs := #[.int .i64 0, .string (⟨#[]⟩ : ByteArray), .string (⟨#[]⟩ : ByteArray), .int .i64 0, .int .i64 0, .int .i64 0, .int .i64 0, .string (⟨#[]⟩ : ByteArray), .slice none 0 0]) (t := 27) ?hr ?_; (case hd => rfl); (case hg => rfl); (case hr => first | (go_simp; done) | (go_simp; rfl)); intro gb2 hg_ w1 hb_ hl_; have BKgb2 := am_ hb_; have HLgb2 := am_ hl_; have HGgb2 := am_ (Nat.le_of_eq hg_.symm); obtain ⟨zgb2_0, zgb2_1, zgb2_2, zgb2_3, zgb2_4, zgb2_5, zgb2_6, zgb2_7, zgb2_8, ygb2_0, ygb2_1, ygb2_2, ygb2_3, ygb2_4, ygb2_5, ygb2_6, ygb2_7, ygb2_8⟩ := bw9_ hb_; clear hb_ hl_ hg_; simp only [Act.put, sa_, sz_, ss_]); clear zgb2_0 zgb2_1 zgb2_2 zgb2_3 zgb2_4 zgb2_5 zgb2_6 zgb2_7 zgb2_8 ygb2_0 ygb2_1 ygb2_2 ygb2_3 ygb2_4 ygb2_5 ygb2_6 ygb2_7 ygb2_8)
    | ((with_reducible refine gate_callee (f := 40) rfl ?_); refine goesL_ (some 7) rfl rfl Try.func40 (by kernel_rfl) rfl #[.string s] rfl (by (try simp only [List.map_toArray, List.map_cons, List.map_nil]); first | done | rfl) ?_; refine (begin_any k s l e0 w1 hl HA.out).mono ?_; rintro r' w2 ⟨g, A, c, rfl, h2, b2, hg⟩; refine ⟨_, rfl, ?_⟩; simp only [Act.put, sa_, sz_, ss_]; have H2 := Lib.hid h2; have L2 := Lib.hid b2; have G2 := Lib.hid hg; clear h2 b2 hg)
    | ((with_reducible refine gate_callee (f := 41) rfl ?_); refine goesL_ (some 9) rfl rfl Try.func41 (by kernel_rfl) rfl #[.pointer (some ⟨g, 0, none⟩)] rfl (by (try simp only [List.map_toArray, List.map_cons, List.map_nil]); first | done | rfl) ?_; refine (GOK.all k2 .or _ _ _ _ _ _ _ _ _ H2.out HR.out).mono ?_; rintro r' w3 ⟨vA, vc, rfl, h3, c3, t3⟩; refine ⟨_, rfl, ?_⟩; simp only [Act.put, sa_, sz_, ss_]; simp only [exV]; have H3 := Lib.hid h3; have C3 := Lib.hid c3; have T3 := Lib.hid t3; clear h3 c3 t3)
    | (((with_reducible refine gate_dst (N := 5) rfl ?_); refine box_event ?hg (N := 5) ?hd (cs := #[.int .i64 0, .string (⟨#[]⟩ : ByteArray), .string (⟨#[]⟩ : ByteArray), .int .i64 0, .int .i64 0, .int .i64 0, .int .i64 0, .string (⟨#[]⟩ : ByteArray), .slice none 0 0]) (t := 27) ?hr ?_; (case hd => rfl); (case hg => rfl); (case hr => first | (go_simp; done) | (go_simp; rfl)); intro gb5 hg_ w4 hb_ hl_; have BKgb5 := am_ hb_; have HLgb5 := am_ hl_; have HGgb5 := am_ (Nat.le_of_eq hg_.symm); obtain ⟨zgb5_0, zgb5_1, zgb5_2, zgb5_3, zgb5_4, zgb5_5, zgb5_6, zgb5_7, zgb5_8, ygb5_0, ygb5_1, ygb5_2, ygb5_3, ygb5_4, ygb5_5, ygb5_6, ygb5_7, ygb5_8⟩ := bw9_ hb_; clear hb_ hl_ hg_; simp only [Act.put, sa_, sz_, ss_]))
    | ((with_reducible refine gate_callee (f := 42) rfl ?_); refine goesL_ (some 11) rfl rfl Try.func42 (by kernel_rfl) rfl #[.pointer (some ⟨g, 0, none⟩)] rfl (by (try simp only [List.map_toArray, List.map_cons, List.map_nil]); first | done | rfl) ?_; refine (end_st ((H3.out.below HLgb5.out).box chg9_ (Nat.lt_of_lt_of_le H3.out.lt HGgb5.out))).mono ?_; rintro r' w6 ⟨rfl, h6, c6⟩; refine ⟨_, rfl, ?_⟩; simp only [Act.put, sa_, sz_, ss_]; rw [HE.out] at h6; have H6 := Lib.hid h6; have E6 := Lib.hid (ES.mk' BKgb2.out HLgb2.out HGgb2.out L2.out G2.out H2.out.lt C3.out T3.out HLgb5.out HGgb5.out BKgb5.out c6); clear h6 c6 zgb5_0 zgb5_1 zgb5_2 zgb5_3 zgb5_4 zgb5_5 zgb5_6 zgb5_7 zgb5_8 ygb5_0 ygb5_1 ygb5_2 ygb5_3 ygb5_4 ygb5_5 ygb5_6 ygb5_7 ygb5_8)
    | ((with_reducible refine gate_callee (f := 43) rfl ?_); refine goesL_ (some 13) rfl rfl Try.func43 (by kernel_rfl) rfl #[.pointer (some ⟨g, 0, none⟩)] rfl (by (try simp only [List.map_toArray, List.map_cons, List.map_nil]); first | done | rfl) ?_; refine (ok_no H6.out.ps H1.out).mono ?_; rintro r' w7 ⟨rfl, rfl⟩; refine ⟨_, rfl, ?_⟩; simp only [Act.put, sa_, sz_, ss_]; obtain ⟨p0, p1, p2, p3, p4, p5, p6, p7, p8, q0, q1, q2, q3, q4, q5, q6, q7, q8⟩ := bw9_ E6.out.b2))
  have E7 := Lib.hid (E6.out.drew); have P7 : Ps w7.drew g A l.length c r.i r.d e1 := H6.out.ps
  clear E6 p0 p1 p2 p3 p4 p5 p6 p7 p8 q0 q1 q2 q3 q4 q5 q6 q7 q8
  have NG : gb2 ≠ g := by have := blk_lt BKgb2.out; have := G2.out; omega
  refine start_ (n := 7) (S := fun w' => w'.heap[g]? = some (.cells #[.slice A l.length c, .int .i64 r.i, .int .i64 r.d, .int .i64 e1] 89 (0, 0))) (ds := []) #[false, false, false, false, false, false, false] (by kernel_rfl) rfl rfl P7 (fun hHeld => ?_)
  generalize w7.drew = w8 at E7 P7 hHeld ⊢
  refine take_ (i := 0) (N := some 15) (v := ?_) (a' := ?_) #[true, false, false, false, false, false, false] rfl rfl (by kernel_rfl) (fun _ _ _ h => h) (Or.inl ⟨by rfl, ?_⟩) hHeld ?_ ?_; rotate_left
  · intro w' hS
    go_simp; (with_reducible rfl)
  rotate_left
  · simp only [Act.put, sa_, sz_, ss_, i64_w, i32_w]
    rfl
  refine take_ (i := 1) (N := some 16) (v := ?_) (a' := ?_) #[true, true, false, false, false, false, false] rfl rfl (by kernel_rfl) (fun _ _ _ h => h) (Or.inl ⟨by rfl, ?_⟩) hHeld ?_ ?_; rotate_left
  · intro w' hS
    go_simp; (with_reducible rfl)
  rotate_left
  · simp only [Act.put, sa_, sz_, ss_, i64_w, i32_w]
    rfl
  refine take_ (i := 2) (N := some 17) (v := ?_) (a' := ?_) #[true, true, true, false, false, false, false] rfl rfl (by kernel_rfl) (fun _ _ _ h => h) (Or.inl ⟨by rfl, ?_⟩) hHeld ?_ ?_; rotate_left
  · intro w' hS
    go_simp; (with_reducible rfl)
  rotate_left
  · simp only [Act.put, sa_, sz_, ss_, i64_w, i32_w]
    rfl
  refine take_ (i := 3) (N := some 18) (v := ?_) (a' := ?_) #[true, true, true, true, false, false, false] rfl rfl (by kernel_rfl) (fun _ _ _ h => h) (Or.inl ⟨by rfl, ?_⟩) hHeld ?_ ?_; rotate_left
  · intro w' hS
    go_simp; (with_reducible rfl)
  rotate_left
  · simp only [Act.put, sa_, sz_, ss_, i64_w, i32_w]
    rfl
  refine take_ (i := 4) (N := some 19) (v := ?_) (a' := ?_) #[true, true, true, true, true, false, false] rfl rfl (by kernel_rfl) (fun _ _ _ h => h) (Or.inl ⟨by rfl, ?_⟩) hHeld ?_ ?_; rotate_left
  · intro w' hS; obtain ⟨s0, s1, s2, s3, t0, t1, t2, t3⟩ := bw4_ hS
    go_simp; (with_reducible rfl)
  rotate_left
  · simp only [Act.put, sa_, sz_, ss_, i64_w, i32_w]
    rfl
  obtain ⟨p0, p1, p2, p3, p4, p5, p6, p7, p8, q0, q1, q2, q3, q4, q5, q6, q7, q8⟩ := bw9_ E7.out.b2
  refine one_ (i := 5) (N := none) #[true, true, true, true, true, true, false] rfl rfl (by kernel_rfl) (by decide) (fun K hK => ?_); refine skip_ (w1 := ?_) (by rfl) rfl ?_ ?_; rotate_left
  · go_simp
    rfl
  refine hK.out _ _ (chg9_.box P7 NG.symm) (fun hHeld2 => ?_); clear hK K
  clear p0 p1 p2 p3 p4 p5 p6 p7 p8 q0 q1 q2 q3 q4 q5 q6 q7 q8
  refine pure_ (i := 6) (N := some 3) (v := ?_) (a' := ?_) #[true, true, true, true, true, true, true] rfl rfl (by kernel_rfl) (fun _ _ _ h => h) (Or.inl ⟨by rfl, ?_⟩) ?_ ?_; rotate_left
  · intro w'
    go_simp; (with_reducible rfl)
  rotate_left
  · simp only [Act.put, sa_, sz_, ss_, i64_w, i32_w]
    rfl
  refine done_ (by kernel_rfl) ?_
  try go_wp2
  exact bodyPost_ret (results_ct rfl _ _ gb2 27 (cl27 zx27 none 0) (0, 0) _ rfl (put9_ E7.out.b2) Try.underlying27 rfl (by kernel_rfl)) rfl (E7.out.done (y := zx27) (yA := none) (yc := 0) ⟨Nat.le_refl 0, fun W' _ => ⟨rfl, by simp [zx27], fun q => absurd q (Nat.lt_irrefl 0)⟩⟩)
end Go.Proofs.Ytcfgjaggccnoaaa.PParseSmall
