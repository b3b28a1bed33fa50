import Derived.Test.YtcfgjaggccnoaaaHpj
import Derived.Defers
import Derived.Deep.LoopGhost
namespace Go.Proofs.Ytcfgjaggccnoaaa.PParseSmall
open Go.RowKit Go.Proofs.YtcfgjaggccnoaaaW.PrintWords Go.Proofs.YtcfgjaggccnoaaaW.PrintLast Go.Proofs.YtcfgjaggccnoaaaW.PrintMore
attribute [local go_sem] max2_int min2_int max_two min_two max_three min_three max_four min_four
set_option linter.unusedVariables false
set_option linter.unusedSimpArgs false
set_option maxRecDepth 100000
set_option maxHeartbeats 4000000
/-! chain -/
theorem chain_any (p : Gr) (ss : List ByteArray) (hne : ∀ s ∈ ss, s ≠ ⟨#[]⟩) (hss : ss.length ≤ 100) (k : Nat) (hp : ∀ j, j ≤ k → GOK j p) {w : World} {g : Nat} {A S : Option Addr} {c cS : Nat} {l : List S91} {i d e : Int} {r0 r : Re} (h : St w g A c l i d e) (hS : Sg w g w.heap.size S ss) (h0 : pr l k (.f p) i d e = some r0) (hr : pr l k (.ch p ss r0.x) r0.i r0.d r0.e = some r) :
    Calls Try.prog 79 #[.pointer (some ⟨g, 0, none⟩), .func (.func p.num) #[.pointer (some ⟨g, 0, none⟩)] #[], .slice S ss.length cS] w (Done w g A c l r) := by
  have NE := Lib.hid hne; clear hne
  have H := Lib.hid h; clear h
  have HS := Lib.hid hS; clear hS
  have H0 := Lib.hid h0; clear h0
  have HR := Lib.hid hr; clear hr
  have HP := Lib.hid hp; clear hp
  go_enter Try.func79, Try.ntmps79
  go_wp2_with (first
    | (((with_reducible refine gate_dst (N := 6) rfl ?_); refine box_event ?hg (N := 6) ?hd (cs := #[.int .i64 0, .string (⟨#[]⟩ : ByteArray), .string (⟨#[]⟩ : ByteArray), .int .i64 0, .int .i64 0, .int .i64 0, .int .i64 0, .string (⟨#[]⟩ : ByteArray), .slice none 0 0]) (t := 27) ?hr ?_; (case hd => rfl); (case hg => rfl); (case hr => first | (go_simp; done) | (go_simp; rfl)); intro gb6 hg_ w1 hb_ hl_; have BKgb6 := am_ hb_; have HLgb6 := am_ hl_; have HGgb6 := am_ (Nat.le_of_eq hg_.symm); obtain ⟨zgb6_0, zgb6_1, zgb6_2, zgb6_3, zgb6_4, zgb6_5, zgb6_6, zgb6_7, zgb6_8, ygb6_0, ygb6_1, ygb6_2, ygb6_3, ygb6_4, ygb6_5, ygb6_6, ygb6_7, ygb6_8⟩ := bw9_ hb_; clear hb_ hl_ hg_; simp only [Act.put, sa_, sz_, ss_]); have H1 := Lib.hid (H.out.below HLgb6.out); have HG := Lib.hid (Nat.lt_of_lt_of_le H.out.lt HGgb6.out); have HN := Lib.hid (ne_of_le H.out.lt HGgb6.out); clear zgb6_0 zgb6_1 zgb6_2 zgb6_3 zgb6_4 zgb6_5 zgb6_6 zgb6_7 zgb6_8 ygb6_0 ygb6_1 ygb6_2 ygb6_3 ygb6_4 ygb6_5 ygb6_6 ygb6_7 ygb6_8)
    | ((with_reducible refine gate_dst (N := 12) rfl ?_); refine goesP_ p (some 12) rfl rfl (.pointer (some ⟨g, 0, none⟩)) rfl rfl ?_; refine (HP.out k (Nat.le_refl k) _ _ _ _ _ _ _ _ _ H1.out H0.out).mono ?_; rintro r' w2 ⟨vA, vc, rfl, h2, c2, t2⟩; refine ⟨_, rfl, ?_⟩; simp only [Act.put, sa_, sz_, ss_, exV]; have H2 := Lib.hid h2; have C2 := Lib.hid c2; have T2 := Lib.hid t2; clear h2 c2 t2)
    | (((with_reducible refine gate_dst (N := 7) rfl ?_); refine box_event ?hg (N := 7) ?hd (cs := #[.int .i64 0, .string (⟨#[]⟩ : ByteArray), .string (⟨#[]⟩ : ByteArray), .int .i64 0, .int .i64 0, .int .i64 0, .int .i64 0, .string (⟨#[]⟩ : ByteArray), .slice none 0 0]) (t := 27) ?hr ?_; (case hd => rfl); (case hg => rfl); (case hr => first | (go_simp; done) | (go_simp; rfl)); intro gb7 hg_ w3 hb_ hl_; have BKgb7 := am_ hb_; have HLgb7 := am_ hl_; have HGgb7 := am_ (Nat.le_of_eq hg_.symm); obtain ⟨zgb7_0, zgb7_1, zgb7_2, zgb7_3, zgb7_4, zgb7_5, zgb7_6, zgb7_7, zgb7_8, ygb7_0, ygb7_1, ygb7_2, ygb7_3, ygb7_4, ygb7_5, ygb7_6, ygb7_7, ygb7_8⟩ := bw9_ hb_; clear hb_ hl_ hg_; simp only [Act.put, sa_, sz_, ss_])))
  have HN7 : Hid (g < gb7) := Lib.hid (Nat.lt_of_lt_of_le H2.out.lt HGgb7.out)
  have B6 := Lib.hid (blk_below (C2.out.box BKgb6.out HN.out) HLgb7.out)
  have h67 : gb6 < gb7 := Nat.lt_of_lt_of_le (blk_lt (C2.out.box BKgb6.out HN.out)) HGgb7.out
  have H67 := Lib.hid h67; clear h67
  clear zgb7_0 zgb7_1 zgb7_2 zgb7_3 zgb7_4 zgb7_5 zgb7_6 zgb7_7 zgb7_8 ygb7_0 ygb7_1 ygb7_2 ygb7_3 ygb7_4 ygb7_5 ygb7_6 ygb7_7 ygb7_8
  go_loopg [] k (fun kq w' => ∃ (i d e : Int) (x : S27) (vA : Option Addr) (vc : Nat), Aside0 (pr l kq (.ch p ss x) i d e = some r) ∧ Aside0 (kq ≤ k) ∧ Aside0 (CS w g gb6 gb7 A c l S ss w' i d e x vA vc))
  case atStart =>
    refine ⟨r0.i, r0.d, r0.e, r0.x, vA, vc, ⟨HR.out⟩, ⟨Nat.le_refl _⟩, ⟨?_⟩⟩
    have hl1 := blk_lt BKgb6.out; have hg7 := HGgb7.out; have hl0 := below_size HLgb6.out; have hl2 := C2.out.size
    have T3 := (T2.out.mono fun q hl hq => (⟨by omega, by omega, by omega⟩ : w.heap.size ≤ q ∧ q ≠ gb6 ∧ q ≠ gb7)).below HLgb7.out
    have Ch : Chg g w w3 := ((Chg.below H.out.lt HLgb6.out).trans C2.out).trans (Chg.below H2.out.lt HLgb7.out)
    have h67 := H67.out
    exact ⟨(H2.out.below HLgb7.out).box chg9_ HN7.out, Ch.own chg9_ (by omega) (Nat.le_of_lt HN7.out), chg9_.box B6.out (by omega), put9_ BKgb7.out, T3.chg chg9_ (by omega), (HS.out.chg Ch).box chg9_ (by omega), H.out.lt, HGgb6.out, h67⟩
  case round =>
    clear BKgb6 BKgb7 B6 HLgb6 HLgb7 HGgb6 HGgb7 H1 H2 C2 T2 HR H0
    obtain ⟨i, d, e, x, vA, vc, HA, HK, HC⟩ := hrel
    cases gk with
    | zero => exact absurd HA.out (by simp [pr])
    | succ k1 =>
      have HH := HA.out; clear HA
      simp only [pr] at HH
      by_cases he : e = 0
      · subst he
        rw [if_pos rfl] at HH
        obtain ⟨p0, p1, p2, p3, p4, p5, p6, p7, p8, q0, q1, q2, q3, q4, q5, q6, q7, q8⟩ := bw9_ HC.out.b6
        obtain ⟨s0, s1, s2, s3, s4, s5, s6, s7, s8, t0, t1, t2, t3, t4, t5, t6, t7, t8⟩ := bw9_ HC.out.b7
        cases hf : ss.find? (fun s => isP l i 0 s) with
        | none =>
          rw [hf] at HH
          obtain rfl := Option.some.inj HH
          clear HH
          have HF := Lib.hid hf; clear hf
          go_wp2_with (first
            | ((with_reducible refine gate_callee (f := 43) rfl ?_); refine goesL_ (some 14) rfl rfl Try.func43 (by kernel_rfl) rfl #[.pointer (some ⟨g, 0, none⟩)] rfl (by (try simp only [List.map_toArray, List.map_cons, List.map_nil]); first | done | rfl) ?_; refine (ok_yes HC.out.st.ps).mono ?_; rintro r' w4 ⟨rfl, rfl⟩; refine ⟨_, rfl, ?_⟩; simp only [Act.put, sa_, sz_, ss_]))
          clear p0 p1 p2 p3 p4 p5 p6 p7 p8 q0 q1 q2 q3 q4 q5 q6 q7 q8 s0 s1 s2 s3 s4 s5 s6 s7 s8 t0 t1 t2 t3 t4 t5 t6 t7 t8
          go_loopg [8, 17] ss.length (fun kq v8 v17 w' => ∃ (j : Int), v8 = .string ⟨#[]⟩ ∧ v17 = .int .i64 j ∧ Aside0 (0 ≤ j ∧ j ≤ ss.length ∧ kq = ss.length - j.toNat) ∧ Aside0 (CS w g gb6 gb7 A c l S ss w' i d 0 x vA vc))
          case atStart => exact ⟨0, rfl, rfl, ⟨⟨Int.le_refl 0, Int.natCast_nonneg _, by simp⟩⟩, ⟨HC.out⟩⟩
          case round =>
            clear HC
            obtain ⟨j, rfl, rfl, HJ, HC⟩ := hrel
            by_cases c1 : j < (ss.length : Int)
            · obtain ⟨ad, rfl, hc⟩ := HC.out.sg.cell j HJ.out.1 c1
              have hj := eq_true HJ.out.1
              have c1b : decide (j < (ss.length : Int)) = true := decide_eq_true c1
              have c1c := eq_true c1
              have hm : isP l i 0 (rdOf ByteArray.empty ss j) = false := by
                have := List.find?_eq_none.1 HF.out (rdOf ByteArray.empty ss j) (rdOf_mem ss j HJ.out.1 c1)
                simpa using this
              have HM := Lib.hid hm; clear hm
              go_wp2_with (first
                | ((with_reducible refine gate_callee (f := 121) rfl ?_); refine goesL_ (some 23) rfl rfl Try.func121 (by kernel_rfl) rfl #[.pointer (some ⟨g, 0, none⟩), .string (rdOf ByteArray.empty ss j)] rfl (by (try simp only [List.map_toArray, List.map_cons, List.map_nil]); first | done | rfl) ?_; refine (take_no_st HC.out.st _ HM.out).mono ?_; rintro r' w5 ⟨rfl, h5, c5⟩; refine ⟨_, rfl, ?_⟩; simp only [Act.put, sa_, sz_, ss_]; have H5 := Lib.hid (HC.out.chg c5 h5); clear h5 c5))
              have ⟨hj0, hj1, hj2⟩ := HJ.out
              clear HJ hc
              go_roundg (ss.length - (j + 1).toNat)
              case measure => omega
              case rel => exact ⟨j + 1, rfl, by rw [show wrap64 (j + 1) = j + 1 from w64 _ (by omega)], ⟨⟨by omega, by omega, rfl⟩⟩, ⟨H5.out⟩⟩
            · have c1b : decide (j < (ss.length : Int)) = false := decide_eq_false c1
              clear HJ c1
              obtain ⟨p0, p1, p2, p3, p4, p5, p6, p7, p8, q0, q1, q2, q3, q4, q5, q6, q7, q8⟩ := bw9_ HC.out.b6
              obtain ⟨s0, s1, s2, s3, s4, s5, s6, s7, s8, t0, t1, t2, t3, t4, t5, t6, t7, t8⟩ := bw9_ HC.out.b7
              go_wp2
              exact bodyPost_ret (results_cell_row rfl _ _ gb6 27 #[.int .i64 x.f0, .string x.f1, .string x.f2, .int .i64 x.f3, .int .i64 x.f4, .int .i64 x.f5.f0, .int .i64 x.f5.f1, .string x.f5.f2, .slice vA x.f6.length vc] (0, 0) _ rfl (put9_ HC.out.b6) Try.underlying27 rfl (by kernel_rfl)) rfl HC.out.done
        | some s =>
          rw [hf] at HH
          obtain ⟨hs, m, hm, rfl, hb⟩ := find_at hf
          clear hf
          have HH' := Lib.hid HH; clear HH
          have HF := Lib.hid hb; clear hb
          have HM := Lib.hid hm; clear hm
          have HS1 := Lib.hid hs; clear hs
          go_wp2_with (first
            | ((with_reducible refine gate_callee (f := 43) rfl ?_); refine goesL_ (some 14) rfl rfl Try.func43 (by kernel_rfl) rfl #[.pointer (some ⟨g, 0, none⟩)] rfl (by (try simp only [List.map_toArray, List.map_cons, List.map_nil]); first | done | rfl) ?_; refine (ok_yes HC.out.st.ps).mono ?_; rintro r' w4 ⟨rfl, rfl⟩; refine ⟨_, rfl, ?_⟩; simp only [Act.put, sa_, sz_, ss_]))
          clear p0 p1 p2 p3 p4 p5 p6 p7 p8 q0 q1 q2 q3 q4 q5 q6 q7 q8 s0 s1 s2 s3 s4 s5 s6 s7 s8 t0 t1 t2 t3 t4 t5 t6 t7 t8
          go_loopg [8, 17] ss.length (fun kq v8 v17 w' => ∃ (j : Int), v8 = .string ⟨#[]⟩ ∧ v17 = .int .i64 j ∧ Aside0 (0 ≤ j ∧ j ≤ m ∧ kq = ss.length - j.toNat) ∧ Aside0 (CS w g gb6 gb7 A c l S ss w' i d 0 x vA vc))
          case atStart => exact ⟨0, rfl, rfl, ⟨⟨Int.le_refl 0, Int.natCast_nonneg _, by simp⟩⟩, ⟨HC.out⟩⟩
          case round =>
            clear HC
            obtain ⟨j, rfl, rfl, HJ, HC⟩ := hrel
            have c1 : j < (ss.length : Int) := by have := HJ.out.2.1; have := HM.out; omega
            obtain ⟨ad, rfl, hc⟩ := HC.out.sg.cell j HJ.out.1 c1
            have hj := eq_true HJ.out.1
            have c1b : decide (j < (ss.length : Int)) = true := decide_eq_true c1
            have c1c := eq_true c1
            by_cases c2 : j < m
            · have hm := HF.out j HJ.out.1 c2
              have HM1 := Lib.hid hm; clear hm
              have C2 := Lib.hid c2; clear c2
              go_wp2_with (first
                | ((with_reducible refine gate_callee (f := 121) rfl ?_); refine goesL_ (some 23) rfl rfl Try.func121 (by kernel_rfl) rfl #[.pointer (some ⟨g, 0, none⟩), .string (rdOf ByteArray.empty ss j)] rfl (by (try simp only [List.map_toArray, List.map_cons, List.map_nil]); first | done | rfl) ?_; refine (take_no_st HC.out.st _ HM1.out).mono ?_; rintro r' w5 ⟨rfl, h5, c5⟩; refine ⟨_, rfl, ?_⟩; simp only [Act.put, sa_, sz_, ss_]; have H5 := Lib.hid (HC.out.chg c5 h5); clear h5 c5))
              have ⟨hj0, hj1, hj2⟩ := HJ.out; have hc2 := C2.out; have hm1 := HM.out
              clear HJ hc
              go_roundg (ss.length - (j + 1).toNat)
              case measure => omega
              case rel => exact ⟨j + 1, rfl, by rw [show wrap64 (j + 1) = j + 1 from w64 _ (by omega)], ⟨⟨by omega, by omega, rfl⟩⟩, ⟨H5.out⟩⟩
            · have ej : (m : Int) = j := by have := HJ.out.2.1; omega
              have hS1 := HS1.out; have hH := HH'.out
              rw [ej] at hS1 hH
              have hE : ((rdOf ByteArray.empty ss j).toList == ([] : List UInt8)) = false := txt_ne (NE.out _ (rdOf_mem ss j HJ.out.1 c1))
              clear c2 HJ HS1 HH' HF HM ej
              have HS1 := Lib.hid hS1; have HH := Lib.hid hH; clear hS1 hH
              go_wp2_with (first
                | ((with_reducible refine gate_callee (f := 121) rfl ?_); refine goesL_ (some 23) rfl rfl Try.func121 (by kernel_rfl) rfl #[.pointer (some ⟨g, 0, none⟩), .string (rdOf ByteArray.empty ss j)] rfl (by (try simp only [List.map_toArray, List.map_cons, List.map_nil]); first | done | rfl) ?_; refine (take_yes_st HC.out.st _ HS1.out).mono ?_; rintro r' w5 ⟨rfl, h5, c5⟩; refine ⟨_, rfl, ?_⟩; simp only [Act.put, sa_, sz_, ss_]; have H5 := Lib.hid (HC.out.chg c5 h5); clear h5 c5 HC))
              obtain ⟨r1, hq1, hq2⟩ := Option.bind_eq_some_iff.1 HH.out
              have Q1 := Lib.hid hq1; have Q2 := Lib.hid hq2; clear hq1 hq2 HH hE hc
              have H6 := Lib.hid (H5.out.below (Below.drew (Below.refl _ _)))
              clear H5
              refine start_ (n := 8) (S := fun w' => w'.heap[gb7]? = some (.cells #[.int .i64 x.f0, .string x.f1, .string x.f2, .int .i64 x.f3, .int .i64 x.f4, .int .i64 x.f5.f0, .int .i64 x.f5.f1, .string x.f5.f2, .slice vA x.f6.length vc] 27 (0, 0))) (ds := [7]) #[false, false, false, false, false, false, false, false] (by kernel_rfl) rfl rfl H6.out.b7 (fun hHeld => ?_)
              generalize w5.drew = w6 at H6 hHeld ⊢
              refine take_ (i := 0) (N := some 29) (v := ?_) (a' := ?_) #[true, false, false, false, false, false, false, false] rfl rfl (by kernel_rfl) (fun _ _ _ h => h) (Or.inl ⟨by rfl, ?_⟩) hHeld ?_ ?_; rotate_left
              · intro w' hS
                go_simp; (with_reducible rfl)
              rotate_left
              · simp only [Act.put, sa_, sz_, ss_, i64_w, i32_w]
                rfl
              refine take_ (i := 2) (N := some 31) (v := ?_) (a' := ?_) #[true, false, true, false, false, false, false, false] rfl rfl (by kernel_rfl) (fun _ _ _ h => h) (Or.inl ⟨by rfl, ?_⟩) hHeld ?_ ?_; rotate_left
              · intro w' hS; obtain ⟨s0, s1, s2, s3, s4, s5, s6, s7, s8, t0, t1, t2, t3, t4, t5, t6, t7, t8⟩ := bw9_ hS
                go_simp; (with_reducible rfl)
              rotate_left
              · simp only [Act.put, sa_, sz_, ss_, i64_w, i32_w]
                rfl
              refine take_ (i := 3) (N := some 32) (v := ?_) (a' := ?_) #[true, false, true, true, false, false, false, false] rfl rfl (by kernel_rfl) (fun _ _ _ h => h) (Or.inl ⟨by rfl, ?_⟩) hHeld ?_ ?_; rotate_left
              · intro w' hS
                go_simp; (with_reducible rfl)
              rotate_left
              · simp only [Act.put, sa_, sz_, ss_, i64_w, i32_w]
                rfl
              refine one_ (i := 1) (N := some 30) #[true, true, true, true, false, false, false, false] rfl rfl (by kernel_rfl) (by decide) (fun K hK => ?_); refine goes_ Try.func123 (by kernel_rfl) rfl #[.string (rdOf ByteArray.empty ss j)] (by rfl) rfl rfl (by (try simp only [List.map_toArray, List.map_cons, List.map_nil]); first | done | rfl) ?_; (with_reducible refine (parse_opOf.calls (rdOf ByteArray.empty ss j) _ _ (opP_f _)).mono ?_); rintro e' w7 ⟨rfl, nd, rfl⟩; refine ⟨_, rfl, ?_⟩; have H7 := Lib.hid (H6.out.below (pw_below_drewN (Below.refl _ _) nd)); generalize w6.drewN nd = w7 at H7 hK ⊢; clear H6 hHeld; refine hK.out _ _ H7.out.b7 (fun hHeld => ?_); clear hK K; refine norm_ (a' := ?_) ?_ ?_; rotate_left
              · show Act.put _ (some 30) _ = _
                simp only [Act.put, sa_, sz_, ss_, i64_w, i32_w]; rfl
              refine one_ (i := 4) (N := some 33) #[true, true, true, true, true, false, false, false] rfl rfl (by kernel_rfl) (by decide) (fun K hK => ?_); refine goesR_ p (some 33) (.pointer (some ⟨g, 0, none⟩)) (by rfl) rfl rfl rfl ?_; refine (HP.out k1 (by have := HK.out; omega) _ _ _ _ _ _ _ _ _ H7.out.st Q1.out).mono ?_; rintro e' w8 ⟨yA, yc, rfl, h8, c8, t8⟩; refine ⟨_, rfl, ?_⟩; have H8 := Lib.hid (H7.out.chg c8 h8); have T8 := Lib.hid (Tr.aft H7.out t8); clear c8 h8 t8 H7 hHeld; refine hK.out _ _ H8.out.b7 (fun hHeld => ?_); clear hK K; refine norm_ (a' := ?_) ?_ ?_; rotate_left
              · show Act.put _ (some 33) _ = _
                simp only [Act.put, sa_, sz_, ss_, i64_w, i32_w, exV]; rfl
              refine one_ (i := 5) (N := some 34) #[true, true, true, true, true, true, false, false] rfl rfl (by kernel_rfl) (by decide) (fun K hK => ?_); refine lit2s (by rfl) rfl H8.out.tr T8.out ?hf ?hr ?_; (case hf => exact H8.out.fresh); (case hr => first | (go_simp; done) | (go_simp; rfl)); intro A9 c9 w9 v9 b9; have V9 := Lib.hid v9; have H9 := Lib.hid (H8.out.below b9); clear v9 b9 T8 H8 hHeld; refine hK.out _ _ H9.out.b7 (fun hHeld => ?_); clear hK K; refine norm_ (a' := ?_) ?_ ?_; rotate_left
              · show Act.put _ (some 34) _ = _
                simp only [Act.put, sa_, sz_, ss_, i64_w, i32_w]; rfl
              refine one_ (i := 6) (N := some 35) #[true, true, true, true, true, true, true, false] rfl rfl (by kernel_rfl) (by decide) (fun K hK => ?_); refine goes_ Try.func122 (by kernel_rfl) rfl #[.int .i64 (opP (rdOf ByteArray.empty ss j)), .slice A9 2 c9] (by rfl) rfl rfl (by (try simp only [List.map_toArray, List.map_cons, List.map_nil]); first | done | rfl) ?_; refine (of_any (opP (rdOf ByteArray.empty ss j)) [x, r1.x] (by simp) V9.out).mono ?_; rintro e' w10 ⟨zA, zc, rfl, t10, b10⟩; refine ⟨_, rfl, ?_⟩; have H10 := Lib.hid (H9.out.below b10); have T10 := Lib.hid (Tr.new H9.out t10); clear t10 b10 V9 H9 hHeld; refine hK.out _ _ H10.out.b7 (fun hHeld => ?_); clear hK K; refine norm_ (a' := ?_) ?_ ?_; rotate_left
              · show Act.put _ (some 35) _ = _
                simp only [Act.put, sa_, sz_, ss_, i64_w, i32_w, exV, ofP]; rfl
              obtain ⟨s0, s1, s2, s3, s4, s5, s6, s7, s8, t0, t1, t2, t3, t4, t5, t6, t7, t8⟩ := bw9_ H10.out.b7
              refine last_ (i := 7) (N := none) #[true, true, true, true, true, true, true, true] rfl rfl (by kernel_rfl) (by decide) (fun K hK => ?_); refine skip_ (w1 := ?_) (by rfl) rfl ?_ ?_; rotate_left
              · go_simp
                rfl
              refine hK.out _ _ ?_; clear hK K; refine done_ (by kernel_rfl) ?_
              clear s0 s1 s2 s3 s4 s5 s6 s7 s8 t0 t1 t2 t3 t4 t5 t6 t7 t8
              try go_wp2
              go_roundg k1
              case measure => omega
              case rel => exact ⟨r1.i, r1.d, r1.e, ofP (opP (rdOf ByteArray.empty ss j)) [x, r1.x], zA, zc, ⟨Q2.out⟩, ⟨by have := HK.out; omega⟩, ⟨H10.out.put chg9_ (put9_ H10.out.b7) T10.out⟩⟩
      · rw [if_neg he] at HH
        obtain rfl := Option.some.inj HH
        have HE := Lib.hid he; clear he HH
        obtain ⟨p0, p1, p2, p3, p4, p5, p6, p7, p8, q0, q1, q2, q3, q4, q5, q6, q7, q8⟩ := bw9_ HC.out.b6
        obtain ⟨s0, s1, s2, s3, s4, s5, s6, s7, s8, t0, t1, t2, t3, t4, t5, t6, t7, t8⟩ := bw9_ HC.out.b7
        go_wp2_with (first
          | ((with_reducible refine gate_callee (f := 43) rfl ?_); refine goesL_ (some 14) rfl rfl Try.func43 (by kernel_rfl) rfl #[.pointer (some ⟨g, 0, none⟩)] rfl (by (try simp only [List.map_toArray, List.map_cons, List.map_nil]); first | done | rfl) ?_; refine (ok_no HC.out.st.ps HE.out).mono ?_; rintro r' w4 ⟨rfl, rfl⟩; refine ⟨_, rfl, ?_⟩; simp only [Act.put, sa_, sz_, ss_]))
        exact bodyPost_ret (results_cell_row rfl _ _ gb6 27 #[.int .i64 x.f0, .string x.f1, .string x.f2, .int .i64 x.f3, .int .i64 x.f4, .int .i64 x.f5.f0, .int .i64 x.f5.f1, .string x.f5.f2, .slice vA x.f6.length vc] (0, 0) _ rfl (put9_ HC.out.b6) Try.underlying27 rfl (by kernel_rfl)) rfl HC.out.done
end Go.Proofs.Ytcfgjaggccnoaaa.PParseSmall
