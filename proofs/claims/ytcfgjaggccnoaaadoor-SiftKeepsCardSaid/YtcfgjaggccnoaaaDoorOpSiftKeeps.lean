/- What an argument's data say of memory, for structs, slices and trees: it can be read, and its numbers, texts and slices have their sizes. -/
import Derived.Test.YtcfgjaggccnoaaaDoorUSiftKeeps0
import Derived.ChangeSlices
import Derived.ChangeOld
import Derived.SizedLaws
import Derived.ProofKit
import Derived.OpenShut
import Derived.Carry
namespace Go.Proofs.YtcfgjaggccnoaaaDoor.Open
open Go.RowKit Go.Proofs.YtcfgjaggccnoaaaDoorW.PrintWords

/-- Cells of type t, told as data, are what K tells of some x that is right. -/
structure Opens {α : Type} (P : Program) (t : TypeId) (K : Kd α) (wf : α → Prop) (n : Nat) : Prop where
  opened : ∀ {H : Type} {enc : TypeId × Value → H} {w : World} {cs : List Value} {x : DataW H × List MemPlace},
    DataW.trod enc P w 0 (fun _ => true) true n t cs = some x → (x.1.weights P t).all (· ≤ reachBytes) = true → ∃ y, K.K w y cs ∧ wf y

/-- The same of some fields of a struct, the first of which begins at off. -/
structure OpensF {α : Type} (P : Program) (fs : List Field) (off : Nat) (K : Kd α) (wf : α → Prop) (n : Nat) : Prop where
  opened : ∀ {H : Type} {enc : TypeId × Value → H} {w : World} {cs : List Value} {xs : List (DataW H × List MemPlace)},
    off + K.sz ≤ cs.length → xs.length = fs.length →
    (∀ (i : Nat) (f : Field), fs[i]? = some f → DataW.trod enc P w 0 (fun _ => true) true n f.type ((cs.drop f.offset).take (P.cellsOf f.type)) = xs[i]?) →
    (DataW.weightsEach P (fs.map (·.type)) (xs.map (·.1))).all (· ≤ reachBytes) = true → ∃ y, K.K w y ((cs.drop off).take K.sz) ∧ wf y

theorem opens_int {P : Program} {t : TypeId} {k : IntKind} (ht : P.underlying t = some (.int k)) (n : Nat) : Opens P t (Kd.int k) (fun x => (Lit.int k x).wf = true) n := by
  refine ⟨?_⟩
  intro H enc w cs x h _
  obtain ⟨m, rfl, _, hw⟩ := DataW.trod_int ht h
  exact ⟨m, rfl, hw⟩

theorem opens_bool {P : Program} {t : TypeId} (ht : P.underlying t = some .bool) (n : Nat) : Opens P t Kd.bool (fun _ => True) n := by
  refine ⟨?_⟩
  intro H enc w cs x h _
  obtain ⟨b, rfl, _⟩ := DataW.trod_bool ht h
  exact ⟨b, rfl, trivial⟩

theorem opens_string {P : Program} {t : TypeId} (ht : P.underlying t = some .string) (n : Nat) : Opens P t Kd.string (fun s => s.size ≤ 140737488351232) n := by
  refine ⟨?_⟩
  intro H enc w cs x h hs
  obtain ⟨s, rfl, rfl, _⟩ := DataW.trod_string ht h
  refine ⟨s, rfl, ?_⟩
  have := List.all_eq_true.1 hs s.data.toList.length (by simp [DataW.weights])
  have h2 : s.data.toList.length ≤ reachBytes := by simpa using this
  rw [Array.length_toList] at h2
  exact h2

theorem weights_all {H : Type} {P : Program} {e : TypeId} : ∀ {l : List (DataW H)}, (DataW.weightsAll P e l).all (· ≤ reachBytes) = true → ∀ d ∈ l, (d.weights P e).all (· ≤ reachBytes) = true
  | [], _, d, hd => by cases hd
  | a :: r, h, d, hd => by
    simp only [DataW.weightsAll, List.all_append, Bool.and_eq_true] at h
    rcases List.mem_cons.1 hd with rfl | hd
    · exact h.1
    · exact weights_all h.2 d hd

theorem list_of {α β : Type} (R : α → β → Prop) : ∀ (xs : List α), (∀ x ∈ xs, ∃ y, R x y) → ∃ ys : List β, ys.length = xs.length ∧ ∀ (i : Nat) (x : α), xs[i]? = some x → ∃ y, ys[i]? = some y ∧ R x y
  | [], _ => ⟨[], rfl, by simp⟩
  | a :: r, h => by
    obtain ⟨y, hy⟩ := h a (by simp)
    obtain ⟨ys, hl, hr⟩ := list_of R r (fun x hx => h x (by simp [hx]))
    refine ⟨y :: ys, by simp [hl], ?_⟩
    intro i x hx
    cases i with
    | zero => simp at hx; subst hx; exact ⟨y, by simp, hy⟩
    | succ i => simp at hx; simpa using hr i x hx

theorem opens_slice {α : Type} {P : Program} {t e : TypeId} {K : Kd α} {wf : α → Prop} {B : Nat} (ht : P.underlying t = some (.slice e)) (hc : P.cellsOf e = K.sz) (hB : P.bytesOf e = B) (n : Nat) (he : Opens P e K wf n) :
    Opens P t (Kd.slice e K) (fun l => l.length * B ≤ 140737488351232 ∧ ∀ x ∈ l, wf x) (n + 1) := by
  refine ⟨?_⟩
  intro H enc w cs x h hs
  rcases DataW.trod_slice ht h with ⟨rfl, _⟩ | ⟨a, len, cap, elems, rest, m, hm, rfl, rfl, hb, hl, hcap, hlen, hel, _, _⟩
  · exact ⟨[], ⟨none, 0, rfl, by simp, rfl, by simp, by simp⟩, by simp, by simp⟩
  · obtain rfl : n = m := by omega
    simp only [DataW.weights, ht] at hs
    have hs2 : (elems.length + rest.length) * B ≤ 140737488351232 ∧ (DataW.weightsAll P e (elems.map (·.1))).all (· ≤ reachBytes) = true := by
      rw [List.all_cons, List.all_append] at hs
      simp only [Bool.and_eq_true, decide_eq_true_eq, List.length_map] at hs
      rw [hB] at hs
      exact ⟨hs.1, hs.2.1⟩
    have each : ∀ (i : Nat) (y : DataW H × List MemPlace), elems[i]? = some y → ∃ cs, (w.cells? 0 (a.add (i * K.sz)) K.sz) = some cs ∧ ∃ z, K.K w z cs ∧ wf z := by
      intro i y hy
      have hi : i < len := by
        have := (List.getElem?_eq_some_iff.1 hy).1
        omega
      have h1 := hel i hi
      rw [hy, hc, Option.bind_eq_some_iff] at h1
      obtain ⟨c, hcs, h2⟩ := h1
      have hw := weights_all hs2.2 y.1 (List.mem_map_of_mem (List.mem_of_getElem? hy))
      exact ⟨c, hcs, he.opened h2 hw⟩
    obtain ⟨ys, hyl, hys⟩ := list_of (fun (i : Nat) (z : α) => ∃ cs, (w.cells? 0 (a.add (i * K.sz)) K.sz) = some cs ∧ K.K w z cs ∧ wf z) (List.range len) (by
      intro i hi
      have hi2 : i < elems.length := by rw [hlen]; exact List.mem_range.1 hi
      obtain ⟨c, h1, z, h2, h3⟩ := each i elems[i] (List.getElem?_eq_getElem hi2)
      exact ⟨z, c, h1, h2, h3⟩)
    rw [List.length_range] at hyl
    have got : ∀ (j : Nat) (p : α), ys[j]? = some p → ∃ cs, (w.cells? 0 (a.add (j * K.sz)) K.sz) = some cs ∧ K.K w p cs ∧ wf p := by
      intro j p hp
      have hj : j < len := by
        have := (List.getElem?_eq_some_iff.1 hp).1
        omega
      obtain ⟨q, hq, hR⟩ := hys j j (by rw [List.getElem?_range hj])
      rw [hp] at hq
      obtain rfl := Option.some.inj hq
      exact hR
    refine ⟨ys, ⟨some a, cap, by rw [hyl], by omega, hyl ▸ rfl, ?_, ?_⟩, ?_, ?_⟩
    · unfold maxLen at hcap
      omega
    · intro _
      refine ⟨a, rfl, ?_⟩
      intro j p hp
      obtain ⟨c, h1, h2, _⟩ := got j p hp
      obtain ⟨_, hl2, hcell⟩ := _root_.Go.World.cells?_some h1
      refine ⟨c, hl2, h2, ?_⟩
      intro i u hu
      have hi : i < K.sz := by
        have := (List.getElem?_eq_some_iff.1 hu).1
        omega
      have := hcell i hi
      rw [Addr.add_add] at this
      rw [this, hu]
    · have : len * B ≤ (elems.length + rest.length) * B := Nat.mul_le_mul_right _ (by omega)
      rw [hyl]
      omega
    · intro x hx
      obtain ⟨j, hj⟩ := List.getElem?_of_mem hx
      obtain ⟨_, _, _, h3⟩ := got j x hj
      exact h3

theorem opensF_one {α : Type} {P : Program} {f : Field} {off : Nat} {K : Kd α} {wf : α → Prop} (ho : f.offset = off) (hc : P.cellsOf f.type = K.sz) (n : Nat) (h : Opens P f.type K wf n) : OpensF P [f] off K wf n := by
  refine ⟨?_⟩
  intro H enc w cs xs _ hx ht hs
  match xs, hx with
  | [y], _ =>
    have := ht 0 f rfl
    rw [ho, hc] at this
    simp only [List.map_cons, List.map_nil, DataW.weightsEach, List.append_nil] at hs
    exact h.opened this hs

theorem opensF_cons {α β : Type} {P : Program} {f : Field} {fs : List Field} {off : Nat} {K : Kd α} {L : Kd β} {wf : α → Prop} {wg : β → Prop} (ho : f.offset = off) (hc : P.cellsOf f.type = K.sz) (n : Nat) (h : Opens P f.type K wf n)
    (r : OpensF P fs (off + K.sz) L wg n) : OpensF P (f :: fs) off (Kd.pair K L) (fun x => wf x.1 ∧ wg x.2) n := by
  refine ⟨?_⟩
  intro H enc w cs xs hl hx ht hs
  have hsz : (Kd.pair K L).sz = K.sz + L.sz := rfl
  rw [hsz] at hl
  match xs, hx with
  | y :: ys, hx =>
    have h0 := ht 0 f rfl
    rw [ho, hc] at h0
    simp only [List.map_cons, DataW.weightsEach, List.all_append, Bool.and_eq_true] at hs
    obtain ⟨a, ha, wa⟩ := h.opened h0 hs.1
    obtain ⟨b, hb, wb⟩ := r.opened (cs := cs) (xs := ys) (by omega) (by simpa using hx) (fun i g hg => by simpa using ht (i + 1) g (by simpa using hg)) hs.2
    refine ⟨(a, b), ⟨_, _, ?_, ha, hb⟩, wa, wb⟩
    rw [hsz, List.take_add, List.drop_drop]

theorem opens_struct {α β : Type} {P : Program} {t : TypeId} {fs : Array Field} {L : Kd β} {wf : β → Prop} (g : α → β) (gi : β → α) (hg : ∀ b, g (gi b) = b) (ht : P.underlying t = some (.struct fs)) (hc : P.cellsOf t = L.sz) (n : Nat)
    (h : OpensF P fs.toList 0 L wf n) : Opens P t (Kd.iso L g) (fun x => wf (g x)) (n + 1) := by
  refine ⟨?_⟩
  intro H enc w cs x hx hs
  obtain ⟨xs, m, hm, rfl, hl, hlen, hf⟩ := DataW.trod_struct ht hx
  obtain rfl : n = m := by omega
  simp only [DataW.weights, ht] at hs
  obtain ⟨b, hb, wb⟩ := h.opened (cs := cs) (xs := xs) (by rw [hl, hc]; omega) (by simpa using hlen) (fun i f hfi => hf i f (by simpa using hfi)) hs
  have e : (cs.drop 0).take L.sz = cs := by rw [List.drop_zero, List.take_of_length_le (by omega)]
  rw [e] at hb
  refine ⟨gi b, ?_, by show wf (g (gi b)); rw [hg]; exact wb⟩
  show L.K w (g (gi b)) cs
  rw [hg]
  exact hb

theorem Opens.imp {α : Type} {P : Program} {t : TypeId} {K L : Kd α} {wf wg : α → Prop} {n : Nat} (h : Opens P t K wf n) (hk : ∀ w x cs, K.K w x cs → L.K w x cs) (hi : ∀ x, wf x → wg x) : Opens P t L wg n := by
  refine ⟨?_⟩
  intro H enc w cs x hx hs
  obtain ⟨y, h1, h2⟩ := h.opened hx hs
  exact ⟨y, hk _ _ _ h1, hi _ h2⟩

theorem opens_zero {α : Type} (P : Program) (t : TypeId) (K : Kd α) (wf : α → Prop) : Opens P t K wf 0 := by
  refine ⟨?_⟩
  intro H enc w cs x h _
  simp [DataW.trod] at h

/-- An argument. -/
theorem opens_arg {α : Type} {P : Program} {t : TypeId} {K : Kd α} {wf : α → Prop} (h : ∀ n, Opens P t K wf n) {H : Type} {enc : TypeId × Value → H} {w : World} {v : Value} {d : DataW H} {ps : List MemPlace} {ts : List TypeId} {ds : List (DataW H)} {j : Nat}
    (hsz : (DataW.weightsEach P ts ds).all (· ≤ reachBytes) = true) (hj : ts[j]? = some t) (hd : ds[j]? = some d) (hr : DataW.Trod enc P w 0 (fun _ => true) true t v d ps) : ∃ y, K.K w y v.cells.toList ∧ wf y := by
  obtain ⟨n, hn⟩ := hr
  refine (h n).opened hn ?_
  rw [List.all_eq_true]
  intro m hm
  exact List.all_eq_true.1 hsz m (DataW.weights_mem_each hj hd m hm)

end Go.Proofs.YtcfgjaggccnoaaaDoor.Open
