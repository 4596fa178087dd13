/- What the printed functions of package trim come to: may, Median, rest, Mean, Span over the rising permutation. Condition: the rows are shorter than 2^43. -/
import Derived.Test.YtjcjibghnpjegaaPr19
import Derived.Test.YtjcjibghnpjegaaPr20
import Derived.Test.YtjcjibghnpjegaaPr21
import Derived.Test.YtjcjibghnpjegaaPr22
import Derived.Test.YtjcjibghnpjegaaPr23
import Derived.Test.YtjcjibghnpjegaaPr24
import Derived.Test.YtjcjibghnpjegaaOrd
namespace Go.Proofs.Ytjcjibghnpjegaa.Tri
open Go.RowKit Go.Proofs.Ytjcjibghnpjegaa.Pr Go.Proofs.Ytjcjibghnpjegaa.Srt Go.Proofs.Ytjcjibghnpjegaa.Ord Go.Proofs.YtjcjibghnpjegaaW.PrintWords Go.Proofs.YtjcjibghnpjegaaW.PrintLast

def okv (x : Int) : Bool := decide (0 ≤ x) && decide (x ≤ 1099511627776)
/-- numbers that may be: at most 1000, each from 0 to MaxValue -/
def mayb (l : List Int) : Bool := decide ((l.length : Int) ≤ 1000) && l.all okv
theorem okv_iff (x : Int) : okv x = true ↔ 0 ≤ x ∧ x ≤ 1099511627776 := by simp [okv]
theorem mayb_iff (l : List Int) : mayb l = true ↔ l.length ≤ 1000 ∧ ∀ x ∈ l, 0 ≤ x ∧ x ≤ 1099511627776 := by
  simp only [mayb, Bool.and_eq_true, decide_eq_true_eq, List.all_eq_true, okv_iff]
  constructor
  · rintro ⟨h1, h2⟩; exact ⟨by omega, h2⟩
  · rintro ⟨h1, h2⟩; exact ⟨by omega, h2⟩

theorem may_loop (l : List Int) (hL : l.length < 9223372036854775807) : ∀ (d i : Nat) (g : Bool), i + d = l.length → Ev (fun k => trim_may.l0 k g l (l.length : Int) (i : Int)) (g && (l.drop i).all okv) := by
  intro d
  induction d with
  | zero =>
    intro i g hi
    refine ev_step (f := fun k => some (g && (l.drop i).all okv)) (fun k => ?_) (Ev.now _)
    simp only [trim_may.l0]
    rw [if_neg (by omega), List.drop_eq_nil_of_le (by omega), List.all_nil, Bool.and_true]
  | succ d ih =>
    intro i g hi
    have hd := drop_cons (l := l) (i := i) (by omega)
    have hw : wrap64 ((i : Int) + 1) = ((i + 1 : Nat) : Int) := by rw [w64 (by omega) (by omega)]; rfl
    have := ih (i + 1) (g && okv (l.getD i 0)) (by omega)
    rw [hd, List.all_cons, ← Bool.and_assoc]
    refine ev_step (fun k => ?_) this
    simp only [trim_may.l0]
    rw [if_pos (by omega), if_pos (by omega), if_pos (by omega), rd_nat, hw]
    cases g with
    | true =>
      rw [if_pos rfl, Bool.true_and]
      by_cases h : l.getD i 0 ≥ 0
      · rw [if_pos h, okv, decide_eq_true (show 0 ≤ l.getD i 0 from h), Bool.true_and]
      · rw [if_neg h, okv, decide_eq_false (show ¬ 0 ≤ l.getD i 0 from h), Bool.false_and]
    | false => rw [if_neg (by simp), Bool.false_and]

theorem may_ev (l : List Int) (hL : l.length < 9223372036854775807) : Ev (fun k => trim_may.f k l) (mayb l) := by
  have := may_loop l hL l.length 0 (decide ((l.length : Int) ≤ 1000)) (Nat.zero_add _)
  rw [List.drop_zero] at this
  exact this

/-! the middle: without the f least and the f greatest -/
def good (l : List Int) (f : Int) : Prop := mayb l = true ∧ 0 ≤ f ∧ 2 * f < l.length
instance (l : List Int) (f : Int) : Decidable (good l f) := by unfold good; exact inferInstance
def mid (l : List Int) (f : Nat) : List Int := ((S l).drop f).take (l.length - 2 * f)
theorem mid_cut (l : List Int) (f : Nat) : ((S l).take (l.length - f)).drop f = mid l f := by
  unfold mid; rw [List.drop_take, show l.length - f - f = l.length - 2 * f by omega]
theorem mid_length {l : List Int} {f : Nat} (h : 2 * f < l.length) : (mid l f).length = l.length - 2 * f := by
  unfold mid; rw [List.length_take, List.length_drop, S_length]; omega
theorem mid_getD {l : List Int} {f i : Nat} (h : i < l.length - 2 * f) : (mid l f).getD i 0 = (S l).getD (f + i) 0 := by
  unfold mid
  rw [List.getD_eq_getElem?_getD, List.getElem?_take, if_pos h, List.getElem?_drop, ← List.getD_eq_getElem?_getD]
theorem mid_mem {l : List Int} {f : Nat} {x : Int} (h : x ∈ mid l f) : x ∈ l :=
  (S_perm l).mem_iff.1 (List.mem_of_mem_drop (List.mem_of_mem_take h))

theorem rest_ev (l : List Int) (f : Int) (hL : l.length < 17592186044416) : Ev (fun k => trim_rest.f k l f) (if good l f then mid l f.toNat else []) := by
  unfold trim_rest.f
  refine ev_pos hL ?_
  refine Ev.bind (may_ev l (by omega)) ?_
  by_cases h : good l f
  · obtain ⟨h1, h2, h3⟩ := id h
    rw [if_pos h]
    refine ev_pos ⟨h1, h2, by omega, by omega⟩ ?_
    refine Ev.bind (sortf_ev l hL) ?_
    refine ev_pos (S_length l) ?_
    rw [mid_cut]
    exact Ev.now _
  · rw [if_neg h]
    refine ev_neg (fun h' => h ⟨h'.1, h'.2.1, by omega⟩) (Ev.now _)

theorem mean_loop {r : List Int} (hL : r.length ≤ 1000) (h0 : 0 < r.length) (hr : ∀ x ∈ r, 0 ≤ x ∧ x ≤ 1099511627776) : ∀ (d i : Nat) (s : Int), i + d = r.length → 0 ≤ s → s ≤ (i : Int) * 1099511627776 →
    Ev (fun k => trim_Mean.l0 k r s r (r.length : Int) (i : Int)) ((s + sum (r.drop i)) / (r.length : Int), true) := by
  intro d
  induction d with
  | zero =>
    intro i s hi hs hs'
    have hm : s ≤ 1000 * 1099511627776 := by omega
    have h1 := Int.ediv_nonneg hs (b := (r.length : Int)) (by omega)
    have h2 := Int.ediv_le_self (r.length : Int) hs
    refine ev_step (f := fun k => some ((s + sum (r.drop i)) / (r.length : Int), true)) (fun k => ?_) (Ev.now _)
    simp only [trim_Mean.l0]
    rw [if_neg (by omega), if_neg (by omega), List.drop_eq_nil_of_le (by omega), sum_nil, Int.add_zero, Int.tdiv_eq_ediv_of_nonneg hs, w64 (by omega) (by omega)]
  | succ d ih =>
    intro i s hi hs hs'
    have hd := drop_cons (l := r) (i := i) (by omega)
    have hb := hr (r.getD i 0) (by rw [getD_el (by omega)]; exact List.getElem_mem _)
    have hw : wrap64 ((i : Int) + 1) = ((i + 1 : Nat) : Int) := by rw [w64 (by omega) (by omega)]; rfl
    have := ih (i + 1) (s + r.getD i 0) (by omega) (by omega) (by omega)
    rw [hd, sum_cons, ← Int.add_assoc]
    refine ev_step (fun k => ?_) this
    simp only [trim_Mean.l0]
    rw [if_pos (by omega), if_pos (by omega), if_pos (by omega), rd_nat, hw, w64 (by omega) (by omega)]

def meanOf (l : List Int) (f : Int) : Int × Bool := if good l f then (sum (mid l f.toNat) / (l.length - 2 * f), true) else (0, false)
theorem mid_ok {l : List Int} {f : Int} (h : good l f) : (mid l f.toNat).length = l.length - 2 * f.toNat ∧ 0 < (mid l f.toNat).length ∧ (mid l f.toNat).length ≤ 1000 ∧ ∀ x ∈ mid l f.toNat, 0 ≤ x ∧ x ≤ 1099511627776 := by
  obtain ⟨h1, h2, h3⟩ := h
  rw [mayb_iff] at h1
  have hl := mid_length (l := l) (f := f.toNat) (by omega)
  exact ⟨hl, by omega, by omega, fun x hx => h1.2 x (mid_mem hx)⟩

theorem mean_ev (l : List Int) (f : Int) (hL : l.length < 17592186044416) : Ev (fun k => trim_Mean.f k l f) (meanOf l f) := by
  unfold trim_Mean.f meanOf
  refine Ev.bind (rest_ev l f hL) ?_
  by_cases h : good l f
  · obtain ⟨hl, h0, h1, h2⟩ := mid_ok h
    have hf := h.2.1
    have hf' := h.2.2
    rw [if_pos h, if_pos h]
    refine ev_neg (by omega) ?_
    have := mean_loop h1 h0 h2 _ 0 0 (Nat.zero_add _) (by omega) (by omega)
    rw [List.drop_zero, Int.zero_add] at this
    rw [show (l.length : Int) - 2 * f = ((mid l f.toNat).length : Int) by omega]
    exact this
  · rw [if_neg h, if_neg h]
    exact ev_pos rfl (Ev.now _)

def spanOf (l : List Int) (f : Int) : Int × Int × Bool := if good l f then ((S l).getD f.toNat 0, (S l).getD (l.length - 1 - f.toNat) 0, true) else (0, 0, false)
theorem span_ev (l : List Int) (f : Int) (hL : l.length < 17592186044416) : Ev (fun k => trim_Span.f k l f) (spanOf l f) := by
  unfold trim_Span.f spanOf
  refine Ev.bind (rest_ev l f hL) ?_
  by_cases h : good l f
  · obtain ⟨hl, h0, h1, h2⟩ := mid_ok h
    have hf := h.2.1
    have hf' := h.2.2
    rw [if_pos h, if_pos h]
    have hw : wrap64 (((mid l f.toNat).length : Int) - 1) = (((mid l f.toNat).length - 1 : Nat) : Int) := by rw [w64 (by omega) (by omega)]; omega
    refine ev_neg (by omega) (ev_pos (by omega) ?_)
    rw [hw]
    refine ev_pos (by omega) (ev_pos (by omega) ?_)
    rw [rd_nat, show rd (mid l f.toNat) 0 = (mid l f.toNat).getD 0 0 from rfl, mid_getD (by omega), mid_getD (by omega), hl, Nat.add_zero, show f.toNat + (l.length - 2 * f.toNat - 1) = l.length - 1 - f.toNat by omega]
    exact Ev.now _
  · rw [if_neg h, if_neg h]
    exact ev_pos rfl (Ev.now _)

def medOf (l : List Int) : Int × Bool := if mayb l = true ∧ l ≠ [] then ((S l).getD ((l.length - 1) / 2) 0, true) else (0, false)
theorem half {n : Nat} (h : 0 < n) (hn : n < 17592186044416) : wrap64 (Int.tdiv (wrap64 ((n : Int) - 1)) 2) = (((n - 1) / 2 : Nat) : Int) := by
  rw [w64 (x := (n : Int) - 1) (by omega) (by omega), Int.tdiv_eq_ediv_of_nonneg (by omega), w64 (by omega) (by omega)]; omega
theorem median_ev (l : List Int) (hL : l.length < 17592186044416) : Ev (fun k => trim_Median.f k l) (medOf l) := by
  unfold trim_Median.f medOf
  refine Ev.bind (may_ev l (by omega)) ?_
  by_cases h : mayb l = true
  · refine ev_pos h ?_
    by_cases h0 : l = []
    · rw [if_neg (by simp [h0])]
      exact ev_pos (by simp [h0]) (Ev.now _)
    · have h1 : 0 < l.length := List.length_pos_iff.2 h0
      rw [if_pos ⟨h, h0⟩]
      refine ev_neg (by omega) ?_
      rw [half h1 hL]
      refine Ev.bind (at_ev l hL (by omega)) ?_
      exact Ev.now _
  · rw [if_neg (fun h' => h h'.1)]
    exact ev_neg h (Ev.now _)

theorem quorum_eq (n q : Int) : trim_Quorum.f n q = some (decide (n ≥ q ∧ n > 0)) := by
  unfold trim_Quorum.f
  by_cases h : n ≥ q
  · rw [if_pos h]; simp [h]
  · rw [if_neg h]; simp [h]

/-! what the laws of package trim need -/
theorem sum_mid_bounds {l : List Int} {f : Int} (h : good l f) : (S l).getD f.toNat 0 ≤ sum (mid l f.toNat) / (l.length - 2 * f) ∧ sum (mid l f.toNat) / (l.length - 2 * f) ≤ (S l).getD (l.length - 1 - f.toNat) 0 := by
  obtain ⟨hl, h0, h1, h2⟩ := mid_ok h
  have hf := h.2.1
  have hf' := h.2.2
  have hb : ∀ x ∈ mid l f.toNat, (S l).getD f.toNat 0 ≤ x ∧ x ≤ (S l).getD (l.length - 1 - f.toNat) 0 := by
    intro x hx
    obtain ⟨i, hi, rfl⟩ := List.getElem_of_mem hx
    rw [← getD_el hi, mid_getD (by omega)]
    have hs := S_sorted l
    exact ⟨sorted_getD hs (by omega) (by rw [S_length]; omega), sorted_getD hs (by omega) (by rw [S_length]; omega)⟩
  have hsum := sum_bounds hb
  rw [show (l.length : Int) - 2 * f = ((mid l f.toNat).length : Int) by omega]
  have hp : (0 : Int) < ((mid l f.toNat).length : Int) := by omega
  refine ⟨(Int.le_ediv_iff_mul_le hp).2 (by rw [Int.mul_comm]; exact hsum.1), ?_⟩
  have := Int.ediv_le_ediv hp hsum.2
  rwa [Int.mul_ediv_cancel_left _ (by omega)] at this

theorem meanOf_good {l : List Int} {f : Int} (h : good l f) : meanOf l f = (sum (mid l f.toNat) / (l.length - 2 * f), true) := if_pos h
theorem meanOf_bad {l : List Int} {f : Int} (h : ¬ good l f) : meanOf l f = (0, false) := if_neg h
theorem spanOf_good {l : List Int} {f : Int} (h : good l f) : spanOf l f = ((S l).getD f.toNat 0, (S l).getD (l.length - 1 - f.toNat) 0, true) := if_pos h
theorem medOf_good {l : List Int} (h : mayb l = true) (h0 : l ≠ []) : medOf l = ((S l).getD ((l.length - 1) / 2) 0, true) := if_pos ⟨h, h0⟩
/-! fit: numbers that may be -/
def fitv (x : Int) : Int := wrap64 (Int.tmod (IntKind.u64.wrap x) 1099511627777)
theorem fitv_ok (x : Int) : 0 ≤ fitv x ∧ fitv x ≤ 1099511627776 := by
  unfold fitv
  have hx := u64_range x
  rw [Int.tmod_eq_emod_of_nonneg hx.1]
  have h1 := Int.emod_nonneg (IntKind.u64.wrap x) (b := 1099511627777) (by omega)
  have h2 := Int.emod_lt_of_pos (IntKind.u64.wrap x) (b := 1099511627777) (by omega)
  rw [w64 (by omega) (by omega)]; omega
end Go.Proofs.Ytjcjibghnpjegaa.Tri
