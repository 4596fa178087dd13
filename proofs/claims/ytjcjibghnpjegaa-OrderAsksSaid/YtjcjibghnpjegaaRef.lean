/- What the reference's sorting by insertion, its may, middle, Mean, Span, Median come to: the same as the program's. Condition: the rows are shorter than 2^43. -/
import Derived.Test.YtjcjibghnpjegaaPr12
import Derived.Test.YtjcjibghnpjegaaPr13
import Derived.Test.YtjcjibghnpjegaaPr25
import Derived.Test.YtjcjibghnpjegaaPr26
import Derived.Test.YtjcjibghnpjegaaPr27
import Derived.Test.YtjcjibghnpjegaaPr28
import Derived.Test.YtjcjibghnpjegaaPr29
import Derived.Test.YtjcjibghnpjegaaTri
namespace Go.Proofs.Ytjcjibghnpjegaa.Ref
set_option linter.unusedVariables false
open Go.RowKit Go.Proofs.Ytjcjibghnpjegaa.Pr Go.Proofs.Ytjcjibghnpjegaa.Srt Go.Proofs.Ytjcjibghnpjegaa.Ord Go.Proofs.Ytjcjibghnpjegaa.Tri Go.Proofs.YtjcjibghnpjegaaW.PrintWords Go.Proofs.YtjcjibghnpjegaaW.PrintLast
open quorumiteref9_Sort (insAt ins insL insAt_le)

theorem insAt_up {m : List Int} {x : Int} : ∀ (n i : Nat), insAt m x n ≤ i → i < n → x < m.getD i 0
  | 0, i, _, h => by omega
  | n + 1, i, h0, h => by
    unfold insAt at h0
    split at h0
    · next hx =>
      by_cases e : i = n
      · subst e; exact hx
      · exact insAt_up n i h0 (by omega)
    · omega
theorem insAt_down {m : List Int} {x : Int} : ∀ (n : Nat), 0 < insAt m x n → m.getD (insAt m x n - 1) 0 ≤ x
  | 0, h => by simp [insAt] at h
  | n + 1, h => by
    unfold insAt at h ⊢
    split at h
    · next hx => rw [if_pos hx]; exact insAt_down n h
    · next hx => rw [if_neg hx]; simp only [Nat.add_sub_cancel]; omega

theorem ins_perm (m : List Int) (x : Int) : (ins m x).Perm (x :: m) := by
  unfold ins
  rw [List.append_assoc, List.singleton_append]
  refine List.perm_middle.trans ?_
  rw [List.take_append_drop]
theorem ins_sorted {m : List Int} (x : Int) (hs : m.Pairwise (· ≤ ·)) : (ins m x).Pairwise (· ≤ ·) := by
  have hk := insAt_le m x m.length
  have hu := insAt_up (m := m) (x := x) m.length
  have hd := insAt_down (m := m) (x := x) m.length
  unfold ins
  generalize insAt m x m.length = k at *
  have hlo : ∀ y ∈ m.take k, y ≤ x := by
    intro y hy
    obtain ⟨i, hi, rfl⟩ := List.getElem_of_mem hy
    rw [List.length_take] at hi
    rw [List.getElem_take, ← getD_el (by omega)]
    have := sorted_getD hs (i := i) (j := k - 1) (by omega) (by omega)
    have := hd (by omega)
    omega
  have hhi : ∀ y ∈ m.drop k, x ≤ y := by
    intro y hy
    obtain ⟨i, hi, rfl⟩ := List.getElem_of_mem hy
    rw [List.length_drop] at hi
    rw [List.getElem_drop, ← getD_el (by omega)]
    have := hu (k + i) (by omega) (by omega)
    omega
  have hb := List.pairwise_append.1 (by rw [List.take_append_drop]; exact hs : (m.take k ++ m.drop k).Pairwise (· ≤ ·))
  rw [List.append_assoc, List.singleton_append, List.pairwise_append, List.pairwise_cons]
  refine ⟨hb.1, ⟨hhi, hb.2.1⟩, fun a ha b hb' => ?_⟩
  rcases List.mem_cons.1 hb' with h | h
  · rw [h]; exact hlo a ha
  · exact hb.2.2 a ha b h
theorem insL_perm : ∀ (l m : List Int), (insL m l).Perm (m ++ l)
  | [], m => by rw [insL, List.append_nil]
  | x :: l, m => by
    rw [insL]
    refine (insL_perm l _).trans (((ins_perm m x).append_right l).trans ?_)
    exact List.perm_middle.symm
theorem insL_sorted : ∀ (l m : List Int), m.Pairwise (· ≤ ·) → (insL m l).Pairwise (· ≤ ·)
  | [], m, h => h
  | x :: l, m, h => insL_sorted l _ (ins_sorted x h)
theorem insL_eq (l : List Int) : insL [] l = S l := S_unique (insL_perm l []) (insL_sorted l [] List.Pairwise.nil)
theorem refsort_eq {l : List Int} (hL : l.length < 17592186044416) : quorumiteref9_Sort.f l = some (S l) := by
  unfold quorumiteref9_Sort.f; rw [if_pos hL, insL_eq]
theorem refsort_ev (l : List Int) (hL : l.length < 17592186044416) : Ev (fun _ => quorumiteref9_Sort.f l) (S l) := by
  rw [refsort_eq hL]; exact Ev.now _

theorem refrank_ev (l : List Int) (v : Int) (hL : l.length < 9223372036854775807) : ∀ (d i n : Nat), i + d = l.length → n ≤ i → Ev (fun k => quorumiteref9_Rank.l0 k l v (n : Int) (i : Int)) ((n + below v (l.drop i) : Nat) : Int) := by
  intro d
  induction d with
  | zero =>
    intro i n hi hn
    refine ev_step (f := fun k => some ((n + below v (l.drop i) : Nat) : Int)) (fun k => ?_) (Ev.now _)
    simp only [quorumiteref9_Rank.l0]
    rw [if_neg (by omega), List.drop_eq_nil_of_le (by omega)]
    rfl
  | succ d ih =>
    intro i n hi hn
    have ha := drop_cons (l := l) (i := i) (by omega)
    by_cases e : l.getD i 0 < v
    · refine ev_step (f := fun k => quorumiteref9_Rank.l0 k l v ((n + 1 : Nat) : Int) ((i + 1 : Nat) : Int)) (fun k => ?_) ?_
      · simp only [quorumiteref9_Rank.l0]
        rw [if_pos (by omega), if_pos (by omega), rd_nat, if_pos e, w64 (by omega) (by omega), w64 (by omega) (by omega)]
        rfl
      · have := ih (i + 1) (n + 1) (by omega) (by omega)
        rw [ha, below_cons, if_pos e, show n + (below v (l.drop (i + 1)) + 1) = n + 1 + below v (l.drop (i + 1)) by omega]
        exact this
    · refine ev_step (f := fun k => quorumiteref9_Rank.l0 k l v (n : Int) ((i + 1 : Nat) : Int)) (fun k => ?_) ?_
      · simp only [quorumiteref9_Rank.l0]
        rw [if_pos (by omega), if_pos (by omega), rd_nat, if_neg e, w64 (by omega) (by omega)]
        rfl
      · have := ih (i + 1) n (by omega) (by omega)
        rw [ha, below_cons, if_neg e]
        exact this
theorem refrankf_ev (l : List Int) (v : Int) (hL : l.length < 9223372036854775807) : Ev (fun k => quorumiteref9_Rank.f k l v) (below v l : Int) := by
  have := refrank_ev l v hL l.length 0 0 (Nat.zero_add _) (Nat.le_refl _)
  rw [List.drop_zero, Nat.zero_add] at this
  exact this

theorem refmay_loop (l : List Int) (hL : l.length < 9223372036854775807) : ∀ (d i : Nat), i + d = l.length → Ev (fun k => quorumiteref9_MayValues.l0 k l (i : Int)) ((l.drop i).all okv && decide ((l.length : Int) ≤ 1000)) := by
  intro d
  induction d with
  | zero =>
    intro i hi
    refine ev_step (f := fun k => some (decide ((l.length : Int) ≤ 1000))) (fun k => ?_) ?_
    · simp only [quorumiteref9_MayValues.l0]
      rw [if_neg (by omega)]
    · rw [List.drop_eq_nil_of_le (by omega), List.all_nil, Bool.true_and]; exact Ev.now _
  | succ d ih =>
    intro i hi
    have hd := drop_cons (l := l) (i := i) (by omega)
    have hw : wrap64 ((i : Int) + 1) = ((i + 1 : Nat) : Int) := by rw [w64 (by omega) (by omega)]; rfl
    rw [hd, List.all_cons]
    by_cases h1 : l.getD i 0 < 0
    · refine ev_step (f := fun k => some false) (fun k => ?_) ?_
      · simp only [quorumiteref9_MayValues.l0]
        rw [if_pos (by omega), if_pos (by omega), rd_nat, if_pos h1]
      · rw [okv, decide_eq_false (show ¬ 0 ≤ l.getD i 0 by omega), Bool.false_and, Bool.false_and, Bool.false_and]; exact Ev.now _
    · by_cases h2 : l.getD i 0 > 1099511627776
      · refine ev_step (f := fun k => some false) (fun k => ?_) ?_
        · simp only [quorumiteref9_MayValues.l0]
          rw [if_pos (by omega), if_pos (by omega), rd_nat, if_neg h1, if_pos h2]
        · rw [okv, decide_eq_false (show ¬ l.getD i 0 ≤ 1099511627776 by omega), Bool.and_false, Bool.false_and, Bool.false_and]; exact Ev.now _
      · refine ev_step (fun k => ?_) (by rw [okv, decide_eq_true (show 0 ≤ l.getD i 0 by omega), decide_eq_true (show l.getD i 0 ≤ 1099511627776 by omega), Bool.true_and, Bool.true_and]; exact ih (i + 1) (by omega))
        simp only [quorumiteref9_MayValues.l0]
        rw [if_pos (by omega), if_pos (by omega), rd_nat, if_neg h1, if_neg h2, hw]
theorem refmay_ev (l : List Int) (hL : l.length < 9223372036854775807) : Ev (fun k => quorumiteref9_MayValues.f k l) (mayb l) := by
  have := refmay_loop l hL l.length 0 (Nat.zero_add _)
  rw [List.drop_zero, Bool.and_comm] at this
  exact this

theorem middle_ev (l : List Int) (f : Int) (hL : l.length < 17592186044416) : Ev (fun k => quorumiteref9_middle.f k l f) (if good l f then mid l f.toNat else []) := by
  unfold quorumiteref9_middle.f
  refine ev_pos hL ?_
  by_cases h : f < 0 ∨ 1000 < f ∨ (l.length : Int) ≤ 2 * f
  · refine ev_pos h ?_
    have hn : ¬ good l f := fun hg => by
      have := ((mayb_iff l).1 hg.1).1
      have := hg.2
      omega
    rw [if_neg hn]; exact Ev.now _
  · refine ev_neg h ?_
    refine Ev.bind (refmay_ev l (by omega)) ?_
    by_cases hm : mayb l = true
    · rw [if_pos (show good l f from ⟨hm, by omega, by omega⟩)]
      refine ev_pos hm ?_
      refine Ev.bind (refsort_ev l hL) ?_
      refine ev_pos (S_length l) ?_
      rw [mid_cut]
      exact Ev.now _
    · rw [if_neg (fun hg : good l f => hm hg.1)]
      exact ev_neg hm (Ev.now _)

theorem refmean_loop {r : List Int} (hL : r.length ≤ 1000) (h0 : 0 < r.length) (hr : ∀ x ∈ r, 0 ≤ x ∧ x ≤ 1099511627776) : ∀ (d i : Nat) (s : Int), i + d = r.length → 0 ≤ s → s ≤ (i : Int) * 1099511627776 →
    Ev (fun k => quorumiteref9_Mean.l0 k r s (i : Int)) ((s + sum (r.drop i)) / (r.length : Int), true) := by
  intro d
  induction d with
  | zero =>
    intro i s hi hs hs'
    have hm : s ≤ 1000 * 1099511627776 := by omega
    have h1 := Int.ediv_nonneg hs (b := (r.length : Int)) (by omega)
    have h2 := Int.ediv_le_self (r.length : Int) hs
    refine ev_step (f := fun k => some ((s + sum (r.drop i)) / (r.length : Int), true)) (fun k => ?_) (Ev.now _)
    simp only [quorumiteref9_Mean.l0]
    rw [if_neg (by omega), if_neg (by omega), List.drop_eq_nil_of_le (by omega), sum_nil, Int.add_zero, Int.tdiv_eq_ediv_of_nonneg hs, w64 (by omega) (by omega)]
  | succ d ih =>
    intro i s hi hs hs'
    have hd := drop_cons (l := r) (i := i) (by omega)
    have hb := hr (r.getD i 0) (by rw [getD_el (by omega)]; exact List.getElem_mem _)
    have hw : wrap64 ((i : Int) + 1) = ((i + 1 : Nat) : Int) := by rw [w64 (by omega) (by omega)]; rfl
    have := ih (i + 1) (s + r.getD i 0) (by omega) (by omega) (by omega)
    rw [hd, sum_cons, ← Int.add_assoc]
    refine ev_step (fun k => ?_) this
    simp only [quorumiteref9_Mean.l0]
    rw [if_pos (by omega), if_pos (by omega), rd_nat, hw, w64 (by omega) (by omega)]

theorem refmean_ev (l : List Int) (f : Int) (hL : l.length < 17592186044416) : Ev (fun k => quorumiteref9_Mean.f k l f) (meanOf l f) := by
  unfold quorumiteref9_Mean.f meanOf
  refine Ev.bind (middle_ev l f hL) ?_
  by_cases h : good l f
  · obtain ⟨hl, h0, h1, h2⟩ := mid_ok h
    have hf := h.2.1
    have hf' := h.2.2
    rw [if_pos h, if_pos h]
    refine ev_neg (by omega) ?_
    have := refmean_loop h1 h0 h2 _ 0 0 (Nat.zero_add _) (by omega) (by omega)
    rw [List.drop_zero, Int.zero_add] at this
    rw [show (l.length : Int) - 2 * f = ((mid l f.toNat).length : Int) by omega]
    exact this
  · rw [if_neg h, if_neg h]
    exact ev_pos rfl (Ev.now _)

theorem refspan_ev (l : List Int) (f : Int) (hL : l.length < 17592186044416) : Ev (fun k => quorumiteref9_Span.f k l f) (spanOf l f) := by
  unfold quorumiteref9_Span.f spanOf
  refine Ev.bind (middle_ev l f hL) ?_
  by_cases h : good l f
  · obtain ⟨hl, h0, h1, h2⟩ := mid_ok h
    have hf := h.2.1
    have hf' := h.2.2
    rw [if_pos h, if_pos h]
    have hw : wrap64 (((mid l f.toNat).length : Int) - 1) = (((mid l f.toNat).length - 1 : Nat) : Int) := by rw [w64 (by omega) (by omega)]; omega
    refine ev_neg (by omega) (ev_pos (by omega) ?_)
    rw [hw]
    refine ev_pos (by omega) (ev_pos (by omega) ?_)
    rw [rd_nat, show rd (mid l f.toNat) 0 = (mid l f.toNat).getD 0 0 from rfl, mid_getD (by omega), mid_getD (by omega), hl, Nat.add_zero, show f.toNat + (l.length - 2 * f.toNat - 1) = l.length - 1 - f.toNat by omega]
    exact Ev.now _
  · rw [if_neg h, if_neg h]
    exact ev_pos rfl (Ev.now _)

theorem refmedian_ev (l : List Int) (hL : l.length < 17592186044416) : Ev (fun k => quorumiteref9_Median.f k l) (medOf l) := by
  unfold quorumiteref9_Median.f
  by_cases h0 : l = []
  · rw [show medOf l = (0, false) from if_neg (fun h => h.2 h0)]
    exact ev_pos (by simp [h0]) (Ev.now _)
  · have h1 : 0 < l.length := List.length_pos_iff.2 h0
    refine ev_neg (by omega) ?_
    refine Ev.bind (refmay_ev l (by omega)) ?_
    by_cases h : mayb l = true
    · rw [medOf_good h h0]
      refine ev_pos h ?_
      refine Ev.bind (refsort_ev l hL) ?_
      rw [half h1 hL]
      refine ev_pos (by omega) (ev_pos (by rw [S_length]; omega) ?_)
      rw [rd_nat]
      exact Ev.now _
    · rw [show medOf l = (0, false) from if_neg (fun h' => h h'.1)]
      exact ev_neg h (Ev.now _)
end Go.Proofs.Ytjcjibghnpjegaa.Ref
