/- ScoreNear's epoch in plain words: whatever at most k say, with 2k+1 others at least who stay within d of each other, the median lies among the others', and none of them is struck. -/
import Derived.Test.YtjcjibghnpjegaaScPureP
namespace Go.Proofs.Ytjcjibghnpjegaa.Sc
open Go.RowKit Go.Proofs.Ytjcjibghnpjegaa.Pr Go.Proofs.YtjcjibghnpjegaaW.PrintWords Go.Proofs.YtjcjibghnpjegaaW.PrintLast Go.Proofs.YtjcjibghnpjegaaW.PrintMore
set_option linter.unusedVariables false
set_option linter.unusedSimpArgs false
theorem endL_at (st pr : Int) (fs ft : Int → Bool) : ∀ (l : List Std) (i j : Nat) (s : Std), l[j]? = some s → (endL st pr fs ft i l).1[j]? = some (endS st pr s (fs ((i + j : Nat) : Int)) (ft ((i + j : Nat) : Int))).1
  | [], i, j, s, h => by simp at h
  | t :: l, i, 0, s, h => by
    simp only [List.getElem?_cons_zero, Option.some.injEq] at h
    subst h
    simp [endL]
  | t :: l, i, j + 1, s, h => by
    simp only [List.getElem?_cons_succ] at h
    have := endL_at st pr fs ft l (i + 1) j s h
    simp only [endL, List.getElem?_cons_succ]
    rw [this]
    rw [show i + 1 + j = i + (j + 1) by omega]
/-- The others are believed, and have no strike. -/
def Hon (k c : Nat) (ss : List Std) : Prop := ss.length = c ∧ ∀ i, k ≤ i → i < c → ∃ cl, ss[i]? = some ⟨0, cl, false⟩
/-- The samples: by who; the others' lie from b to b + d. -/
def XS (k : Nat) (b d : Int) (xs : List S49) : Prop := ∀ (j : Nat) (s : S49), xs[j]? = some s → s.f0 = (j : Int) ∧ (0 ≤ s.f3 ∧ s.f3 ≤ 1099511627776) ∧ (k ≤ j → b ≤ s.f3 ∧ s.f3 ≤ b + d)
theorem XS.snoc {k : Nat} {b d : Int} {xs : List S49} (h : XS k b d xs) {s : S49} (hs : s.f0 = (xs.length : Int) ∧ (0 ≤ s.f3 ∧ s.f3 ≤ 1099511627776) ∧ (k ≤ xs.length → b ≤ s.f3 ∧ s.f3 ≤ b + d)) : XS k b d (xs ++ [s]) := by
  intro j t ht
  rcases Nat.lt_or_ge j xs.length with q | q
  · rw [List.getElem?_append_left q] at ht
    exact h j t ht
  · rw [List.getElem?_append_right q] at ht
    match e : j - xs.length, ht with
    | 0, ht =>
      simp only [e, List.getElem?_cons_zero, Option.some.injEq] at ht
      subst ht
      have : j = xs.length := by omega
      subst this
      exact hs
    | n + 1, ht => simp [e] at ht
theorem XS.ok {k : Nat} {b d : Int} {xs : List S49} (h : XS k b d xs) (hl : 0 < xs.length ∧ xs.length ≤ 1000) : okX xs := by
  refine ⟨fun e => by rw [e] at hl; simp at hl, hl.2, fun s hs => ?_⟩
  obtain ⟨j, hj⟩ := List.mem_iff_getElem?.1 hs
  have hjl : j < xs.length := by
    rcases Nat.lt_or_ge j xs.length with q | q
    · exact q
    · rw [List.getElem?_eq_none q] at hj; cases hj
  have e := (h j s hj).1
  exact ⟨by omega, by omega⟩
theorem med_between {L H : List Int} {b d : Int} (hd : 0 ≤ d) (hL : ∀ x ∈ L, 0 ≤ x ∧ x ≤ 1099511627776) (hH : ∀ x ∈ H, (0 ≤ x ∧ x ≤ 1099511627776) ∧ b ≤ x ∧ x ≤ b + d) (hn : 2 * L.length + 1 ≤ H.length) (hs : H.length ≤ 100) :
    ∃ m, Tri.medOf (L ++ H) = (m, true) ∧ b ≤ m ∧ m ≤ b + d := by
  have hlen : (L ++ H).length = L.length + H.length := List.length_append
  have h0 : L ++ H ≠ [] := fun e => by rw [e] at hlen; simp at hlen; omega
  have hok : Tri.mayb (L ++ H) = true := by
    refine (Tri.mayb_iff _).2 ⟨by omega, fun x hx => ?_⟩
    rcases List.mem_append.1 hx with hx | hx
    · exact hL x hx
    · exact (hH x hx).1
  refine ⟨_, Tri.medOf_good hok h0, ?_, ?_⟩
  · refine (Srt.below_iff (Srt.S_sorted _) b _ (by rw [Srt.S_length]; omega)).1 ?_
    rw [Srt.below_S, Srt.below_append, Srt.below_none (fun x hx => (hH x hx).2.1)]
    have := Srt.below_le b L
    omega
  · refine Int.not_lt.1 (fun hlt => ?_)
    have h1 := (Srt.below_iff (Srt.S_sorted (L ++ H)) (b + d + 1) (((L ++ H).length - 1) / 2) (by rw [Srt.S_length]; omega)).2 (by omega)
    rw [Srt.below_S, Srt.below_append, Srt.below_all (l := H) (fun x hx => by have := (hH x hx).2.2; omega)] at h1
    omega
theorem near_close {k c : Nat} {b d : Int} {ss : List Std} {xs : List S49} (hk : k ≤ 3) (hc : 3 * k + 1 ≤ c ∧ c ≤ 16) (hb : 0 ≤ b ∧ b ≤ 1000000) (hd : 0 ≤ d ∧ d ≤ 1000) (hH : Hon k c ss) (hx : XS k b d xs) (hl : xs.length = c) :
    Hon k c (closeS 1 3 d (2 * (k : Int) + 1) [xs] ss).1 := by
  have hkept : kept ss xs = kept ss (xs.take k) ++ xs.drop k := by
    have e : xs = xs.take k ++ xs.drop k := (List.take_append_drop k xs).symm
    have e2 : kept ss (xs.drop k) = xs.drop k := by
      refine kept_all (fun s hs => ?_)
      obtain ⟨j, hj⟩ := List.mem_iff_getElem?.1 hs
      rw [List.getElem?_drop] at hj
      have hjl : k + j < xs.length := by
        rcases Nat.lt_or_ge (k + j) xs.length with q | q
        · exact q
        · rw [List.getElem?_eq_none q] at hj; cases hj
      obtain ⟨cl, hcl⟩ := hH.2 (k + j) (by omega) (by omega)
      have hf := (hx _ s hj).1
      unfold outOf
      have hs1 := hH.1
      rw [if_pos (by omega), hf, Int.toNat_natCast, List.getD_eq_getElem?_getD, hcl]
      rfl
    have e3 : kept ss (xs.take k ++ xs.drop k) = kept ss (xs.take k) ++ kept ss (xs.drop k) := List.filter_append ..
    rw [e2, ← e] at e3
    exact e3
  have hLl : (kept ss (xs.take k)).length ≤ k := by
    have h1 : (kept ss (xs.take k)).length ≤ (xs.take k).length := List.length_filter_le _ _
    have h2 : (xs.take k).length ≤ k := by rw [List.length_take]; omega
    omega
  have hHl : (xs.drop k).length = c - k := by rw [List.length_drop]; omega
  obtain ⟨m, hm, hm1, hm2⟩ := med_between (L := (kept ss (xs.take k)).map (·.f3)) (H := (xs.drop k).map (·.f3)) (b := b) hd.1
    (fun x hx' => by
      obtain ⟨s, hs, rfl⟩ := List.mem_map.1 hx'
      have hs2 : s ∈ xs := List.mem_of_mem_take (List.mem_filter.1 hs).1
      obtain ⟨j, hj⟩ := List.mem_iff_getElem?.1 hs2
      exact (hx j s hj).2.1)
    (fun x hx' => by
      obtain ⟨s, hs, rfl⟩ := List.mem_map.1 hx'
      obtain ⟨j, hj⟩ := List.mem_iff_getElem?.1 hs
      rw [List.getElem?_drop] at hj
      exact ⟨(hx _ s hj).2.1, (hx _ s hj).2.2 (by omega)⟩)
    (by rw [List.length_map, List.length_map]; omega) (by rw [List.length_map]; omega)
  rw [← List.map_append, ← hkept] at hm
  have hkl : (kept ss xs).length = (kept ss (xs.take k)).length + (xs.drop k).length := by rw [hkept, List.length_append]
  rw [close_one rfl hm (by omega) (by omega)]
  have hS : ∀ i : Nat, k ≤ i → struckF d m (kept ss xs) (fun _ => false) (i : Int) = false := by
    intro i hi
    unfold struckF
    rw [Bool.or_false, List.any_eq_false]
    intro s hs
    have hs2 : s ∈ xs := (List.mem_filter.1 hs).1
    obtain ⟨j, hj⟩ := List.mem_iff_getElem?.1 hs2
    obtain ⟨h1, h2, h3⟩ := hx j s hj
    by_cases e : (i : Int) = s.f0
    · obtain ⟨h4, h5⟩ := h3 (by omega)
      have f1 : decide (d < wrap64 (s.f3 - m)) = false := decide_eq_false (by rw [w64' (by omega)]; omega)
      have f2 : decide (d < wrap64 (m - s.f3)) = false := decide_eq_false (by rw [w64' (by omega)]; omega)
      simp [farS, f1, f2]
    · simp [e]
  refine ⟨by rw [endL_length]; exact hH.1, fun i h1 h2 => ?_⟩
  obtain ⟨cl, hcl⟩ := hH.2 i h1 h2
  have := endL_at 1 3 (struckF d m (kept ss xs) (fun _ => false)) (sentF (kept ss xs) (fun _ => false)) ss 0 i _ hcl
  rw [Nat.zero_add, hS i h1] at this
  refine ⟨cl, this.trans ?_⟩
  congr 1
  unfold endS
  rw [if_neg (by simp), if_neg (by simp)]
  split
  · show (⟨max (wrap64 (0 - 1)) 0, cl, false⟩ : Std) = _
    rw [w64' (by omega)]
    rfl
  · rfl
end Go.Proofs.Ytjcjibghnpjegaa.Sc
