/- The printed OrderUnion comes to true: the union of two rows of at most 25 numbers rises, has each number as often as both rows together, and is the same as both together. No condition. -/
import Derived.Test.YtjcjibghnpjegaaPr11
import Derived.Test.YtjcjibghnpjegaaOrd
namespace Go.Proofs.Ytjcjibghnpjegaa.Pure
open Go.RowKit Go.Proofs.Ytjcjibghnpjegaa.Pr Go.Proofs.YtjcjibghnpjegaaW.PrintWords Go.Proofs.YtjcjibghnpjegaaW.PrintLast
open Go.Proofs.Ytjcjibghnpjegaa.Srt Go.Proofs.Ytjcjibghnpjegaa.Ord
set_option linter.unusedVariables false
set_option linter.unusedSimpArgs false
namespace OrderUnion_

theorem told_ev : Ev (fun k => quorumitelaw9_told.f k) true := Ev.of (quorumitelaw9_told.mono) (k := 40) (by decide +kernel)

theorem l1_ev {a b u : List Int} {i : Nat} (hi : i < u.length) (hL : u.length ≤ 50) {r : Bool} : ∀ (d j n : Nat), j + d = u.length → n ≤ j →
    Ev (fun k => quorumitelaw9_OrderUnion.l2 k a b u (i : Int) ((n + (u.drop j).count (u.getD i 0) : Nat) : Int) 0) r → Ev (fun k => quorumitelaw9_OrderUnion.l1 k a b u (i : Int) (n : Int) (j : Int)) r := by
  intro d
  induction d with
  | zero =>
    intro j n hj hn h
    refine ev_step (fun k => ?_) h
    simp only [quorumitelaw9_OrderUnion.l1]
    rw [if_neg (by omega), List.drop_eq_nil_of_le (by omega)]
    rfl
  | succ d ih =>
    intro j n hj hn h
    rw [count_drop (by omega)] at h
    by_cases e : u.getD j 0 = u.getD i 0
    · rw [if_pos e] at h
      refine ev_step (fun k => ?_) (ih (j + 1) (n + 1) (by omega) (by omega) (by rw [show n + 1 + (u.drop (j + 1)).count (u.getD i 0) = n + ((u.drop (j + 1)).count (u.getD i 0) + 1) by omega]; exact h))
      simp only [quorumitelaw9_OrderUnion.l1]
      rw [if_pos (by omega), if_pos (by omega), if_pos (by omega), if_pos (by omega), rd_nat, rd_nat, if_pos e, w64 (by omega) (by omega), w64 (by omega) (by omega)]
      rfl
    · rw [if_neg e] at h
      refine ev_step (fun k => ?_) (ih (j + 1) n (by omega) (by omega) h)
      simp only [quorumitelaw9_OrderUnion.l1]
      rw [if_pos (by omega), if_pos (by omega), if_pos (by omega), if_pos (by omega), rd_nat, rd_nat, if_neg e, w64 (by omega) (by omega)]
      rfl

theorem l2_ev {a b u : List Int} {i : Nat} (hi : i < u.length) (hL : u.length ≤ 50) (hA : a.length ≤ 50) {r : Bool} : ∀ (d j : Nat) (n : Int), j + d = a.length → n ≤ 50 → - (j : Int) ≤ n →
    Ev (fun k => quorumitelaw9_OrderUnion.l3 k a b u (i : Int) (n - ((a.drop j).count (u.getD i 0) : Nat)) 0) r → Ev (fun k => quorumitelaw9_OrderUnion.l2 k a b u (i : Int) n (j : Int)) r := by
  intro d
  induction d with
  | zero =>
    intro j n hj hn hn' h
    refine ev_step (fun k => ?_) h
    simp only [quorumitelaw9_OrderUnion.l2]
    rw [if_neg (by omega), List.drop_eq_nil_of_le (by omega), List.count_nil]
    simp only [Int.ofNat_eq_natCast, Int.natCast_zero, Int.sub_zero]
  | succ d ih =>
    intro j n hj hn hn' h
    rw [count_drop (by omega)] at h
    by_cases e : a.getD j 0 = u.getD i 0
    · rw [if_pos e] at h
      refine ev_step (fun k => ?_) (ih (j + 1) (n - 1) (by omega) (by omega) (by omega) (by rw [show n - 1 - ((a.drop (j + 1)).count (u.getD i 0) : Nat) = n - (((a.drop (j + 1)).count (u.getD i 0) + 1 : Nat) : Int) by omega]; exact h))
      simp only [quorumitelaw9_OrderUnion.l2]
      rw [if_pos (by omega), if_pos (by omega), if_pos (by omega), if_pos (by omega), rd_nat, rd_nat, if_pos e, w64 (by omega) (by omega), w64 (by omega) (by omega)]
      rfl
    · rw [if_neg e] at h
      refine ev_step (fun k => ?_) (ih (j + 1) n (by omega) (by omega) (by omega) h)
      simp only [quorumitelaw9_OrderUnion.l2]
      rw [if_pos (by omega), if_pos (by omega), if_pos (by omega), if_pos (by omega), rd_nat, rd_nat, if_neg e, w64 (by omega) (by omega)]
      rfl

theorem l3_ev {a b u : List Int} {i : Nat} (hi : i < u.length) (hL : u.length ≤ 50) (hB : b.length ≤ 50) (hs : u.Pairwise (· ≤ ·)) {r : Bool} : ∀ (d j : Nat) (n : Int), j + d = b.length → n ≤ 50 → - 50 - (j : Int) ≤ n → n = ((b.drop j).count (u.getD i 0) : Nat) →
    Ev (fun k => quorumitelaw9_OrderUnion.l0 k a b u ((i + 1 : Nat) : Int)) r → Ev (fun k => quorumitelaw9_OrderUnion.l3 k a b u (i : Int) n (j : Int)) r := by
  intro d
  induction d with
  | zero =>
    intro j n hj hn hn' hc h
    rw [List.drop_eq_nil_of_le (by omega), List.count_nil] at hc
    refine ev_step (fun k => ?_) h
    simp only [quorumitelaw9_OrderUnion.l3]
    rw [if_neg (by omega), if_pos (by omega)]
    by_cases h0 : (i : Int) > 0
    · have hle := sorted_getD hs (i := i - 1) (j := i) (by omega) hi
      rw [if_pos h0, if_pos (by omega), if_pos (by omega), w64 (by omega) (by omega), if_pos (by omega), if_pos (by omega), show (i : Int) - 1 = ((i - 1 : Nat) : Int) by omega, rd_nat, rd_nat, if_neg (by omega), w64 (by omega) (by omega)]
      rfl
    · rw [if_neg h0, w64 (by omega) (by omega)]
      rfl
  | succ d ih =>
    intro j n hj hn hn' hc h
    rw [count_drop (by omega)] at hc
    by_cases e : b.getD j 0 = u.getD i 0
    · rw [if_pos e] at hc
      refine ev_step (fun k => ?_) (ih (j + 1) (n - 1) (by omega) (by omega) (by omega) (by omega) h)
      simp only [quorumitelaw9_OrderUnion.l3]
      rw [if_pos (by omega), if_pos (by omega), if_pos (by omega), if_pos (by omega), rd_nat, rd_nat, if_pos e, w64 (by omega) (by omega), w64 (by omega) (by omega)]
      rfl
    · rw [if_neg e] at hc
      refine ev_step (fun k => ?_) (ih (j + 1) n (by omega) (by omega) (by omega) (by omega) h)
      simp only [quorumitelaw9_OrderUnion.l3]
      rw [if_pos (by omega), if_pos (by omega), if_pos (by omega), if_pos (by omega), rd_nat, rd_nat, if_neg e, w64 (by omega) (by omega)]
      rfl

theorem l0_ev {a b : List Int} (hA : a.length ≤ 25) (hB : b.length ≤ 25) : ∀ (d i : Nat), i + d = (S (a ++ b)).length → Ev (fun k => quorumitelaw9_OrderUnion.l0 k a b (S (a ++ b)) (i : Int)) true := by
  have hlen : (S (a ++ b)).length = a.length + b.length := by rw [S_length, List.length_append]
  intro d
  induction d with
  | zero =>
    intro i hi
    refine ev_step (f := fun k => (quorumitelaw9_told.f k).bind fun t212 => (if t212 = true then ((order_Same.f k (S (a ++ b)) (b ++ a)).bind fun t222 => (some t222)) else (some false))) (fun k => ?_) ?_
    · simp only [quorumitelaw9_OrderUnion.l0]
      rw [if_neg (by omega)]
      simp only [Option.bind_some, List.nil_append, List.length_nil]
      rw [if_pos (by omega), if_pos (by omega)]
    · refine Ev.bind told_ev ?_
      refine ev_pos rfl ?_
      refine Ev.bind (same_ev _ _ (by omega) (by simp; omega)) ?_
      rw [S_getD, S_congr (List.perm_append_comm (l₁ := a) (l₂ := b)), decide_eq_true rfl]
      exact Ev.now _
  | succ d ih =>
    intro i hi
    have hi' : i < (S (a ++ b)).length := by omega
    refine ev_step (f := fun k => quorumitelaw9_OrderUnion.l1 k a b (S (a ++ b)) (i : Int) ((0 : Nat) : Int) ((0 : Nat) : Int)) (fun k => ?_) ?_
    · simp only [quorumitelaw9_OrderUnion.l0]
      rw [if_pos (by omega)]
      rfl
    · have hc := (S_perm (a ++ b)).count_eq ((S (a ++ b)).getD i 0)
      have h1 := count_le (S (a ++ b)) ((S (a ++ b)).getD i 0)
      have h2 := count_le a ((S (a ++ b)).getD i 0)
      rw [List.count_append] at hc
      refine l1_ev hi' (by omega) _ 0 0 (Nat.zero_add _) (Nat.le_refl _) ?_
      refine l2_ev hi' (by omega) (by omega) _ 0 _ (Nat.zero_add _) (by rw [List.drop_zero]; omega) (by omega) ?_
      refine l3_ev hi' (by omega) (by omega) (S_sorted _) _ 0 _ (Nat.zero_add _) (by rw [List.drop_zero, List.drop_zero]; omega) (by rw [List.drop_zero, List.drop_zero]; omega) (by rw [List.drop_zero, List.drop_zero, List.drop_zero]; omega) ?_
      exact ih (i + 1) (by omega)

theorem j0_ev (a b : List Int) (x : Bool) (h : x = false → a.length ≤ 25 ∧ b.length ≤ 25) : Ev (fun k => quorumitelaw9_OrderUnion.j0 k a b x) true := by
  cases x with
  | true =>
    refine ev_step (fun k => rfl) (Ev.bind told_ev (Ev.now _))
  | false =>
    obtain ⟨hA, hB⟩ := h rfl
    refine ev_step (f := fun k => (order_Union.f k a b).bind fun t209 => (if (t209.length : Int) = (wrap64 ((a.length : Int) + (b.length : Int))) then (quorumitelaw9_OrderUnion.l0 k a b t209 0) else (some false))) (fun k => rfl) ?_
    refine Ev.bind (union_ev a b (by omega)) ?_
    refine ev_pos ?_ ?_
    · rw [S_length, List.length_append, w64 (by omega) (by omega)]; omega
    · exact l0_ev hA hB _ 0 (Nat.zero_add _)
end OrderUnion_
open OrderUnion_

theorem OrderUnion : quorumitelaw9_OrderUnion.Pure := by
  intro a b _ _ _ _ _ _
  refine Ev.rounds (g := fun k => quorumitelaw9_OrderUnion.f k a b) ?_
  unfold quorumitelaw9_OrderUnion.f
  refine ev_if (fun _ => j0_ev _ _ _ (fun h => by cases h)) (fun h1 => j0_ev _ _ _ (fun h => ?_))
  have := of_decide_eq_false h
  omega

end Go.Proofs.Ytjcjibghnpjegaa.Pure
