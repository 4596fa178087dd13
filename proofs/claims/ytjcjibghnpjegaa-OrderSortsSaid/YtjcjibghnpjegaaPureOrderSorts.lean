/- The printed OrderSorts comes to true: a sorted row of at most 40 numbers rises, has each number as often as the row, leaves the row as it was, and is the same. No condition. -/
import Derived.Test.YtjcjibghnpjegaaPr15
import Derived.Test.YtjcjibghnpjegaaOrd
namespace Go.Proofs.Ytjcjibghnpjegaa.Pure
open Go.RowKit Go.Proofs.Ytjcjibghnpjegaa.Pr Go.Proofs.YtjcjibghnpjegaaW.PrintWords Go.Proofs.YtjcjibghnpjegaaW.PrintLast
open Go.Proofs.Ytjcjibghnpjegaa.Srt Go.Proofs.Ytjcjibghnpjegaa.Ord
set_option linter.unusedVariables false
set_option linter.unusedSimpArgs false
namespace OrderSorts_

theorem told_ev : Ev (fun k => quorumitelaw9_told.f k) true := Ev.of (quorumitelaw9_told.mono) (k := 40) (by decide +kernel)

theorem l1_ev {a : List Int} {i : Nat} (hi : i < (S a).length) (hL : a.length ≤ 40) {r : Bool}
    (h : Ev (fun k => quorumitelaw9_OrderSorts.l0 k a (S a) ((i + 1 : Nat) : Int)) r) : ∀ (d j n m : Nat), j + d = a.length → n ≤ j → m ≤ j → n + ((S a).drop j).count ((S a).getD i 0) = m + (a.drop j).count ((S a).getD i 0) →
    Ev (fun k => quorumitelaw9_OrderSorts.l1 k a (S a) (i : Int) (n : Int) (m : Int) (j : Int)) r := by
  have hlen : (S a).length = a.length := S_length a
  intro d
  induction d with
  | zero =>
    intro j n m hj hn hm hc
    rw [List.drop_eq_nil_of_le (by omega), List.drop_eq_nil_of_le (by omega), List.count_nil] at hc
    have hr : below ((S a).getD i 0) a ≤ i := by
      rw [← below_S]; exact (below_iff (S_sorted a) _ i hi).2 (Int.le_refl _)
    have hend : Ev (fun k => (order_Rank.f k a (rd (S a) (i : Int))).bind fun t305 => (if t305 > (i : Int) then (some false) else (quorumitelaw9_OrderSorts.l0 k a (S a) ((i + 1 : Nat) : Int)))) r := by
      rw [rd_nat]
      refine Ev.bind (rankf_ev a _ (by omega)) ?_
      exact ev_neg (by omega) h
    refine ev_step (fun k => ?_) hend
    simp only [quorumitelaw9_OrderSorts.l1]
    rw [if_neg (by omega), if_pos (by omega)]
    have hw : wrap64 ((i : Int) + 1) = ((i + 1 : Nat) : Int) := by rw [w64 (by omega) (by omega)]; rfl
    rw [hw]
    by_cases h0 : (i : Int) > 0
    · have hle := sorted_getD (S_sorted a) (i := i - 1) (j := i) (by omega) hi
      rw [if_pos h0, if_pos (by omega), if_pos (by omega), w64 (by omega) (by omega), if_pos (by omega), if_pos (by omega), if_neg (by rw [show (i : Int) - 1 = ((i - 1 : Nat) : Int) by omega, rd_nat, rd_nat]; omega)]
    · rw [if_neg h0, if_pos (by omega), if_pos (by omega)]
  | succ d ih =>
    intro j n m hj hn hm hc
    rw [count_drop (l := S a) (by omega), count_drop (l := a) (by omega)] at hc
    by_cases e : (S a).getD j 0 = (S a).getD i 0 <;> by_cases e' : a.getD j 0 = (S a).getD i 0
    · rw [if_pos e, if_pos e'] at hc
      refine ev_step (fun k => ?_) (ih (j + 1) (n + 1) (m + 1) (by omega) (by omega) (by omega) (by omega))
      simp only [quorumitelaw9_OrderSorts.l1]
      rw [if_pos (by omega), if_pos (by omega), if_pos (by omega), if_pos (by omega), rd_nat, rd_nat, rd_nat, if_pos e, if_pos (by omega), if_pos e', w64 (by omega) (by omega), w64 (by omega) (by omega), w64 (by omega) (by omega)]
      rfl
    · rw [if_pos e, if_neg e'] at hc
      refine ev_step (fun k => ?_) (ih (j + 1) (n + 1) m (by omega) (by omega) (by omega) (by omega))
      simp only [quorumitelaw9_OrderSorts.l1]
      rw [if_pos (by omega), if_pos (by omega), if_pos (by omega), if_pos (by omega), rd_nat, rd_nat, rd_nat, if_pos e, if_pos (by omega), if_neg e', w64 (by omega) (by omega), w64 (by omega) (by omega)]
      rfl
    · rw [if_neg e, if_pos e'] at hc
      refine ev_step (fun k => ?_) (ih (j + 1) n (m + 1) (by omega) (by omega) (by omega) (by omega))
      simp only [quorumitelaw9_OrderSorts.l1]
      rw [if_pos (by omega), if_pos (by omega), if_pos (by omega), if_pos (by omega), rd_nat, rd_nat, rd_nat, if_neg e, if_pos (by omega), if_pos e', w64 (by omega) (by omega), w64 (by omega) (by omega)]
      rfl
    · rw [if_neg e, if_neg e'] at hc
      refine ev_step (fun k => ?_) (ih (j + 1) n m (by omega) (by omega) (by omega) (by omega))
      simp only [quorumitelaw9_OrderSorts.l1]
      rw [if_pos (by omega), if_pos (by omega), if_pos (by omega), if_pos (by omega), rd_nat, rd_nat, rd_nat, if_neg e, if_pos (by omega), if_neg e', w64 (by omega) (by omega)]
      rfl

theorem l0_ev {a : List Int} (hL : a.length ≤ 40) : ∀ (d i : Nat), i + d = a.length → Ev (fun k => quorumitelaw9_OrderSorts.l0 k a (S a) (i : Int)) true := by
  have hlen : (S a).length = a.length := S_length a
  intro d
  induction d with
  | zero =>
    intro i hi
    refine ev_step (f := fun k => (quorumitelaw9_told.f k).bind fun t299 => (if t299 = true then ((order_Same.f k a (S a)).bind fun t300 => (if t300 = true then ((order_Same.f k (S a) a).bind fun t301 => (some t301)) else (some false))) else (some false))) (fun k => ?_) ?_
    · simp only [quorumitelaw9_OrderSorts.l0]
      rw [if_neg (by omega)]
    · refine Ev.bind told_ev (ev_pos rfl ?_)
      refine Ev.bind (same_ev _ _ (by omega) (by omega)) ?_
      rw [S_getD, decide_eq_true rfl]
      refine ev_pos rfl ?_
      refine Ev.bind (same_ev _ _ (by omega) (by omega)) ?_
      rw [S_getD, decide_eq_true rfl]
      exact Ev.now _
  | succ d ih =>
    intro i hi
    refine ev_step (f := fun k => quorumitelaw9_OrderSorts.l1 k a (S a) (i : Int) ((0 : Nat) : Int) ((0 : Nat) : Int) ((0 : Nat) : Int)) (fun k => ?_) ?_
    · simp only [quorumitelaw9_OrderSorts.l0]
      rw [if_pos (by omega)]
      rfl
    · exact l1_ev (by omega) hL (ih (i + 1) (by omega)) _ 0 0 0 (Nat.zero_add _) (Nat.le_refl _) (Nat.le_refl _) (by rw [List.drop_zero, List.drop_zero, (S_perm a).count_eq])
end OrderSorts_
open OrderSorts_

theorem OrderSorts : quorumitelaw9_OrderSorts.Pure := by
  intro a _ _ _
  refine Ev.rounds (g := fun k => quorumitelaw9_OrderSorts.f k a) ?_
  unfold quorumitelaw9_OrderSorts.f
  refine ev_if (fun _ => Ev.bind told_ev (Ev.now _)) (fun h => ?_)
  simp only [Option.bind_some, List.nil_append, List.length_nil]
  refine ev_pos (by omega) ?_
  refine Ev.bind (sortf_ev a (by omega)) ?_
  refine ev_pos (by rw [S_length]) ?_
  refine Ev.bind (samelistf_ev a a (by omega)) ?_
  rw [decide_eq_true rfl]
  refine ev_step (f := fun k => quorumitelaw9_OrderSorts.l0 k a (S a) ((0 : Nat) : Int)) (fun k => rfl) ?_
  exact l0_ev (by omega) _ 0 (Nat.zero_add _)

end Go.Proofs.Ytjcjibghnpjegaa.Pure
