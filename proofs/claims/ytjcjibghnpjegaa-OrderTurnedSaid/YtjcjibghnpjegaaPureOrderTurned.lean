/- The printed OrderTurned comes to true: of a row of 1 to 30 numbers, turned about at a place and with neighbours changed, the k-th, its rank and the numbers are the same. No condition. -/
import Derived.Test.YtjcjibghnpjegaaPr16
import Derived.Test.YtjcjibghnpjegaaOrd
namespace Go.Proofs.Ytjcjibghnpjegaa.Pure
open Go.RowKit Go.Proofs.Ytjcjibghnpjegaa.Pr Go.Proofs.YtjcjibghnpjegaaW.PrintWords Go.Proofs.YtjcjibghnpjegaaW.PrintLast
open Go.Proofs.Ytjcjibghnpjegaa.Srt Go.Proofs.Ytjcjibghnpjegaa.Ord
set_option linter.unusedVariables false
set_option linter.unusedSimpArgs false
namespace OrderTurned_

theorem told_ev : Ev (fun k => quorumitelaw9_told.f k) true := Ev.of (quorumitelaw9_told.mono) (k := 40) (by decide +kernel)

theorem swap_perm {b : List Int} {j : Nat} (h : j + 1 < b.length) : ((b.set j (b.getD (j + 1) 0)).set (j + 1) (b.getD j 0)).Perm b := by
  rw [getD_el h, getD_el (i := j) (by omega)]
  exact List.set_set_perm (by omega) h

theorem l0_ev {a : List Int} (hA : a.length ≤ 30) (h0 : 0 < a.length) (c : Int) : ∀ (d j : Nat) (b : List Int), b.Perm a → b.length ≤ j + d → j ≤ 40 → Ev (fun k => quorumitelaw9_OrderTurned.l0 k a c b (j : Int)) true := by
  intro d
  have hend : ∀ (j : Nat) (b : List Int), b.Perm a → b.length ≤ j + 1 → j ≤ 40 → Ev (fun k => quorumitelaw9_OrderTurned.l0 k a c b (j : Int)) true := by
    intro j b hp hj hj'
    have hb := hp.length_eq
    obtain ⟨n, hn, he⟩ := place c h0 (by omega)
    refine ev_step (f := fun k => ((order_At.f k a (n : Int)).bind fun bt330 => ((order_At.f k b (n : Int)).bind fun bt332 => ((quorumitelaw9_told.f k).bind fun t334 => (if t334 = true then (if bt330.2 = true then (if bt332.2 = true then (if bt330.1 = bt332.1 then ((order_Rank.f k a bt330.1).bind fun t335 => (if t335 ≤ (n : Int) then ((order_Rank.f k a bt330.1).bind fun t336 => ((order_Rank.f k b bt332.1).bind fun t337 => (if t336 = t337 then ((order_Same.f k a b).bind fun t338 => (some t338)) else (some false)))) else (some false))) else (some false)) else (some false)) else (some false)) else (some false)))))) (fun k => ?_) ?_
    · simp only [quorumitelaw9_OrderTurned.l0]
      rw [if_neg (by rw [w64 (by omega) (by omega)]; omega), if_neg (by rw [u64_in (by omega) (by omega)]; omega), he]
    · refine Ev.bind (at_ev a (by omega) hn) ?_
      refine Ev.bind (at_ev b (by omega) (by omega)) ?_
      refine Ev.bind told_ev ?_
      have hr := (below_iff (S_sorted a) ((S a).getD n 0) n (by rw [S_length]; omega)).2 (Int.le_refl _)
      rw [below_S] at hr
      rw [S_congr hp]
      refine ev_pos rfl (ev_pos rfl (ev_pos rfl (ev_pos rfl ?_)))
      dsimp only
      refine Ev.bind (rankf_ev _ _ (by omega)) ?_
      refine ev_pos (by omega) ?_
      refine Ev.bind (rankf_ev _ _ (by omega)) ?_
      refine Ev.bind (rankf_ev _ _ (by omega)) ?_
      refine ev_pos (by rw [below_perm _ hp]) ?_
      refine Ev.bind (same_ev _ _ (by omega) (by omega)) ?_
      rw [S_congr hp, decide_eq_true rfl]
      exact Ev.now _
  induction d with
  | zero => intro j b hp hj hj'; exact hend j b hp (by omega) hj'
  | succ d ih =>
    intro j b hp hj hj'
    have hb := hp.length_eq
    by_cases hlt : j + 1 < b.length
    · have hw : wrap64 ((j : Int) + 1) = ((j + 1 : Nat) : Int) := by rw [w64 (by omega) (by omega)]; rfl
      refine ev_step (f := fun k => quorumitelaw9_OrderTurned.l0 k a c ((b.set j (b.getD (j + 1) 0)).set (j + 1) (b.getD j 0)) ((j + 2 : Nat) : Int)) (fun k => ?_) ?_
      · simp only [quorumitelaw9_OrderTurned.l0]
        rw [hw, if_pos (by omega), if_pos (by omega), if_pos (by omega), if_pos (by omega), rd_nat, rd_nat, w64 (x := (j : Int) + 2) (by omega) (by omega)]
        rfl
      · refine ih (j + 2) _ ((swap_perm hlt).trans hp) ?_ (by omega)
        rw [List.length_set, List.length_set]; omega
    · exact hend j b hp (by omega) hj'

theorem j0_ev (a : List Int) (c e : Int) (x : Bool) (h : x = false → 0 < a.length ∧ a.length ≤ 30) : Ev (fun k => quorumitelaw9_OrderTurned.j0 k a c e x) true := by
  cases x with
  | true => exact ev_step (fun k => rfl) (Ev.bind told_ev (Ev.now _))
  | false =>
    obtain ⟨h0, hA⟩ := h rfl
    obtain ⟨n, hn, he⟩ := place c h0 (by omega)
    refine ev_step (f := fun k => quorumitelaw9_OrderTurned.l0 k a e (a.drop n ++ a.take n) ((0 : Nat) : Int)) (fun k => ?_) ?_
    · simp only [quorumitelaw9_OrderTurned.j0]
      rw [if_neg (by simp), if_neg (by rw [u64_in (by omega) (by omega)]; omega), he]
      simp only [Option.bind_some, List.nil_append, List.length_nil, Int.toNat_natCast]
      rw [if_pos (by omega), if_pos (by omega), if_pos (by rw [List.length_drop]; omega), if_pos (by rw [List.length_drop, List.length_take]; omega)]
      rfl
    · refine l0_ev hA h0 e (a.length) 0 _ ?_ ?_ (by omega)
      · exact List.perm_append_comm.trans (by rw [List.take_append_drop])
      · rw [List.length_append, List.length_drop, List.length_take]; omega
end OrderTurned_
open OrderTurned_

theorem OrderTurned : quorumitelaw9_OrderTurned.Pure := by
  intro a c e _ _ _ _ _
  refine Ev.rounds (g := fun k => quorumitelaw9_OrderTurned.f k a c e) ?_
  unfold quorumitelaw9_OrderTurned.f
  refine ev_if (fun _ => j0_ev _ _ _ _ (fun h => by cases h)) (fun h1 => j0_ev _ _ _ _ (fun h => ?_))
  have := of_decide_eq_false h
  omega

end Go.Proofs.Ytjcjibghnpjegaa.Pure
