/- The printed OrderRanks comes to true: of two rows of at most 25 numbers each rank in the union is the sum of both, and the k-th has at most k below it, and less than all that are not above. No condition. -/
import Derived.Test.YtjcjibghnpjegaaPr17
import Derived.Test.YtjcjibghnpjegaaOrd
namespace Go.Proofs.Ytjcjibghnpjegaa.Pure
open Go.RowKit Go.Proofs.Ytjcjibghnpjegaa.Pr Go.Proofs.YtjcjibghnpjegaaW.PrintWords Go.Proofs.YtjcjibghnpjegaaW.PrintLast
open Go.Proofs.Ytjcjibghnpjegaa.Srt Go.Proofs.Ytjcjibghnpjegaa.Ord
set_option linter.unusedVariables false
set_option linter.unusedSimpArgs false
namespace OrderRanks_

theorem told_ev : Ev (fun k => quorumitelaw9_told.f k) true := Ev.of (quorumitelaw9_told.mono) (k := 40) (by decide +kernel)

theorem l0_ev {a b : List Int} (hA : a.length ≤ 25) (hB : b.length ≤ 25) (hw : ∀ x ∈ a ++ b, (Lit.int .i64 x).wf = true) : ∀ (d i : Nat), i + d = a.length + b.length → Ev (fun k => quorumitelaw9_OrderRanks.l0 k a b (S (a ++ b)) (i : Int)) true := by
  have hlen : (S (a ++ b)).length = a.length + b.length := by rw [S_length, List.length_append]
  intro d
  induction d with
  | zero =>
    intro i hi
    refine ev_step (f := fun k => (quorumitelaw9_told.f k).bind fun t346 => (if t346 = true then ((order_Union.f k b a).bind fun t347 => ((order_Same.f k (S (a ++ b)) t347).bind fun t350 => (some t350))) else (some false))) (fun k => ?_) ?_
    · simp only [quorumitelaw9_OrderRanks.l0]
      rw [if_neg (by omega)]
    · refine Ev.bind told_ev (ev_pos rfl ?_)
      refine Ev.bind (union_ev b a (by omega)) ?_
      refine Ev.bind (same_ev _ _ (by omega) (by rw [S_length, List.length_append]; omega)) ?_
      rw [S_getD, S_getD, S_congr (List.perm_append_comm (l₁ := a) (l₂ := b)), decide_eq_true rfl]
      exact Ev.now _
  | succ d ih =>
    intro i hi
    have hi' : i < (S (a ++ b)).length := by omega
    have hn := ih (i + 1) (by omega)
    have hwi : wrap64 ((i : Int) + 1) = ((i + 1 : Nat) : Int) := by rw [w64 (by omega) (by omega)]; rfl
    have hx := bounds64 (hw _ (S_getD_mem (l := a ++ b) (k := i) (by rw [List.length_append]; omega)))
    refine ev_step (f := fun k => (order_At.f k (S (a ++ b)) (i : Int)).bind fun bt351 => (if bt351.2 = true then (if 0 ≤ (i : Int) then (if bt351.1 = (rd (S (a ++ b)) (i : Int)) then ((order_Rank.f k (S (a ++ b)) bt351.1).bind fun t354 => (if t354 > (i : Int) then (some false) else (if bt351.1 < 9223372036854775807 then ((order_Rank.f k (S (a ++ b)) (wrap64 (bt351.1 + 1))).bind fun t355 => (if t355 ≤ (i : Int) then (some false) else (quorumitelaw9_OrderRanks.l0 k a b (S (a ++ b)) ((i + 1 : Nat) : Int)))) else (quorumitelaw9_OrderRanks.l0 k a b (S (a ++ b)) ((i + 1 : Nat) : Int))))) else (some false)) else (none)) else (some false))) (fun k => ?_) ?_
    · simp only [quorumitelaw9_OrderRanks.l0]
      rw [if_pos (by omega), hwi]
    · refine Ev.bind (at_ev _ (by omega) hi') ?_
      rw [S_getD]
      refine ev_pos rfl (ev_pos (by omega) (ev_pos (rd_nat _ _).symm ?_))
      dsimp only
      refine Ev.bind (rankf_ev _ _ (by omega)) ?_
      have h1 := (below_iff (S_sorted (a ++ b)) ((S (a ++ b)).getD i 0) i hi').2 (Int.le_refl _)
      refine ev_neg (by omega) ?_
      refine ev_if (fun hlt => ?_) (fun _ => hn)
      rw [w64 (by omega) (by omega)]
      refine Ev.bind (rankf_ev _ _ (by omega)) ?_
      have h2 := below_iff (S_sorted (a ++ b)) ((S (a ++ b)).getD i 0 + 1) i hi'
      refine ev_neg ?_ hn
      intro h
      have := h2.1 (by omega)
      omega

theorem j0_ev (a b : List Int) (v : Int) (hw : ∀ x ∈ a ++ b, (Lit.int .i64 x).wf = true) (x : Bool) (h : x = false → a.length ≤ 25 ∧ b.length ≤ 25) : Ev (fun k => quorumitelaw9_OrderRanks.j0 k a b v x) true := by
  cases x with
  | true => exact ev_step (fun k => rfl) (Ev.bind told_ev (Ev.now _))
  | false =>
    obtain ⟨hA, hB⟩ := h rfl
    refine ev_step (f := fun k => (order_Union.f k a b).bind fun t340 => (if (t340.length : Int) = (wrap64 ((a.length : Int) + (b.length : Int))) then ((order_Rank.f k t340 v).bind fun t343 => ((order_Rank.f k a v).bind fun t344 => ((order_Rank.f k b v).bind fun t345 => (quorumitelaw9_OrderRanks.j1 k a b t340 (t343 != (wrap64 (t344 + t345))))))) else (quorumitelaw9_OrderRanks.j1 k a b t340 true))) (fun k => rfl) ?_
    refine Ev.bind (union_ev a b (by omega)) ?_
    refine ev_pos (by rw [S_length, List.length_append, w64 (by omega) (by omega)]; omega) ?_
    refine Ev.bind (rankf_ev _ _ (by rw [S_length, List.length_append]; omega)) ?_
    refine Ev.bind (rankf_ev _ _ (by omega)) ?_
    refine Ev.bind (rankf_ev _ _ (by omega)) ?_
    have ha := below_le v a
    have hb := below_le v b
    rw [w64 (by omega) (by omega), below_S, below_append, Int.natCast_add, bne_self_eq_false]
    refine ev_step (f := fun k => quorumitelaw9_OrderRanks.l0 k a b (S (a ++ b)) ((0 : Nat) : Int)) (fun k => rfl) ?_
    exact l0_ev hA hB hw _ 0 (Nat.zero_add _)
end OrderRanks_
open OrderRanks_

theorem OrderRanks : quorumitelaw9_OrderRanks.Pure := by
  intro a b v _ _ ha _ _ hb _
  refine Ev.rounds (g := fun k => quorumitelaw9_OrderRanks.f k a b v) ?_
  have hw : ∀ x ∈ a ++ b, (Lit.int .i64 x).wf = true := fun x hx => (List.mem_append.1 hx).elim (ha x) (hb x)
  unfold quorumitelaw9_OrderRanks.f
  refine ev_if (fun _ => j0_ev _ _ _ hw _ (fun h => by cases h)) (fun h1 => j0_ev _ _ _ hw _ (fun h => ?_))
  have := of_decide_eq_false h
  omega

end Go.Proofs.Ytjcjibghnpjegaa.Pure
