/- The printed OrderAsks comes to true: sorted rows, ranks, places, unions are what the reference says. No condition. -/
import Derived.Test.YtjcjibghnpjegaaPr14
import Derived.Test.YtjcjibghnpjegaaRef
namespace Go.Proofs.Ytjcjibghnpjegaa.Pure
open Go.RowKit Go.Proofs.Ytjcjibghnpjegaa.Pr Go.Proofs.YtjcjibghnpjegaaW.PrintWords Go.Proofs.YtjcjibghnpjegaaW.PrintLast Go.Proofs.YtjcjibghnpjegaaW.PrintMore
open Go.Proofs.Ytjcjibghnpjegaa.Srt Go.Proofs.Ytjcjibghnpjegaa.Ord Go.Proofs.Ytjcjibghnpjegaa.Tri Go.Proofs.Ytjcjibghnpjegaa.Ref
set_option linter.unusedVariables false
set_option linter.unusedSimpArgs false
namespace OrderAsks_

theorem told_ev : Ev (fun k => quorumitelaw9_told.f k) true := Ev.of (quorumitelaw9_told.mono) (k := 40) (by decide +kernel)

/-- what is asked last: the unions -/
theorem union_same {a b : List Int} (hA : a.length ≤ 40) (hB : b.length ≤ 40) : Ev (fun k => (order_Union.f k a b).bind fun t251 => ((some (([] : List Int) : List Int)).bind fun y254 => (if y254.length + a.length < 17592186044416 then ((some (y254 ++ a : List Int)).bind fun y257 => (if y257.length + b.length < 17592186044416 then ((quorumiteref9_Sort.f (y257 ++ b)).bind fun t263 => ((quorumiteref9_SameList.f k t251 t263).bind fun t266 => (some t266))) else (none))) else (none)))) true := by
  refine Ev.bind (union_ev a b (by omega)) ?_
  simp only [Option.bind_some, List.nil_append, List.length_nil]
  refine ev_pos (by omega) (ev_pos (by omega) ?_)
  refine Ev.bind (g := fun _ => quorumiteref9_Sort.f (a ++ b)) (refsort_ev _ (by rw [List.length_append]; omega)) ?_
  refine Ev.bind (samelistf_ev _ _ (by rw [S_length, List.length_append]; omega)) ?_
  rw [decide_eq_true rfl]
  exact Ev.now _

theorem j1_ev {a b : List Int} (v k : Int) (hA : a.length ≤ 40) (hB : b.length ≤ 40) (x : Int) (ok inn : Bool) (h1 : ok = inn) (h2 : inn = true → 0 ≤ k ∧ k < a.length ∧ x = (S a).getD k.toNat 0) (h3 : inn = false → x = 0) :
    Ev (fun n => quorumitelaw9_OrderAsks.j1 n a b v k (S a) x ok inn) true := by
  have hlen := S_length a
  apply ev_step
  · intro n
    simp only [quorumitelaw9_OrderAsks.j1]
    rfl
  · refine Ev.bind told_ev (ev_pos rfl ?_)
    refine Ev.bind (sortf_ev a (by omega)) ?_
    refine Ev.bind (samelistf_ev _ _ (by omega)) ?_
    refine ev_pos (decide_eq_true rfl) ?_
    refine Ev.bind (rankf_ev a v (by omega)) ?_
    refine Ev.bind (refrankf_ev a v (by omega)) ?_
    refine ev_pos rfl (ev_pos (by rw [h1]; exact beq_self_eq_true _) ?_)
    cases inn with
    | true =>
      obtain ⟨k0, k1, hx⟩ := h2 rfl
      have hm : mn (mx k 0) (mx (wrap64 (((S a).length : Int) - 1)) 0) = k := by
        rw [w64 (by omega) (by omega)]
        unfold mn mx
        repeat (any_goals split)
        all_goals omega
      refine ev_pos rfl ?_
      rw [hm]
      refine ev_pos k0 (ev_pos (by omega) (ev_pos hx ?_))
      refine Ev.bind (same_ev a b (by omega) (by omega)) ?_
      refine Ev.bind (g := fun _ => quorumiteref9_Sort.f b) (refsort_ev b (by omega)) ?_
      refine Ev.bind (samelistf_ev _ _ (by omega)) ?_
      refine ev_pos (beq_self_eq_true _) ?_
      exact union_same hA hB
    | false =>
      refine ev_neg (by simp) (ev_pos (h3 rfl) ?_)
      refine Ev.bind (same_ev a b (by omega) (by omega)) ?_
      refine Ev.bind (g := fun _ => quorumiteref9_Sort.f b) (refsort_ev b (by omega)) ?_
      refine Ev.bind (samelistf_ev _ _ (by omega)) ?_
      refine ev_pos (beq_self_eq_true _) ?_
      exact union_same hA hB

theorem j0_ev (a b : List Int) (v k : Int) (x : Bool) (h : x = false → a.length ≤ 40 ∧ b.length ≤ 40) : Ev (fun n => quorumitelaw9_OrderAsks.j0 n a b v k x) true := by
  cases x with
  | true => exact ev_step (fun k => rfl) (Ev.bind told_ev (Ev.now _))
  | false =>
    obtain ⟨hA, hB⟩ := h rfl
    apply ev_step
    · intro n
      simp only [quorumitelaw9_OrderAsks.j0]
      rw [if_neg (by simp)]
    · refine Ev.bind (g := fun _ => quorumiteref9_Sort.f a) (refsort_ev a (by omega)) ?_
      by_cases hk : 0 ≤ k ∧ k < (a.length : Int)
      · obtain ⟨i, rfl⟩ := Int.eq_ofNat_of_zero_le hk.1
        refine Ev.bind (at_ev a (by omega) (by omega)) ?_
        refine ev_pos (by omega) ?_
        rw [decide_eq_true hk.2]
        exact j1_ev v _ hA hB _ _ _ rfl (fun _ => ⟨hk.1, hk.2, by rw [Int.toNat_natCast]⟩) (fun h => by cases h)
      · refine Ev.bind (at_no_ev a hk) ?_
        refine ev_if (fun h0 => ?_) (fun _ => ?_)
        · rw [decide_eq_false (by omega)]
          exact j1_ev v _ hA hB _ _ _ rfl (fun h => by cases h) (fun _ => rfl)
        · exact j1_ev v _ hA hB _ _ _ rfl (fun h => by cases h) (fun _ => rfl)
end OrderAsks_
open OrderAsks_

theorem OrderAsks : quorumitelaw9_OrderAsks.Pure := by
  intro a b v k _ _ _ _ _ _ _ _
  refine Ev.rounds (g := fun n => quorumitelaw9_OrderAsks.f n a b v k) ?_
  unfold quorumitelaw9_OrderAsks.f
  refine ev_if (fun _ => j0_ev _ _ _ _ _ (fun h => by cases h)) (fun h1 => j0_ev _ _ _ _ _ (fun h => ?_))
  have := of_decide_eq_false h
  omega

end Go.Proofs.Ytjcjibghnpjegaa.Pure
