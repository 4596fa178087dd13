/- The printed TrimAsks comes to true: medians, means, spans, quorums are what the reference says. No condition. -/
import Derived.Test.YtjcjibghnpjegaaPr30
import Derived.Test.YtjcjibghnpjegaaRef
namespace Go.Proofs.Ytjcjibghnpjegaa.Pure
open Go.RowKit Go.Proofs.Ytjcjibghnpjegaa.Pr Go.Proofs.YtjcjibghnpjegaaW.PrintWords Go.Proofs.YtjcjibghnpjegaaW.PrintLast Go.Proofs.YtjcjibghnpjegaaW.PrintMore
open Go.Proofs.Ytjcjibghnpjegaa.Srt Go.Proofs.Ytjcjibghnpjegaa.Ord Go.Proofs.Ytjcjibghnpjegaa.Tri Go.Proofs.Ytjcjibghnpjegaa.Ref
set_option linter.unusedVariables false
set_option linter.unusedSimpArgs false
namespace TrimAsks_
theorem told_ev : Ev (fun k => quorumitelaw10_told.f k) true := Ev.of (quorumitelaw10_told.mono) (k := 40) (by decide +kernel)
end TrimAsks_
open TrimAsks_

theorem TrimAsks : quorumitelaw10_TrimAsks.Pure := by
  intro l f n q _ _ _ _ _ _
  refine Ev.rounds (g := fun k => quorumitelaw10_TrimAsks.f k l f n q) ?_
  unfold quorumitelaw10_TrimAsks.f
  refine ev_if (fun _ => Ev.bind told_ev (Ev.now _)) (fun hL => ?_)
  refine Ev.bind (median_ev l (by omega)) ?_
  refine Ev.bind (refmedian_ev l (by omega)) ?_
  refine Ev.bind (mean_ev l f (by omega)) ?_
  refine Ev.bind (refmean_ev l f (by omega)) ?_
  refine Ev.bind (span_ev l f (by omega)) ?_
  refine Ev.bind (refspan_ev l f (by omega)) ?_
  refine Ev.bind told_ev ?_
  refine ev_pos rfl (ev_pos rfl (ev_pos (beq_self_eq_true _) (ev_pos rfl (ev_pos (beq_self_eq_true _) (ev_pos rfl (ev_pos rfl (ev_pos (beq_self_eq_true _) ?_)))))))
  rw [quorum_eq, Option.bind_some]
  refine ev_if (fun h => ?_) (fun h => ?_)
  · rw [show (decide (n ≥ q ∧ n > 0) == decide (n > 0)) = true by simp [h]]; exact Ev.now _
  · rw [show (decide (n ≥ q ∧ n > 0) == false) = true by simp [h]]; exact Ev.now _

end Go.Proofs.Ytjcjibghnpjegaa.Pure
