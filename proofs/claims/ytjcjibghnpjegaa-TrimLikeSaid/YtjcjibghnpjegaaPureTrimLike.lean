/- The printed TrimLike comes to true: of like numbers the median, the mean, the span are that number, whatever is cut off. No condition. -/
import Derived.Test.YtjcjibghnpjegaaPr34
import Derived.Test.YtjcjibghnpjegaaTri
namespace Go.Proofs.Ytjcjibghnpjegaa.Pure
open Go.RowKit Go.Proofs.Ytjcjibghnpjegaa.Pr Go.Proofs.YtjcjibghnpjegaaW.PrintWords Go.Proofs.YtjcjibghnpjegaaW.PrintLast Go.Proofs.YtjcjibghnpjegaaW.PrintMore
open Go.Proofs.Ytjcjibghnpjegaa.Srt Go.Proofs.Ytjcjibghnpjegaa.Ord Go.Proofs.Ytjcjibghnpjegaa.Tri
set_option linter.unusedVariables false
set_option linter.unusedSimpArgs false
namespace TrimLike_

theorem told_ev : Ev (fun k => quorumitelaw10_told.f k) true := Ev.of (quorumitelaw10_told.mono) (k := 40) (by decide +kernel)

theorem rep_getD {n i : Nat} (x : Int) (h : i < n) : (List.replicate n x).getD i 0 = x := by
  rw [List.getD_eq_getElem?_getD, List.getElem?_replicate, if_pos h]; rfl

theorem l0_ev {n : Nat} {x : Int} (f : Int) (h1 : 1 ≤ n) (h2 : n ≤ 40) (hx : 0 ≤ x ∧ x ≤ 1099511627776) : ∀ (d i : Nat), i + d = n → Ev (fun k => quorumitelaw10_TrimLike.l0 k f (n : Int) x (List.replicate i x) (i : Int)) true := by
  intro d
  induction d with
  | zero =>
    intro i hi
    obtain rfl : i = n := hi
    have hm : mayb (List.replicate i x) = true := by
      rw [mayb_iff, List.length_replicate]
      exact ⟨by omega, fun y hy => by rw [List.eq_of_mem_replicate hy]; exact hx⟩
    have hh : wrap64 (Int.tdiv (wrap64 ((i : Int) + 1)) 2) = (((i + 1) / 2 : Nat) : Int) := by
      rw [w64 (x := (i : Int) + 1) (by omega) (by omega), Int.tdiv_eq_ediv_of_nonneg (by omega), w64 (by omega) (by omega)]; omega
    obtain ⟨c, hc, he⟩ := place f (n := (i + 1) / 2) (by omega) (by omega)
    have hg : good (List.replicate i x) (c : Int) := ⟨hm, by omega, by rw [List.length_replicate]; omega⟩
    have hng : ¬ good (List.replicate i x) (((i + 1) / 2 : Nat) : Int) := fun h => by have := h.2.2; rw [List.length_replicate] at this; omega
    obtain ⟨b1, b2⟩ := sum_mid_bounds hg
    rw [Int.toNat_natCast, S_replicate, List.length_replicate, rep_getD x (by omega)] at b1
    rw [Int.toNat_natCast, S_replicate, List.length_replicate, rep_getD x (by omega)] at b2
    have hL : (List.replicate i x).length ≤ 40 := by rw [List.length_replicate]; exact h2
    apply ev_step
    · intro k
      simp only [quorumitelaw10_TrimLike.l0]
      rw [if_neg (by omega), hh, if_neg (by rw [u64_in (by omega) (by omega)]; omega), he]
    · refine Ev.bind (median_ev _ (by omega)) ?_
      refine Ev.bind (mean_ev _ _ (by omega)) ?_
      refine Ev.bind (span_ev _ _ (by omega)) ?_
      refine Ev.bind (mean_ev _ _ (by omega)) ?_
      refine Ev.bind told_ev ?_
      rw [meanOf_good hg, spanOf_good hg, meanOf_bad hng, medOf_good hm (fun e => by have := congrArg List.length e; rw [List.length_replicate] at this; simp at this; omega)]
      dsimp only
      rw [Int.toNat_natCast, S_replicate, List.length_replicate, rep_getD x (by omega), rep_getD x (by omega), rep_getD x (by omega)]
      refine ev_pos rfl (ev_pos rfl (ev_pos rfl (ev_pos rfl (ev_neg (by simp) (ev_pos rfl (ev_pos (by omega) (ev_pos rfl ?_)))))))
      rw [beq_self_eq_true]
      exact Ev.now _
  | succ d ih =>
    intro i hi
    have hw : wrap64 ((i : Int) + 1) = ((i + 1 : Nat) : Int) := by rw [w64 (by omega) (by omega)]; rfl
    refine ev_step (fun k => ?_) (ih (i + 1) (by omega))
    simp only [quorumitelaw10_TrimLike.l0]
    rw [if_pos (by omega), if_pos (by rw [List.length_replicate]; omega), hw, List.replicate_succ']
theorem mod40 (x : Int) : ∃ j : Nat, j ≤ 39 ∧ wrap64 (1 + wrap64 (Int.tmod (IntKind.u64.wrap x) 40)) = ((j + 1 : Nat) : Int) := by
  have hx := u64_range x
  rw [Int.tmod_eq_emod_of_nonneg hx.1]
  have h1 := Int.emod_nonneg (IntKind.u64.wrap x) (b := 40) (by omega)
  have h2 := Int.emod_lt_of_pos (IntKind.u64.wrap x) (b := 40) (by omega)
  exact ⟨((IntKind.u64.wrap x) % 40).toNat, by omega, by rw [w64 (x := (IntKind.u64.wrap x) % 40) (by omega) (by omega), w64 (by omega) (by omega)]; omega⟩
end TrimLike_
open TrimLike_

theorem TrimLike : quorumitelaw10_TrimLike.Pure := by
  intro v n f _ _ _
  refine Ev.rounds (g := fun k => quorumitelaw10_TrimLike.f k v n f) ?_
  unfold quorumitelaw10_TrimLike.f
  obtain ⟨j, hj, he⟩ := mod40 n
  rw [he]
  exact l0_ev f (by omega) (by omega) (fitv_ok v) (j + 1) 0 (Nat.zero_add _)

end Go.Proofs.Ytjcjibghnpjegaa.Pure
