/- The printed TrimSpans comes to true: the mean and the span are of just those places that are left, by size. No condition. -/
import Derived.Test.YtjcjibghnpjegaaPr35
import Derived.Test.YtjcjibghnpjegaaFit
namespace Go.Proofs.Ytjcjibghnpjegaa.Pure
open Go.RowKit Go.Proofs.Ytjcjibghnpjegaa.Pr Go.Proofs.YtjcjibghnpjegaaW.PrintWords Go.Proofs.YtjcjibghnpjegaaW.PrintLast Go.Proofs.YtjcjibghnpjegaaW.PrintMore
open Go.Proofs.Ytjcjibghnpjegaa.Srt Go.Proofs.Ytjcjibghnpjegaa.Ord Go.Proofs.Ytjcjibghnpjegaa.Tri Go.Proofs.Ytjcjibghnpjegaa.Fit
set_option linter.unusedVariables false
set_option linter.unusedSimpArgs false
namespace TrimSpans_

theorem told_ev : Ev (fun k => quorumitelaw10_told.f k) true := Ev.of (quorumitelaw10_told.mono) (k := 40) (by decide +kernel)

theorem sum_take_succ {l : List Int} {j : Nat} (h : j < l.length) : sum (l.take (j + 1)) = sum (l.take j) + l.getD j 0 := by
  rw [List.take_succ_eq_append_getElem h, sum_append, getD_el h, sum_cons, sum_nil]; omega

theorem l0_ev {a : List Int} {n : Nat} (hA : a.length ≤ 30) (ha : mayb a = true) (hn : 2 * n < a.length) : ∀ (d i : Nat), n ≤ i → i + d = a.length - n →
    Ev (fun k => quorumitelaw10_TrimSpans.l0 k a (n : Int) (S a) (sum (((S a).drop n).take (i - n))) (i : Int)) true := by
  have hmay := (mayb_iff a).1 ha
  have hlen := S_length a
  have hmem : ∀ x ∈ S a, 0 ≤ x ∧ x ≤ 1099511627776 := fun x hx => hmay.2 x ((S_perm a).mem_iff.1 hx)
  have hbd : ∀ j, 0 ≤ sum (((S a).drop n).take j) ∧ sum (((S a).drop n).take j) ≤ 30 * 1099511627776 := by
    intro j
    have h := sum_bounds (l := ((S a).drop n).take j) (lo := 0) (hi := 1099511627776) (fun x hx => hmem x (List.mem_of_mem_drop (List.mem_of_mem_take hx)))
    have hl : (((S a).drop n).take j).length ≤ 30 := by rw [List.length_take, List.length_drop]; omega
    have := Int.mul_le_mul_of_nonneg_right (a := ((((S a).drop n).take j).length : Int)) (b := 30) (c := 1099511627776) (by omega) (by omega)
    omega
  intro d
  induction d with
  | zero =>
    intro i hi hid
    have hg : good a (n : Int) := ⟨ha, by omega, by omega⟩
    have hng : ¬ good (a ++ [1099511627777]) (n : Int) := fun h => by
      have := ((mayb_iff _).1 h.1).2 1099511627777 (by simp)
      omega
    have hmid : sum (((S a).drop n).take (i - n)) = sum (mid a n) := by unfold mid; rw [show i - n = a.length - 2 * n by omega]
    rw [hmid]
    have hs := hbd (a.length - 2 * n)
    have hs' : 0 ≤ sum (mid a n) ∧ sum (mid a n) ≤ 30 * 1099511627776 := hs
    have hc : wrap64 (((S a).length : Int) - wrap64 (2 * (n : Int))) = (a.length : Int) - 2 * n := by
      rw [w64 (x := 2 * (n : Int)) (by omega) (by omega), w64 (by omega) (by omega)]; omega
    have hq : wrap64 (Int.tdiv (sum (mid a n)) ((a.length : Int) - 2 * n)) = sum (mid a n) / ((a.length : Int) - 2 * n) := by
      have h1 := Int.ediv_nonneg hs'.1 (b := (a.length : Int) - 2 * n) (by omega)
      have h2 := Int.ediv_le_self ((a.length : Int) - 2 * n) hs'.1
      rw [Int.tdiv_eq_ediv_of_nonneg hs'.1, w64 (by omega) (by omega)]
    have hl1 : wrap64 (wrap64 (((S a).length : Int) - 1) - (n : Int)) = ((a.length - 1 - n : Nat) : Int) := by
      rw [w64 (x := ((S a).length : Int) - 1) (by omega) (by omega), w64 (by omega) (by omega)]; omega
    have hhalf := half (n := (S a).length) (by omega) (by omega)
    apply ev_step
    · intro k
      simp only [quorumitelaw10_TrimSpans.l0]
      rw [if_neg (by rw [w64 (by omega) (by omega)]; omega)]
    · refine Ev.bind (mean_ev _ _ (by omega)) ?_
      refine Ev.bind (span_ev _ _ (by omega)) ?_
      refine Ev.bind (median_ev _ (by omega)) ?_
      simp only [Option.bind_some, List.nil_append, List.length_nil]
      refine ev_pos (by omega) (ev_pos (by omega) ?_)
      refine Ev.bind (mean_ev _ _ (by simp; omega)) ?_
      refine Ev.bind told_ev ?_
      rw [meanOf_good hg, spanOf_good hg, meanOf_bad hng, medOf_good ha (fun e => by rw [e] at hn; simp at hn)]
      dsimp only
      rw [hc, hq, hl1, hhalf, Int.toNat_natCast]
      refine ev_pos rfl (ev_pos rfl (ev_pos rfl (ev_pos rfl (ev_neg (by simp) (ev_neg (by omega) (ev_pos rfl (ev_pos (by omega) (ev_pos (by omega) (ev_pos (rd_nat _ _).symm (ev_pos (by omega) (ev_pos (by omega) (ev_pos (rd_nat _ _).symm (ev_pos (by omega) (ev_pos (by omega) ?_))))))))))))))
      rw [rd_nat, hlen, beq_self_eq_true]
      exact Ev.now _
  | succ d ih =>
    intro i hi hid
    have hw : wrap64 ((i : Int) + 1) = ((i + 1 : Nat) : Int) := by rw [w64 (by omega) (by omega)]; rfl
    have e : sum (((S a).drop n).take (i + 1 - n)) = sum (((S a).drop n).take (i - n)) + (S a).getD i 0 := by
      rw [show i + 1 - n = i - n + 1 by omega, sum_take_succ (by rw [List.length_drop]; omega), List.getD_eq_getElem?_getD (l := (S a).drop n), List.getElem?_drop, show n + (i - n) = i by omega, ← List.getD_eq_getElem?_getD]
    have h1 := hbd (i - n)
    have h2 := hbd (i + 1 - n)
    refine ev_step (fun k => ?_) (ih (i + 1) (by omega) (by omega))
    simp only [quorumitelaw10_TrimSpans.l0]
    rw [if_pos (by rw [w64 (by omega) (by omega)]; omega), if_pos (by omega), if_pos (by omega), rd_nat, hw, e, w64 (by omega) (by omega)]
end TrimSpans_
open TrimSpans_

theorem TrimSpans : quorumitelaw10_TrimSpans.Pure := by
  intro l f hl1 _ _ _
  refine Ev.rounds (g := fun k => quorumitelaw10_TrimSpans.f k l f) ?_
  unfold quorumitelaw10_TrimSpans.f
  refine Ev.bind (fit_ev l 30 (by omega) (by omega)) ?_
  have hA := fitl_length l 30
  have ha := fit_may (l := l) (n := 30) (by omega)
  generalize fitl l 30 = a at *
  refine ev_if (fun _ => Ev.bind told_ev (Ev.now _)) (fun h => ?_)
  have hh : wrap64 (Int.tdiv (wrap64 ((a.length : Int) + 1)) 2) = (((a.length + 1) / 2 : Nat) : Int) := by
    rw [w64 (x := (a.length : Int) + 1) (by omega) (by omega), Int.tdiv_eq_ediv_of_nonneg (by omega), w64 (by omega) (by omega)]; omega
  rw [hh]
  obtain ⟨n, hn, he⟩ := place f (n := (a.length + 1) / 2) (by omega) (by omega)
  rw [he]
  refine ev_neg (by rw [u64_in (by omega) (by omega)]; omega) ?_
  refine Ev.bind (sortf_ev a (by omega)) ?_
  refine ev_pos (by rw [S_length]) ?_
  have := l0_ev hA ha (n := n) (by omega) (a.length - n - n) n (Nat.le_refl _) (by omega)
  rw [Nat.sub_self, List.take_zero, sum_nil] at this
  exact this

end Go.Proofs.Ytjcjibghnpjegaa.Pure
