/- The printed TrimLiars comes to true: with at most f liars the mean, the span and the median lie between the least and the greatest of those that do not lie. No condition. -/
import Derived.Test.YtjcjibghnpjegaaPr32
import Derived.Test.YtjcjibghnpjegaaFit
namespace Go.Proofs.Ytjcjibghnpjegaa.Pure
open Go.RowKit Go.Proofs.Ytjcjibghnpjegaa.Pr Go.Proofs.YtjcjibghnpjegaaW.PrintWords Go.Proofs.YtjcjibghnpjegaaW.PrintLast Go.Proofs.YtjcjibghnpjegaaW.PrintMore
open Go.Proofs.Ytjcjibghnpjegaa.Srt Go.Proofs.Ytjcjibghnpjegaa.Ord Go.Proofs.Ytjcjibghnpjegaa.Tri Go.Proofs.Ytjcjibghnpjegaa.Fit
set_option linter.unusedVariables false
set_option linter.unusedSimpArgs false
namespace TrimLiars_

theorem told_ev : Ev (fun k => quorumitelaw10_told.f k) true := Ev.of (quorumitelaw10_told.mono) (k := 40) (by decide +kernel)

/-- with n liars at least cut off on both sides, what is left lies among the others -/
theorem between {b g : List Int} {n : Nat} {lo hi : Int} (hb : b.length ≤ n) (hn : 2 * n < (b ++ g).length) (hg : ∀ x ∈ g, lo ≤ x ∧ x ≤ hi) :
    lo ≤ (S (b ++ g)).getD n 0 ∧ (S (b ++ g)).getD ((b ++ g).length - 1 - n) 0 ≤ hi := by
  have hs := S_sorted (b ++ g)
  have hl := S_length (b ++ g)
  rw [List.length_append] at hn hl
  constructor
  · rw [← below_iff hs _ _ (by omega), below_S, below_append, below_none (fun x hx => (hg x hx).1)]
    have := below_le lo b; omega
  · have h := below_iff hs (hi + 1) ((b ++ g).length - 1 - n) (by rw [List.length_append]; omega)
    rw [below_S, below_append, below_all (v := hi + 1) (l := g) (fun x hx => by have := (hg x hx).2; omega), List.length_append] at h
    rw [List.length_append]
    have h3 : ¬ (hi + 1 ≤ (S (b ++ g)).getD (b.length + g.length - 1 - n) 0) := fun h' => by have := h.2 h'; omega
    omega

theorem l0_ev {b g : List Int} {n : Nat} (hg : g.length ≤ 20) (hb : b.length ≤ n) (hN : b.length ≤ 5) (hn : 2 * n < (b ++ g).length) (hm : mayb (b ++ g) = true) :
    ∀ (d i : Nat) (lo hi : Int), i + d = g.length → (∀ x ∈ g.take i, lo ≤ x ∧ x ≤ hi) → 
    Ev (fun k => quorumitelaw10_TrimLiars.l0 k g (n : Int) (b ++ g) lo hi (i : Int)) true := by
  intro d
  induction d with
  | zero =>
    intro i lo hi hi' hx
    rw [List.take_of_length_le (by omega)] at hx
    obtain ⟨h1, h2⟩ := between hb hn hx
    have hgood : good (b ++ g) (n : Int) := ⟨hm, by omega, by omega⟩
    obtain ⟨h3, h4⟩ := sum_mid_bounds hgood
    rw [Int.toNat_natCast] at h3 h4
    have hlen : (b ++ g).length ≤ 25 := by rw [List.length_append]; omega
    have hs := S_sorted (b ++ g)
    have h5 := sorted_getD hs (i := n) (j := (b ++ g).length - 1 - n) (by omega) (by rw [S_length]; omega)
    have h6 := sorted_getD hs (i := n) (j := ((b ++ g).length - 1) / 2) (by omega) (by rw [S_length]; omega)
    have h7 := sorted_getD hs (i := ((b ++ g).length - 1) / 2) (j := (b ++ g).length - 1 - n) (by omega) (by rw [S_length]; omega)
    apply ev_step
    · intro k
      simp only [quorumitelaw10_TrimLiars.l0]
      rw [if_neg (by omega)]
    · refine Ev.bind (mean_ev _ _ (by omega)) ?_
      refine Ev.bind (span_ev _ _ (by omega)) ?_
      refine Ev.bind (median_ev _ (by omega)) ?_
      refine Ev.bind told_ev ?_
      have hne : b ++ g ≠ [] := fun e => by rw [e] at hn; simp at hn
      rw [meanOf_good hgood, spanOf_good hgood, medOf_good hm hne]
      dsimp only
      rw [Int.toNat_natCast]
      refine ev_pos rfl (ev_pos rfl (ev_pos rfl (ev_pos rfl (ev_pos (by omega) (ev_pos (by omega) (ev_pos h1 (ev_pos h2 (ev_pos h5 (ev_pos h3 (ev_pos h4 (ev_pos h6 ?_)))))))))))
      rw [decide_eq_true h7]
      exact Ev.now _
  | succ d ih =>
    intro i lo hi hi' hx
    have hlt : i < g.length := by omega
    have hw : wrap64 ((i : Int) + 1) = ((i + 1 : Nat) : Int) := by rw [w64 (by omega) (by omega)]; rfl
    refine ev_step (fun k => ?_) (ih (i + 1) (mn lo (g.getD i 0)) (mx hi (g.getD i 0)) (by omega) ?_)
    · simp only [quorumitelaw10_TrimLiars.l0]
      rw [if_pos (by omega), if_pos (by omega), rd_nat, hw]
    · intro x hxm
      rw [List.take_succ_eq_append_getElem hlt, ← getD_el hlt, List.mem_append, List.mem_singleton] at hxm
      unfold mn mx
      rcases hxm with h | h
      · have := hx x h; split <;> split <;> omega
      · subst h; split <;> split <;> omega

theorem j0_ev {b g : List Int} {n : Nat} (hg : g.length ≤ 20) (hb : b.length ≤ n) (hN : b.length ≤ 5) (hm : mayb (b ++ g) = true) (x : Bool) (h : x = false → 2 * n < (b ++ g).length ∧ 0 < g.length) :
    Ev (fun k => quorumitelaw10_TrimLiars.j0 k g (n : Int) (b ++ g) x) true := by
  cases x with
  | true => exact ev_step (fun k => rfl) (Ev.bind told_ev (Ev.now _))
  | false =>
    obtain ⟨h1, h2⟩ := h rfl
    refine ev_step (fun k => ?_) (l0_ev hg hb hN h1 hm g.length 0 (rd g 0) (rd g 0) (Nat.zero_add _) (fun x hx => by simp at hx))
    simp only [quorumitelaw10_TrimLiars.j0]
    rw [if_neg (by simp), if_pos (by omega)]
    rfl
theorem mod3 (x : Int) : ∃ j : Nat, j ≤ 2 ∧ wrap64 (Int.tmod (IntKind.u64.wrap x) 3) = (j : Int) := by
  have hx := u64_range x
  rw [Int.tmod_eq_emod_of_nonneg hx.1]
  have h1 := Int.emod_nonneg (IntKind.u64.wrap x) (b := 3) (by omega)
  have h2 := Int.emod_lt_of_pos (IntKind.u64.wrap x) (b := 3) (by omega)
  exact ⟨((IntKind.u64.wrap x) % 3).toNat, by omega, by rw [w64 (by omega) (by omega)]; omega⟩
end TrimLiars_
open TrimLiars_

theorem TrimLiars : quorumitelaw10_TrimLiars.Pure := by
  intro g0 b0 f hg1 hg2 _ hb1 hb2 _ _
  refine Ev.rounds (g := fun k => quorumitelaw10_TrimLiars.f k g0 b0 f) ?_
  unfold quorumitelaw10_TrimLiars.f
  refine Ev.bind (fit_ev g0 20 (by omega) (by omega)) ?_
  refine Ev.bind (fit_ev b0 5 (by omega) (by omega)) ?_
  have hg := fitl_length g0 20
  have hb := fitl_length b0 5
  have hm : mayb (fitl b0 5 ++ fitl g0 20) = true := by
    rw [mayb_iff, List.length_append]
    refine ⟨by omega, fun x hx => ?_⟩
    rcases List.mem_append.1 hx with h | h
    · exact fitl_mem h
    · exact fitl_mem h
  generalize fitl g0 20 = g at *
  generalize fitl b0 5 = b at *
  obtain ⟨j, hj, he⟩ := mod3 f
  rw [he]
  have h1 : wrap64 ((b.length : Int) + (j : Int)) = ((b.length + j : Nat) : Int) := by rw [w64 (by omega) (by omega)]; rfl
  have h2 : wrap64 (wrap64 (2 * ((b.length + j : Nat) : Int)) + 1) = 2 * ((b.length + j : Nat) : Int) + 1 := by
    rw [w64 (x := 2 * ((b.length + j : Nat) : Int)) (by omega) (by omega), w64 (by omega) (by omega)]
  rw [h1, h2]
  simp only [Option.bind_some, List.nil_append, List.length_nil]
  refine ev_pos (by omega) (ev_pos (by omega) ?_)
  refine ev_if (fun _ => j0_ev hg (by omega) hb hm _ (fun h => by cases h)) (fun h => j0_ev hg (by omega) hb hm _ (fun h' => ⟨by omega, ?_⟩))
  have : ¬ ((g.length : Int) = 0) := by simpa using h'
  omega

end Go.Proofs.Ytjcjibghnpjegaa.Pure
