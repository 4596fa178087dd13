/- The printed TrimRises comes to true: numbers of which each is made greater by some have no lesser mean, span, median. No condition. -/
import Derived.Test.YtjcjibghnpjegaaPr33
import Derived.Test.YtjcjibghnpjegaaFit
namespace Go.Proofs.Ytjcjibghnpjegaa.Pure
open Go.RowKit Go.Proofs.Ytjcjibghnpjegaa.Pr Go.Proofs.YtjcjibghnpjegaaW.PrintWords Go.Proofs.YtjcjibghnpjegaaW.PrintLast Go.Proofs.YtjcjibghnpjegaaW.PrintMore
open Go.Proofs.Ytjcjibghnpjegaa.Srt Go.Proofs.Ytjcjibghnpjegaa.Ord Go.Proofs.Ytjcjibghnpjegaa.Tri Go.Proofs.Ytjcjibghnpjegaa.Fit
set_option linter.unusedVariables false
set_option linter.unusedSimpArgs false
namespace TrimRises_

theorem told_ev : Ev (fun k => quorumitelaw10_told.f k) true := Ev.of (quorumitelaw10_told.mono) (k := 40) (by decide +kernel)

theorem mid_mono {a b : List Int} {n : Nat} (hl : a.length = b.length) (h : ∀ i, i < a.length → a.getD i 0 ≤ b.getD i 0) (hn : 2 * n < a.length) : sum (mid a n) ≤ sum (mid b n) := by
  refine sum_le (by rw [mid_length hn, mid_length (by omega), hl]) (fun i hi => ?_)
  rw [mid_length hn] at hi
  rw [mid_getD hi, mid_getD (by omega)]
  exact S_mono hl h _ (by omega)

theorem j1_ev {a b : List Int} {n : Nat} (hA : a.length ≤ 20) (hl : a.length = b.length) (h : ∀ i, i < a.length → a.getD i 0 ≤ b.getD i 0) (ha : mayb a = true) (hb : mayb b = true) (hn : 2 * n < a.length) :
    Ev (fun k => quorumitelaw10_TrimRises.j1 k a (n : Int) b) true := by
  have ga : good a (n : Int) := ⟨ha, by omega, by omega⟩
  have gb : good b (n : Int) := ⟨hb, by omega, by omega⟩
  have h1 := mid_mono hl h hn
  have h2 := S_mono hl h n (by omega)
  have h3 := S_mono hl h (a.length - 1 - n) (by omega)
  have h4 := S_mono hl h ((a.length - 1) / 2) (by omega)
  apply ev_step
  · intro k
    simp only [quorumitelaw10_TrimRises.j1]
    rfl
  · refine Ev.bind (mean_ev _ _ (by omega)) ?_
    refine Ev.bind (mean_ev _ _ (by omega)) ?_
    refine Ev.bind (span_ev _ _ (by omega)) ?_
    refine Ev.bind (span_ev _ _ (by omega)) ?_
    refine Ev.bind (median_ev _ (by omega)) ?_
    refine Ev.bind (median_ev _ (by omega)) ?_
    refine Ev.bind told_ev ?_
    rw [meanOf_good ga, meanOf_good gb, spanOf_good ga, spanOf_good gb, medOf_good ha (fun e => by rw [e] at hn; simp at hn), medOf_good hb (fun e => by rw [hl, e] at hn; simp at hn)]
    dsimp only
    rw [Int.toNat_natCast, ← hl]
    refine ev_pos rfl (ev_pos rfl (ev_pos rfl (ev_pos rfl (ev_pos rfl (ev_pos rfl (ev_pos rfl (ev_pos (Int.ediv_le_ediv (by omega) h1) (ev_pos h2 (ev_pos h3 ?_)))))))))
    rw [decide_eq_true h4]
    exact Ev.now _

theorem l0_ev {a more : List Int} {n : Nat} (hA : a.length ≤ 20) (ha : mayb a = true) (hn : 2 * n < a.length) :
    ∀ (d i : Nat) (b : List Int), i + d = a.length → a.length = b.length → (∀ i, i < a.length → a.getD i 0 ≤ b.getD i 0) → mayb b = true → Ev (fun k => quorumitelaw10_TrimRises.l0 k more a (n : Int) b (i : Int)) true := by
  intro d
  induction d with
  | zero =>
    intro i b hi hl h hb
    refine ev_step (fun k => ?_) (j1_ev hA hl h ha hb hn)
    simp only [quorumitelaw10_TrimRises.l0]
    rw [if_neg (by omega)]
  | succ d ih =>
    intro i b hi hl h hb
    by_cases hm : i < more.length
    · have hw : wrap64 ((i : Int) + 1) = ((i + 1 : Nat) : Int) := by rw [w64 (by omega) (by omega)]; rfl
      have hbb := (mayb_iff b).1 hb
      have hx := hbb.2 (b.getD i 0) (by rw [getD_el (by omega)]; exact List.getElem_mem _)
      have hu := u64_range (more.getD i 0)
      have h1 := Int.emod_nonneg (IntKind.u64.wrap (more.getD i 0)) (b := 1099511627776 - b.getD i 0 + 1) (by omega)
      have h2 := Int.emod_lt_of_pos (IntKind.u64.wrap (more.getD i 0)) (b := 1099511627776 - b.getD i 0 + 1) (by omega)
      have hd : IntKind.u64.wrap (wrap64 (wrap64 (1099511627776 - b.getD i 0) + 1)) = 1099511627776 - b.getD i 0 + 1 := by
        rw [w64 (x := 1099511627776 - b.getD i 0) (by omega) (by omega), w64 (by omega) (by omega), u64_in (by omega) (by omega)]
      refine ev_step (fun k => ?_) (ih (i + 1) (b.set i (b.getD i 0 + (IntKind.u64.wrap (more.getD i 0)) % (1099511627776 - b.getD i 0 + 1))) (by omega) (by rw [List.length_set]; exact hl) ?_ ?_)
      · simp only [quorumitelaw10_TrimRises.l0]
        rw [if_pos (by omega), if_pos (by omega), if_pos (by omega), rd_nat, rd_nat, hd, if_neg (by omega), hw, Int.tmod_eq_emod_of_nonneg hu.1, w64 (x := (IntKind.u64.wrap (more.getD i 0)) % (1099511627776 - b.getD i 0 + 1)) (by omega) (by omega), w64 (by omega) (by omega)]
        rfl
      · intro j hj
        have := h j hj
        by_cases e : i = j
        · subst e
          rw [List.getD_eq_getElem?_getD (l := b.set _ _), List.getElem?_set_self (by omega)]
          simp only [Option.getD_some]; omega
        · rw [List.getD_eq_getElem?_getD (l := b.set _ _), List.getElem?_set_ne e, ← List.getD_eq_getElem?_getD]
          exact this
      · rw [mayb_iff, List.length_set]
        refine ⟨hbb.1, fun x hx => ?_⟩
        rcases List.mem_or_eq_of_mem_set hx with h' | h'
        · exact hbb.2 x h'
        · subst h'; omega
    · refine ev_step (fun k => ?_) (j1_ev hA hl h ha hb hn)
      simp only [quorumitelaw10_TrimRises.l0]
      rw [if_pos (by omega), if_neg (by omega)]
theorem mod5 (x : Int) : ∃ j : Nat, j ≤ 4 ∧ wrap64 (Int.tmod (IntKind.u64.wrap x) 5) = (j : Int) := by
  have hx := u64_range x
  rw [Int.tmod_eq_emod_of_nonneg hx.1]
  have h1 := Int.emod_nonneg (IntKind.u64.wrap x) (b := 5) (by omega)
  have h2 := Int.emod_lt_of_pos (IntKind.u64.wrap x) (b := 5) (by omega)
  exact ⟨((IntKind.u64.wrap x) % 5).toNat, by omega, by rw [w64 (by omega) (by omega)]; omega⟩
end TrimRises_
open TrimRises_

theorem TrimRises : quorumitelaw10_TrimRises.Pure := by
  intro l more f hl1 _ _ hm1 _ _ _
  refine Ev.rounds (g := fun k => quorumitelaw10_TrimRises.f k l more f) ?_
  unfold quorumitelaw10_TrimRises.f
  refine Ev.bind (fit_ev l 20 (by omega) (by omega)) ?_
  have hA := fitl_length l 20
  have ha := fit_may (l := l) (n := 20) (by omega)
  generalize fitl l 20 = a at *
  obtain ⟨j, hj, he⟩ := mod5 f
  rw [he]
  have h2 : wrap64 (wrap64 (2 * (j : Int)) + 1) = 2 * (j : Int) + 1 := by
    rw [w64 (x := 2 * (j : Int)) (by omega) (by omega), w64 (by omega) (by omega)]
  rw [h2]
  refine ev_if (fun _ => Ev.bind told_ev (Ev.now _)) (fun h => ?_)
  simp only [Option.bind_some, List.nil_append, List.length_nil]
  refine ev_pos (by omega) ?_
  exact l0_ev hA ha (by omega) a.length 0 a (Nat.zero_add _) rfl (fun _ _ => Int.le_refl _) ha

end Go.Proofs.Ytjcjibghnpjegaa.Pure
