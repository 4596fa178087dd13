-- Made by a program of this session (wip: patch_print.py, pr.sh) out of the kit's print: functions over lists and the proof that the Go code comes to them.
import Derived.Test.YtjcjibghnpjegaaPr0
import Derived.Test.YtjcjibghnpjegaaPr19
import Derived.Test.YtjcjibghnpjegaaPr21
import Derived.Test.YtjcjibghnpjegaaPr22
import Derived.Test.YtjcjibghnpjegaaPr23
namespace Go.Proofs.Ytjcjibghnpjegaa.Pr
open Go.RowKit Go.Proofs.YtjcjibghnpjegaaW.PrintWords Go.Proofs.YtjcjibghnpjegaaW.PrintLast Go.Proofs.YtjcjibghnpjegaaW.PrintMore
attribute [local go_sem] max2_int min2_int max_two min_two max_three min_three max_four min_four   -- for this text's walks alone
set_option linter.unusedVariables false
set_option linter.unusedSimpArgs false

/-! ### quorumitelaw10_told: function 26 -/
def quorumitelaw10_told.f (k : Nat)  : Option (Bool) := (trim_Median.f k (([4, 1, 3, 2] : List Int))).bind fun bt372 => ((trim_Mean.f k (([1, 5, 100] : List Int)) 1).bind fun bt377 => ((trim_Span.f k (([9, 1, 5, 7] : List Int)) 1).bind fun bt382 => ((trim_Mean.f k (([1, 2] : List Int)) 1).bind fun bt388 => ((trim_Median.f k (([(-1)] : List Int))).bind fun bt393 => ((trim_Mean.f k (([1, 2] : List Int)) 0).bind fun bt398 => (if bt372.1 = 2 then (if bt372.2 = true then (if bt377.1 = 5 then (if bt377.2 = true then (if bt382.1 = 5 then (if bt382.2.1 = 7 then (if bt382.2.2 = true then (if bt388.2 = true then (some false) else (if bt393.2 = true then (some false) else (if bt398.1 = 1 then (if bt398.2 = true then ((trim_Quorum.f 3 3).bind fun t400 => (if t400 = true then ((trim_Quorum.f 2 3).bind fun t401 => (if t401 = true then (some false) else ((trim_Quorum.f 0 (-1)).bind fun t402 => (some (!t402))))) else (some false))) else (some false)) else (some false)))) else (some false)) else (some false)) else (some false)) else (some false)) else (some false)) else (some false)) else (some false)))))))
theorem quorumitelaw10_told.mono : ∀ k, LeO (quorumitelaw10_told.f k ) (quorumitelaw10_told.f (k + 1) ) := by
  intro  k
  unfold quorumitelaw10_told.f
  repeat' first
      | (with_reducible exact trim_Mean.mono _ _ _)
      | (with_reducible exact trim_Median.mono _ _)
      | (with_reducible exact trim_Span.mono _ _ _)
      | (with_reducible exact LeO.refl _)
      | (with_reducible exact LeO.none _)
      | (with_reducible refine LeO.ite ?_ ?_)
      | (with_reducible refine LeO.bind ?_ (fun _ => ?_))
      | exact trim_Mean.mono _ _ _
      | exact trim_Median.mono _ _
      | exact trim_Span.mono _ _ _
      | exact LeO.none _
      | refine LeO.ite ?_ ?_
      | refine LeO.bind ?_ (fun _ => ?_)
set_option maxHeartbeats 8000000 in
set_option maxRecDepth 100000 in
theorem quorumitelaw10_told.calls (k : Nat)  (r : Bool) (w : World) (hrt : r = true) (h : quorumitelaw10_told.f k  = some r) :
    Calls Try.prog 26 #[] w fun e w' => e = .returned (.bool r) ∧ Below w.heap.size w w' := by
  have HRT := Aside0.mk hrt
  clear hrt
  have HB := Aside0.mk (Below.refl w.heap.size w)
  have H : ((trim_Median.f k (([4, 1, 3, 2] : List Int))).bind fun bt372 => ((trim_Mean.f k (([1, 5, 100] : List Int)) 1).bind fun bt377 => ((trim_Span.f k (([9, 1, 5, 7] : List Int)) 1).bind fun bt382 => ((trim_Mean.f k (([1, 2] : List Int)) 1).bind fun bt388 => ((trim_Median.f k (([(-1)] : List Int))).bind fun bt393 => ((trim_Mean.f k (([1, 2] : List Int)) 0).bind fun bt398 => (if bt372.1 = 2 then (if bt372.2 = true then (if bt377.1 = 5 then (if bt377.2 = true then (if bt382.1 = 5 then (if bt382.2.1 = 7 then (if bt382.2.2 = true then (if bt388.2 = true then (some false) else (if bt393.2 = true then (some false) else (if bt398.1 = 1 then (if bt398.2 = true then ((trim_Quorum.f 3 3).bind fun t400 => (if t400 = true then ((trim_Quorum.f 2 3).bind fun t401 => (if t401 = true then (some false) else ((trim_Quorum.f 0 (-1)).bind fun t402 => (some (!t402))))) else (some false))) else (some false)) else (some false)))) else (some false)) else (some false)) else (some false)) else (some false)) else (some false)) else (some false)) else (some false)))))))) = some r := h
  clear h
  obtain ⟨y369, hy369⟩ : ∃ y_ : List Int, y_ = (([4, 1, 3, 2] : List Int)) := ⟨_, rfl⟩
  replace H : ((trim_Median.f k y369).bind fun bt372 => ((trim_Mean.f k (([1, 5, 100] : List Int)) 1).bind fun bt377 => ((trim_Span.f k (([9, 1, 5, 7] : List Int)) 1).bind fun bt382 => ((trim_Mean.f k (([1, 2] : List Int)) 1).bind fun bt388 => ((trim_Median.f k (([(-1)] : List Int))).bind fun bt393 => ((trim_Mean.f k (([1, 2] : List Int)) 0).bind fun bt398 => (if bt372.1 = 2 then (if bt372.2 = true then (if bt377.1 = 5 then (if bt377.2 = true then (if bt382.1 = 5 then (if bt382.2.1 = 7 then (if bt382.2.2 = true then (if bt388.2 = true then (some false) else (if bt393.2 = true then (some false) else (if bt398.1 = 1 then (if bt398.2 = true then ((trim_Quorum.f 3 3).bind fun t400 => (if t400 = true then ((trim_Quorum.f 2 3).bind fun t401 => (if t401 = true then (some false) else ((trim_Quorum.f 0 (-1)).bind fun t402 => (some (!t402))))) else (some false))) else (some false)) else (some false)))) else (some false)) else (some false)) else (some false)) else (some false)) else (some false)) else (some false)) else (some false)))))))) = some r := by first | (rw [hy369]; with_reducible exact H) | (have H2_ := (Option.bind_some _ _).symm.trans H; rw [hy369]; with_reducible exact H2_) | (have H2_ := (Option.bind_some _ _).symm.trans H; with_reducible exact H2_) | with_reducible exact H | (rw [hy369]; exact H) | exact H
  have Ny369 := Aside0.mk hy369
  clear hy369
  replace H := Option.bind_eq_some_iff.mp H
  obtain ⟨⟨t372, t373⟩, A10, H⟩ := H
  replace H : ((trim_Mean.f k (([1, 5, 100] : List Int)) 1).bind fun bt377 => ((trim_Span.f k (([9, 1, 5, 7] : List Int)) 1).bind fun bt382 => ((trim_Mean.f k (([1, 2] : List Int)) 1).bind fun bt388 => ((trim_Median.f k (([(-1)] : List Int))).bind fun bt393 => ((trim_Mean.f k (([1, 2] : List Int)) 0).bind fun bt398 => (if t372 = 2 then (if t373 = true then (if bt377.1 = 5 then (if bt377.2 = true then (if bt382.1 = 5 then (if bt382.2.1 = 7 then (if bt382.2.2 = true then (if bt388.2 = true then (some false) else (if bt393.2 = true then (some false) else (if bt398.1 = 1 then (if bt398.2 = true then ((trim_Quorum.f 3 3).bind fun t400 => (if t400 = true then ((trim_Quorum.f 2 3).bind fun t401 => (if t401 = true then (some false) else ((trim_Quorum.f 0 (-1)).bind fun t402 => (some (!t402))))) else (some false))) else (some false)) else (some false)))) else (some false)) else (some false)) else (some false)) else (some false)) else (some false)) else (some false)) else (some false))))))) = some r := H
  have A1 := Aside0.mk A10
  clear A10
  obtain ⟨y374, hy374⟩ : ∃ y_ : List Int, y_ = (([1, 5, 100] : List Int)) := ⟨_, rfl⟩
  replace H : ((trim_Mean.f k y374 1).bind fun bt377 => ((trim_Span.f k (([9, 1, 5, 7] : List Int)) 1).bind fun bt382 => ((trim_Mean.f k (([1, 2] : List Int)) 1).bind fun bt388 => ((trim_Median.f k (([(-1)] : List Int))).bind fun bt393 => ((trim_Mean.f k (([1, 2] : List Int)) 0).bind fun bt398 => (if t372 = 2 then (if t373 = true then (if bt377.1 = 5 then (if bt377.2 = true then (if bt382.1 = 5 then (if bt382.2.1 = 7 then (if bt382.2.2 = true then (if bt388.2 = true then (some false) else (if bt393.2 = true then (some false) else (if bt398.1 = 1 then (if bt398.2 = true then ((trim_Quorum.f 3 3).bind fun t400 => (if t400 = true then ((trim_Quorum.f 2 3).bind fun t401 => (if t401 = true then (some false) else ((trim_Quorum.f 0 (-1)).bind fun t402 => (some (!t402))))) else (some false))) else (some false)) else (some false)))) else (some false)) else (some false)) else (some false)) else (some false)) else (some false)) else (some false)) else (some false))))))) = some r := by first | (rw [hy374]; with_reducible exact H) | (have H2_ := (Option.bind_some _ _).symm.trans H; rw [hy374]; with_reducible exact H2_) | (have H2_ := (Option.bind_some _ _).symm.trans H; with_reducible exact H2_) | with_reducible exact H | (rw [hy374]; exact H) | exact H
  have Ny374 := Aside0.mk hy374
  clear hy374
  replace H := Option.bind_eq_some_iff.mp H
  obtain ⟨⟨t377, t378⟩, A20, H⟩ := H
  replace H : ((trim_Span.f k (([9, 1, 5, 7] : List Int)) 1).bind fun bt382 => ((trim_Mean.f k (([1, 2] : List Int)) 1).bind fun bt388 => ((trim_Median.f k (([(-1)] : List Int))).bind fun bt393 => ((trim_Mean.f k (([1, 2] : List Int)) 0).bind fun bt398 => (if t372 = 2 then (if t373 = true then (if t377 = 5 then (if t378 = true then (if bt382.1 = 5 then (if bt382.2.1 = 7 then (if bt382.2.2 = true then (if bt388.2 = true then (some false) else (if bt393.2 = true then (some false) else (if bt398.1 = 1 then (if bt398.2 = true then ((trim_Quorum.f 3 3).bind fun t400 => (if t400 = true then ((trim_Quorum.f 2 3).bind fun t401 => (if t401 = true then (some false) else ((trim_Quorum.f 0 (-1)).bind fun t402 => (some (!t402))))) else (some false))) else (some false)) else (some false)))) else (some false)) else (some false)) else (some false)) else (some false)) else (some false)) else (some false)) else (some false)))))) = some r := H
  have A2 := Aside0.mk A20
  clear A20
  obtain ⟨y379, hy379⟩ : ∃ y_ : List Int, y_ = (([9, 1, 5, 7] : List Int)) := ⟨_, rfl⟩
  replace H : ((trim_Span.f k y379 1).bind fun bt382 => ((trim_Mean.f k (([1, 2] : List Int)) 1).bind fun bt388 => ((trim_Median.f k (([(-1)] : List Int))).bind fun bt393 => ((trim_Mean.f k (([1, 2] : List Int)) 0).bind fun bt398 => (if t372 = 2 then (if t373 = true then (if t377 = 5 then (if t378 = true then (if bt382.1 = 5 then (if bt382.2.1 = 7 then (if bt382.2.2 = true then (if bt388.2 = true then (some false) else (if bt393.2 = true then (some false) else (if bt398.1 = 1 then (if bt398.2 = true then ((trim_Quorum.f 3 3).bind fun t400 => (if t400 = true then ((trim_Quorum.f 2 3).bind fun t401 => (if t401 = true then (some false) else ((trim_Quorum.f 0 (-1)).bind fun t402 => (some (!t402))))) else (some false))) else (some false)) else (some false)))) else (some false)) else (some false)) else (some false)) else (some false)) else (some false)) else (some false)) else (some false)))))) = some r := by first | (rw [hy379]; with_reducible exact H) | (have H2_ := (Option.bind_some _ _).symm.trans H; rw [hy379]; with_reducible exact H2_) | (have H2_ := (Option.bind_some _ _).symm.trans H; with_reducible exact H2_) | with_reducible exact H | (rw [hy379]; exact H) | exact H
  have Ny379 := Aside0.mk hy379
  clear hy379
  replace H := Option.bind_eq_some_iff.mp H
  obtain ⟨⟨t382, t383, t384⟩, A30, H⟩ := H
  replace H : ((trim_Mean.f k (([1, 2] : List Int)) 1).bind fun bt388 => ((trim_Median.f k (([(-1)] : List Int))).bind fun bt393 => ((trim_Mean.f k (([1, 2] : List Int)) 0).bind fun bt398 => (if t372 = 2 then (if t373 = true then (if t377 = 5 then (if t378 = true then (if t382 = 5 then (if t383 = 7 then (if t384 = true then (if bt388.2 = true then (some false) else (if bt393.2 = true then (some false) else (if bt398.1 = 1 then (if bt398.2 = true then ((trim_Quorum.f 3 3).bind fun t400 => (if t400 = true then ((trim_Quorum.f 2 3).bind fun t401 => (if t401 = true then (some false) else ((trim_Quorum.f 0 (-1)).bind fun t402 => (some (!t402))))) else (some false))) else (some false)) else (some false)))) else (some false)) else (some false)) else (some false)) else (some false)) else (some false)) else (some false)) else (some false))))) = some r := H
  have A3 := Aside0.mk A30
  clear A30
  obtain ⟨y385, hy385⟩ : ∃ y_ : List Int, y_ = (([1, 2] : List Int)) := ⟨_, rfl⟩
  replace H : ((trim_Mean.f k y385 1).bind fun bt388 => ((trim_Median.f k (([(-1)] : List Int))).bind fun bt393 => ((trim_Mean.f k (([1, 2] : List Int)) 0).bind fun bt398 => (if t372 = 2 then (if t373 = true then (if t377 = 5 then (if t378 = true then (if t382 = 5 then (if t383 = 7 then (if t384 = true then (if bt388.2 = true then (some false) else (if bt393.2 = true then (some false) else (if bt398.1 = 1 then (if bt398.2 = true then ((trim_Quorum.f 3 3).bind fun t400 => (if t400 = true then ((trim_Quorum.f 2 3).bind fun t401 => (if t401 = true then (some false) else ((trim_Quorum.f 0 (-1)).bind fun t402 => (some (!t402))))) else (some false))) else (some false)) else (some false)))) else (some false)) else (some false)) else (some false)) else (some false)) else (some false)) else (some false)) else (some false))))) = some r := by first | (rw [hy385]; with_reducible exact H) | (have H2_ := (Option.bind_some _ _).symm.trans H; rw [hy385]; with_reducible exact H2_) | (have H2_ := (Option.bind_some _ _).symm.trans H; with_reducible exact H2_) | with_reducible exact H | (rw [hy385]; exact H) | exact H
  have Ny385 := Aside0.mk hy385
  clear hy385
  replace H := Option.bind_eq_some_iff.mp H
  obtain ⟨⟨t388, t389⟩, A40, H⟩ := H
  replace H : ((trim_Median.f k (([(-1)] : List Int))).bind fun bt393 => ((trim_Mean.f k (([1, 2] : List Int)) 0).bind fun bt398 => (if t372 = 2 then (if t373 = true then (if t377 = 5 then (if t378 = true then (if t382 = 5 then (if t383 = 7 then (if t384 = true then (if t389 = true then (some false) else (if bt393.2 = true then (some false) else (if bt398.1 = 1 then (if bt398.2 = true then ((trim_Quorum.f 3 3).bind fun t400 => (if t400 = true then ((trim_Quorum.f 2 3).bind fun t401 => (if t401 = true then (some false) else ((trim_Quorum.f 0 (-1)).bind fun t402 => (some (!t402))))) else (some false))) else (some false)) else (some false)))) else (some false)) else (some false)) else (some false)) else (some false)) else (some false)) else (some false)) else (some false)))) = some r := H
  have A4 := Aside0.mk A40
  clear A40
  obtain ⟨y390, hy390⟩ : ∃ y_ : List Int, y_ = (([(-1)] : List Int)) := ⟨_, rfl⟩
  replace H : ((trim_Median.f k y390).bind fun bt393 => ((trim_Mean.f k (([1, 2] : List Int)) 0).bind fun bt398 => (if t372 = 2 then (if t373 = true then (if t377 = 5 then (if t378 = true then (if t382 = 5 then (if t383 = 7 then (if t384 = true then (if t389 = true then (some false) else (if bt393.2 = true then (some false) else (if bt398.1 = 1 then (if bt398.2 = true then ((trim_Quorum.f 3 3).bind fun t400 => (if t400 = true then ((trim_Quorum.f 2 3).bind fun t401 => (if t401 = true then (some false) else ((trim_Quorum.f 0 (-1)).bind fun t402 => (some (!t402))))) else (some false))) else (some false)) else (some false)))) else (some false)) else (some false)) else (some false)) else (some false)) else (some false)) else (some false)) else (some false)))) = some r := by first | (rw [hy390]; with_reducible exact H) | (have H2_ := (Option.bind_some _ _).symm.trans H; rw [hy390]; with_reducible exact H2_) | (have H2_ := (Option.bind_some _ _).symm.trans H; with_reducible exact H2_) | with_reducible exact H | (rw [hy390]; exact H) | exact H
  have Ny390 := Aside0.mk hy390
  clear hy390
  replace H := Option.bind_eq_some_iff.mp H
  obtain ⟨⟨t393, t394⟩, A50, H⟩ := H
  replace H : ((trim_Mean.f k (([1, 2] : List Int)) 0).bind fun bt398 => (if t372 = 2 then (if t373 = true then (if t377 = 5 then (if t378 = true then (if t382 = 5 then (if t383 = 7 then (if t384 = true then (if t389 = true then (some false) else (if t394 = true then (some false) else (if bt398.1 = 1 then (if bt398.2 = true then ((trim_Quorum.f 3 3).bind fun t400 => (if t400 = true then ((trim_Quorum.f 2 3).bind fun t401 => (if t401 = true then (some false) else ((trim_Quorum.f 0 (-1)).bind fun t402 => (some (!t402))))) else (some false))) else (some false)) else (some false)))) else (some false)) else (some false)) else (some false)) else (some false)) else (some false)) else (some false)) else (some false))) = some r := H
  have A5 := Aside0.mk A50
  clear A50
  obtain ⟨y395, hy395⟩ : ∃ y_ : List Int, y_ = (([1, 2] : List Int)) := ⟨_, rfl⟩
  replace H : ((trim_Mean.f k y395 0).bind fun bt398 => (if t372 = 2 then (if t373 = true then (if t377 = 5 then (if t378 = true then (if t382 = 5 then (if t383 = 7 then (if t384 = true then (if t389 = true then (some false) else (if t394 = true then (some false) else (if bt398.1 = 1 then (if bt398.2 = true then ((trim_Quorum.f 3 3).bind fun t400 => (if t400 = true then ((trim_Quorum.f 2 3).bind fun t401 => (if t401 = true then (some false) else ((trim_Quorum.f 0 (-1)).bind fun t402 => (some (!t402))))) else (some false))) else (some false)) else (some false)))) else (some false)) else (some false)) else (some false)) else (some false)) else (some false)) else (some false)) else (some false))) = some r := by first | (rw [hy395]; with_reducible exact H) | (have H2_ := (Option.bind_some _ _).symm.trans H; rw [hy395]; with_reducible exact H2_) | (have H2_ := (Option.bind_some _ _).symm.trans H; with_reducible exact H2_) | with_reducible exact H | (rw [hy395]; exact H) | exact H
  have Ny395 := Aside0.mk hy395
  clear hy395
  replace H := Option.bind_eq_some_iff.mp H
  obtain ⟨⟨t398, t399⟩, A60, H⟩ := H
  replace H : (if t372 = 2 then (if t373 = true then (if t377 = 5 then (if t378 = true then (if t382 = 5 then (if t383 = 7 then (if t384 = true then (if t389 = true then (some false) else (if t394 = true then (some false) else (if t398 = 1 then (if t399 = true then ((trim_Quorum.f 3 3).bind fun t400 => (if t400 = true then ((trim_Quorum.f 2 3).bind fun t401 => (if t401 = true then (some false) else ((trim_Quorum.f 0 (-1)).bind fun t402 => (some (!t402))))) else (some false))) else (some false)) else (some false)))) else (some false)) else (some false)) else (some false)) else (some false)) else (some false)) else (some false)) else (some false)) = some r := H
  have A6 := Aside0.mk A60
  clear A60
  by_cases c7 : t372 = 2
  · rw [if_pos c7] at H
    have c7b0 : (t372 == 2) = true := beq_iff_eq.mpr c7
    have c7b1 : (t372 != 2) = false := bne_eq_false_iff_eq.mpr c7
    clear c7
    by_cases c8 : t373 = true
    · subst c8
      have H1 : (if t377 = 5 then (if t378 = true then (if t382 = 5 then (if t383 = 7 then (if t384 = true then (if t389 = true then (some false) else (if t394 = true then (some false) else (if t398 = 1 then (if t399 = true then ((trim_Quorum.f 3 3).bind fun t400 => (if t400 = true then ((trim_Quorum.f 2 3).bind fun t401 => (if t401 = true then (some false) else ((trim_Quorum.f 0 (-1)).bind fun t402 => (some (!t402))))) else (some false))) else (some false)) else (some false)))) else (some false)) else (some false)) else (some false)) else (some false)) else (some false)) = some r := by rw [if_pos rfl] at H; exact H
      clear H
      have H := H1
      clear H1
      by_cases c9 : t377 = 5
      · rw [if_pos c9] at H
        have c9b0 : (t377 == 5) = true := beq_iff_eq.mpr c9
        have c9b1 : (t377 != 5) = false := bne_eq_false_iff_eq.mpr c9
        clear c9
        by_cases c10 : t378 = true
        · subst c10
          have H1 : (if t382 = 5 then (if t383 = 7 then (if t384 = true then (if t389 = true then (some false) else (if t394 = true then (some false) else (if t398 = 1 then (if t399 = true then ((trim_Quorum.f 3 3).bind fun t400 => (if t400 = true then ((trim_Quorum.f 2 3).bind fun t401 => (if t401 = true then (some false) else ((trim_Quorum.f 0 (-1)).bind fun t402 => (some (!t402))))) else (some false))) else (some false)) else (some false)))) else (some false)) else (some false)) else (some false)) = some r := by rw [if_pos rfl] at H; exact H
          clear H
          have H := H1
          clear H1
          by_cases c11 : t382 = 5
          · rw [if_pos c11] at H
            have c11b0 : (t382 == 5) = true := beq_iff_eq.mpr c11
            have c11b1 : (t382 != 5) = false := bne_eq_false_iff_eq.mpr c11
            clear c11
            by_cases c12 : t383 = 7
            · rw [if_pos c12] at H
              have c12b0 : (t383 == 7) = true := beq_iff_eq.mpr c12
              have c12b1 : (t383 != 7) = false := bne_eq_false_iff_eq.mpr c12
              clear c12
              by_cases c13 : t384 = true
              · subst c13
                have H1 : (if t389 = true then (some false) else (if t394 = true then (some false) else (if t398 = 1 then (if t399 = true then ((trim_Quorum.f 3 3).bind fun t400 => (if t400 = true then ((trim_Quorum.f 2 3).bind fun t401 => (if t401 = true then (some false) else ((trim_Quorum.f 0 (-1)).bind fun t402 => (some (!t402))))) else (some false))) else (some false)) else (some false)))) = some r := by rw [if_pos rfl] at H; exact H
                clear H
                have H := H1
                clear H1
                by_cases c14 : t389 = true
                · subst c14
                  have H1 : (some false) = some r := by rw [if_pos rfl] at H; exact H
                  clear H
                  have H := H1
                  clear H1
                  exact absurd ((Option.some.inj H).trans HRT.out) (by decide)
                · replace c14 := Bool.eq_false_iff.mpr c14
                  subst c14
                  have H1 : (if t394 = true then (some false) else (if t398 = 1 then (if t399 = true then ((trim_Quorum.f 3 3).bind fun t400 => (if t400 = true then ((trim_Quorum.f 2 3).bind fun t401 => (if t401 = true then (some false) else ((trim_Quorum.f 0 (-1)).bind fun t402 => (some (!t402))))) else (some false))) else (some false)) else (some false))) = some r := by rw [if_neg (show ¬ (false = true) by decide)] at H; exact H
                  clear H
                  have H := H1
                  clear H1
                  by_cases c39 : t394 = true
                  · subst c39
                    have H1 : (some false) = some r := by rw [if_pos rfl] at H; exact H
                    clear H
                    have H := H1
                    clear H1
                    exact absurd ((Option.some.inj H).trans HRT.out) (by decide)
                  · replace c39 := Bool.eq_false_iff.mpr c39
                    subst c39
                    have H1 : (if t398 = 1 then (if t399 = true then ((trim_Quorum.f 3 3).bind fun t400 => (if t400 = true then ((trim_Quorum.f 2 3).bind fun t401 => (if t401 = true then (some false) else ((trim_Quorum.f 0 (-1)).bind fun t402 => (some (!t402))))) else (some false))) else (some false)) else (some false)) = some r := by rw [if_neg (show ¬ (false = true) by decide)] at H; exact H
                    clear H
                    have H := H1
                    clear H1
                    by_cases c64 : t398 = 1
                    · rw [if_pos c64] at H
                      have c64b0 : (t398 == 1) = true := beq_iff_eq.mpr c64
                      have c64b1 : (t398 != 1) = false := bne_eq_false_iff_eq.mpr c64
                      clear c64
                      by_cases c65 : t399 = true
                      · subst c65
                        have H1 : ((trim_Quorum.f 3 3).bind fun t400 => (if t400 = true then ((trim_Quorum.f 2 3).bind fun t401 => (if t401 = true then (some false) else ((trim_Quorum.f 0 (-1)).bind fun t402 => (some (!t402))))) else (some false))) = some r := by rw [if_pos rfl] at H; exact H
                        clear H
                        have H := H1
                        clear H1
                        replace H := Option.bind_eq_some_iff.mp H
                        obtain ⟨t400, A660, H⟩ := H
                        replace H : (if t400 = true then ((trim_Quorum.f 2 3).bind fun t401 => (if t401 = true then (some false) else ((trim_Quorum.f 0 (-1)).bind fun t402 => (some (!t402))))) else (some false)) = some r := H
                        have A66 := Aside0.mk A660
                        clear A660
                        by_cases c67 : t400 = true
                        · subst c67
                          have H1 : ((trim_Quorum.f 2 3).bind fun t401 => (if t401 = true then (some false) else ((trim_Quorum.f 0 (-1)).bind fun t402 => (some (!t402))))) = some r := by rw [if_pos rfl] at H; exact H
                          clear H
                          have H := H1
                          clear H1
                          replace H := Option.bind_eq_some_iff.mp H
                          obtain ⟨t401, A680, H⟩ := H
                          replace H : (if t401 = true then (some false) else ((trim_Quorum.f 0 (-1)).bind fun t402 => (some (!t402)))) = some r := H
                          have A68 := Aside0.mk A680
                          clear A680
                          by_cases c69 : t401 = true
                          · subst c69
                            have H1 : (some false) = some r := by rw [if_pos rfl] at H; exact H
                            clear H
                            have H := H1
                            clear H1
                            exact absurd ((Option.some.inj H).trans HRT.out) (by decide)
                          · replace c69 := Bool.eq_false_iff.mpr c69
                            subst c69
                            have H1 : ((trim_Quorum.f 0 (-1)).bind fun t402 => (some (!t402))) = some r := by rw [if_neg (show ¬ (false = true) by decide)] at H; exact H
                            clear H
                            have H := H1
                            clear H1
                            replace H := Option.bind_eq_some_iff.mp H
                            obtain ⟨t402, A940, H⟩ := H
                            replace H : (some (!t402)) = some r := H
                            have A94 := Aside0.mk A940
                            clear A940
                            obtain rfl := Option.some.inj H
                            go_enter Try.func26, Try.ntmps26
                            go_wp2_with (first | ((with_reducible refine gate_dst (N := 15) rfl ?_); refine Kd.R_lit (Kd.int .i64) _ 2 ?hg (N := 15) ?hd (xs := ([4, 1, 3, 2] : List Int)) (inner := [.int .i64 4, .int .i64 1, .int .i64 3, .int .i64 2]) (ok := fun _ => True) (okp := fun _ => True) ?hr ?hp (fun _ hk => hk) trivial (Below.refl _ _) (Nat.le_refl _) (by simp) ?_; (case hd => rfl); (case hg => rfl); (case hr => first | (go_simp; done) | (go_simp; rfl)); (case hp => exact (Reps.one (show Kd.M (Kd.int .i64) _ _ _ 4 [.int .i64 4] from rfl) (Reps.one (show Kd.M (Kd.int .i64) _ _ _ 1 [.int .i64 1] from rfl) (Reps.one (show Kd.M (Kd.int .i64) _ _ _ 3 [.int .i64 3] from rfl) (Reps.one (show Kd.M (Kd.int .i64) _ _ _ 2 [.int .i64 2] from rfl) (Reps.none _ _)))))); intro v370 w95 ho96 hb hg_ hnew_; clear hg_ hnew_; (first | rw [← Ny369.out] at ho96 | (simp only [Int.reduceToNat] at ho96; rw [← Ny369.out] at ho96)); have n0_ := Aside0.mk (Kd.R_lower ho96 (below_size (by repeat (first | (with_reducible first | exact HB.out | apply below_alloc | apply pw_below_drewN | apply below_drew1) | exact HB.out)))); have n1_ := Aside0.mk (below_step (by repeat (first | (with_reducible first | exact HB.out | apply below_alloc | apply pw_below_drewN | apply below_drew1) | exact HB.out)) hb); clear HB; have HO371 := n0_; have HB := n1_; clear n0_ n1_; clear hb ho96; obtain ⟨Ao97, co97, eo97⟩ := Kd.R_slice HO371.out; subst eo97) | ((with_reducible refine gate_callee (f := 27) rfl ?_); refine goesL_ (some 16) rfl rfl Try.func27 (by kernel_rfl) rfl #[.slice Ao97 y369.length co97] rfl (by (try simp only [List.map_toArray, List.map_cons, List.map_nil]); first | done | rfl | (simp only [List.length_drop, List.length_take]; rfl)) ?_; (with_reducible refine (trim_Median.calls k _ _ y369 t372 true _ ?side1 ?side2 A1.out).mono ?_); (case side1 => repeat (first | exact (Kd.R_reads' HO371.out).2.2 | (with_reducible refine Kd.C_alloc ?_ _) | (with_reducible refine Kd.C_drewN ?_ _) | (with_reducible refine Kd.C_drew ?_))); (case side2 => exact (Kd.R_reads' HO371.out).2.1); rintro e w98 ⟨rfl, hb⟩; refine ⟨_, rfl, ?_⟩; have n0_ := Aside0.mk (Kd.R_below (by (with_reducible repeat (first | apply Kd.R_alloc | apply Kd.R_drewN | apply Kd.R_drew)); exact HO371.out) hb); have n1_ := Aside0.mk (below_step (by repeat (first | (with_reducible first | exact HB.out | apply below_alloc | apply pw_below_drewN | apply below_drew1) | exact HB.out)) hb); clear HO371; clear HB; have HO371 := n0_; have HB := n1_; clear n0_ n1_; (try clear hb); (try clear hb2); (try clear hk); (try clear hi)) | ((with_reducible refine gate_dst (N := 20) rfl ?_); refine Kd.R_lit (Kd.int .i64) _ 2 ?hg (N := 20) ?hd (xs := ([1, 5, 100] : List Int)) (inner := [.int .i64 1, .int .i64 5, .int .i64 100]) (ok := fun _ => True) (okp := fun _ => True) ?hr ?hp (fun _ hk => hk) trivial (Below.refl _ _) (Nat.le_refl _) (by simp) ?_; (case hd => rfl); (case hg => rfl); (case hr => first | (go_simp; done) | (go_simp; rfl)); (case hp => exact (Reps.one (show Kd.M (Kd.int .i64) _ _ _ 1 [.int .i64 1] from rfl) (Reps.one (show Kd.M (Kd.int .i64) _ _ _ 5 [.int .i64 5] from rfl) (Reps.one (show Kd.M (Kd.int .i64) _ _ _ 100 [.int .i64 100] from rfl) (Reps.none _ _))))); intro v375 w99 ho100 hb hg_ hnew_; clear hg_ hnew_; (first | rw [← Ny374.out] at ho100 | (simp only [Int.reduceToNat] at ho100; rw [← Ny374.out] at ho100)); have n0_ := Aside0.mk (Kd.R_elder' (by (with_reducible repeat (first | apply Kd.R_alloc | apply Kd.R_drewN | apply Kd.R_drew)); exact HO371.out) (Kd.R_base ho100) hb); have n1_ := Aside0.mk (Kd.R_lower (Kd.R_new' ho100 (Kd.R_lt (by (with_reducible repeat (first | apply Kd.R_alloc | apply Kd.R_drewN | apply Kd.R_drew)); exact HO371.out))) (below_size (by repeat (first | (with_reducible first | exact HB.out | apply below_alloc | apply pw_below_drewN | apply below_drew1) | exact HB.out)))); have n2_ := Aside0.mk (below_step (by repeat (first | (with_reducible first | exact HB.out | apply below_alloc | apply pw_below_drewN | apply below_drew1) | exact HB.out)) hb); clear HO371; clear HB; have HO371 := n0_; have HO376 := n1_; have HB := n2_; clear n0_ n1_ n2_; clear hb ho100; obtain ⟨Ao101, co101, eo101⟩ := Kd.R_slice HO376.out; subst eo101) | ((with_reducible refine gate_callee (f := 29) rfl ?_); refine goesL_ (some 21) rfl rfl Try.func29 (by kernel_rfl) rfl #[.slice Ao101 y374.length co101, .int .i64 1] rfl (by (try simp only [List.map_toArray, List.map_cons, List.map_nil]); first | done | rfl | (simp only [List.length_drop, List.length_take]; rfl)) ?_; (with_reducible refine (trim_Mean.calls k _ _ y374 1 t377 true _ ?side1 ?side2 A2.out).mono ?_); (case side1 => repeat (first | exact (Kd.R_reads' HO376.out).2.2 | (with_reducible refine Kd.C_alloc ?_ _) | (with_reducible refine Kd.C_drewN ?_ _) | (with_reducible refine Kd.C_drew ?_))); (case side2 => exact (Kd.R_reads' HO376.out).2.1); rintro e w102 ⟨rfl, hb⟩; refine ⟨_, rfl, ?_⟩; have n0_ := Aside0.mk (Kd.R_below (by (with_reducible repeat (first | apply Kd.R_alloc | apply Kd.R_drewN | apply Kd.R_drew)); exact HO371.out) hb); have n1_ := Aside0.mk (Kd.R_below (by (with_reducible repeat (first | apply Kd.R_alloc | apply Kd.R_drewN | apply Kd.R_drew)); exact HO376.out) hb); have n2_ := Aside0.mk (below_step (by repeat (first | (with_reducible first | exact HB.out | apply below_alloc | apply pw_below_drewN | apply below_drew1) | exact HB.out)) hb); clear HO371; clear HO376; clear HB; have HO371 := n0_; have HO376 := n1_; have HB := n2_; clear n0_ n1_ n2_; (try clear hb); (try clear hb2); (try clear hk); (try clear hi)) | ((with_reducible refine gate_dst (N := 25) rfl ?_); refine Kd.R_lit (Kd.int .i64) _ 2 ?hg (N := 25) ?hd (xs := ([9, 1, 5, 7] : List Int)) (inner := [.int .i64 9, .int .i64 1, .int .i64 5, .int .i64 7]) (ok := fun _ => True) (okp := fun _ => True) ?hr ?hp (fun _ hk => hk) trivial (Below.refl _ _) (Nat.le_refl _) (by simp) ?_; (case hd => rfl); (case hg => rfl); (case hr => first | (go_simp; done) | (go_simp; rfl)); (case hp => exact (Reps.one (show Kd.M (Kd.int .i64) _ _ _ 9 [.int .i64 9] from rfl) (Reps.one (show Kd.M (Kd.int .i64) _ _ _ 1 [.int .i64 1] from rfl) (Reps.one (show Kd.M (Kd.int .i64) _ _ _ 5 [.int .i64 5] from rfl) (Reps.one (show Kd.M (Kd.int .i64) _ _ _ 7 [.int .i64 7] from rfl) (Reps.none _ _)))))); intro v380 w103 ho104 hb hg_ hnew_; clear hg_ hnew_; (first | rw [← Ny379.out] at ho104 | (simp only [Int.reduceToNat] at ho104; rw [← Ny379.out] at ho104)); have n0_ := Aside0.mk (Kd.R_elder' (by (with_reducible repeat (first | apply Kd.R_alloc | apply Kd.R_drewN | apply Kd.R_drew)); exact HO371.out) (Kd.R_base ho104) hb); have n1_ := Aside0.mk (Kd.R_elder' (by (with_reducible repeat (first | apply Kd.R_alloc | apply Kd.R_drewN | apply Kd.R_drew)); exact HO376.out) (Kd.R_base ho104) hb); have n2_ := Aside0.mk (Kd.R_lower (Kd.R_new' (Kd.R_new' ho104 (Kd.R_lt (by (with_reducible repeat (first | apply Kd.R_alloc | apply Kd.R_drewN | apply Kd.R_drew)); exact HO371.out))) (Kd.R_lt (by (with_reducible repeat (first | apply Kd.R_alloc | apply Kd.R_drewN | apply Kd.R_drew)); exact HO376.out))) (below_size (by repeat (first | (with_reducible first | exact HB.out | apply below_alloc | apply pw_below_drewN | apply below_drew1) | exact HB.out)))); have n3_ := Aside0.mk (below_step (by repeat (first | (with_reducible first | exact HB.out | apply below_alloc | apply pw_below_drewN | apply below_drew1) | exact HB.out)) hb); clear HO371; clear HO376; clear HB; have HO371 := n0_; have HO376 := n1_; have HO381 := n2_; have HB := n3_; clear n0_ n1_ n2_ n3_; clear hb ho104; obtain ⟨Ao105, co105, eo105⟩ := Kd.R_slice HO381.out; subst eo105) | ((with_reducible refine gate_callee (f := 31) rfl ?_); refine goesL_ (some 26) rfl rfl Try.func31 (by kernel_rfl) rfl #[.slice Ao105 y379.length co105, .int .i64 1] rfl (by (try simp only [List.map_toArray, List.map_cons, List.map_nil]); first | done | rfl | (simp only [List.length_drop, List.length_take]; rfl)) ?_; (with_reducible refine (trim_Span.calls k _ _ y379 1 t382 t383 true _ ?side1 ?side2 A3.out).mono ?_); (case side1 => repeat (first | exact (Kd.R_reads' HO381.out).2.2 | (with_reducible refine Kd.C_alloc ?_ _) | (with_reducible refine Kd.C_drewN ?_ _) | (with_reducible refine Kd.C_drew ?_))); (case side2 => exact (Kd.R_reads' HO381.out).2.1); rintro e w106 ⟨rfl, hb⟩; refine ⟨_, rfl, ?_⟩; have n0_ := Aside0.mk (Kd.R_below (by (with_reducible repeat (first | apply Kd.R_alloc | apply Kd.R_drewN | apply Kd.R_drew)); exact HO371.out) hb); have n1_ := Aside0.mk (Kd.R_below (by (with_reducible repeat (first | apply Kd.R_alloc | apply Kd.R_drewN | apply Kd.R_drew)); exact HO376.out) hb); have n2_ := Aside0.mk (Kd.R_below (by (with_reducible repeat (first | apply Kd.R_alloc | apply Kd.R_drewN | apply Kd.R_drew)); exact HO381.out) hb); have n3_ := Aside0.mk (below_step (by repeat (first | (with_reducible first | exact HB.out | apply below_alloc | apply pw_below_drewN | apply below_drew1) | exact HB.out)) hb); clear HO371; clear HO376; clear HO381; clear HB; have HO371 := n0_; have HO376 := n1_; have HO381 := n2_; have HB := n3_; clear n0_ n1_ n2_ n3_; (try clear hb); (try clear hb2); (try clear hk); (try clear hi)) | ((with_reducible refine gate_dst (N := 31) rfl ?_); refine Kd.R_lit (Kd.int .i64) _ 2 ?hg (N := 31) ?hd (xs := ([1, 2] : List Int)) (inner := [.int .i64 1, .int .i64 2]) (ok := fun _ => True) (okp := fun _ => True) ?hr ?hp (fun _ hk => hk) trivial (Below.refl _ _) (Nat.le_refl _) (by simp) ?_; (case hd => rfl); (case hg => rfl); (case hr => first | (go_simp; done) | (go_simp; rfl)); (case hp => exact (Reps.one (show Kd.M (Kd.int .i64) _ _ _ 1 [.int .i64 1] from rfl) (Reps.one (show Kd.M (Kd.int .i64) _ _ _ 2 [.int .i64 2] from rfl) (Reps.none _ _)))); intro v386 w107 ho108 hb hg_ hnew_; clear hg_ hnew_; (first | rw [← Ny385.out] at ho108 | (simp only [Int.reduceToNat] at ho108; rw [← Ny385.out] at ho108)); have n0_ := Aside0.mk (Kd.R_elder' (by (with_reducible repeat (first | apply Kd.R_alloc | apply Kd.R_drewN | apply Kd.R_drew)); exact HO371.out) (Kd.R_base ho108) hb); have n1_ := Aside0.mk (Kd.R_elder' (by (with_reducible repeat (first | apply Kd.R_alloc | apply Kd.R_drewN | apply Kd.R_drew)); exact HO376.out) (Kd.R_base ho108) hb); have n2_ := Aside0.mk (Kd.R_elder' (by (with_reducible repeat (first | apply Kd.R_alloc | apply Kd.R_drewN | apply Kd.R_drew)); exact HO381.out) (Kd.R_base ho108) hb); have n3_ := Aside0.mk (Kd.R_lower (Kd.R_new' (Kd.R_new' (Kd.R_new' ho108 (Kd.R_lt (by (with_reducible repeat (first | apply Kd.R_alloc | apply Kd.R_drewN | apply Kd.R_drew)); exact HO371.out))) (Kd.R_lt (by (with_reducible repeat (first | apply Kd.R_alloc | apply Kd.R_drewN | apply Kd.R_drew)); exact HO376.out))) (Kd.R_lt (by (with_reducible repeat (first | apply Kd.R_alloc | apply Kd.R_drewN | apply Kd.R_drew)); exact HO381.out))) (below_size (by repeat (first | (with_reducible first | exact HB.out | apply below_alloc | apply pw_below_drewN | apply below_drew1) | exact HB.out)))); have n4_ := Aside0.mk (below_step (by repeat (first | (with_reducible first | exact HB.out | apply below_alloc | apply pw_below_drewN | apply below_drew1) | exact HB.out)) hb); clear HO371; clear HO376; clear HO381; clear HB; have HO371 := n0_; have HO376 := n1_; have HO381 := n2_; have HO387 := n3_; have HB := n4_; clear n0_ n1_ n2_ n3_ n4_; clear hb ho108; obtain ⟨Ao109, co109, eo109⟩ := Kd.R_slice HO387.out; subst eo109) | ((with_reducible refine gate_callee (f := 29) rfl ?_); refine goesL_ (some 32) rfl rfl Try.func29 (by kernel_rfl) rfl #[.slice Ao109 y385.length co109, .int .i64 1] rfl (by (try simp only [List.map_toArray, List.map_cons, List.map_nil]); first | done | rfl | (simp only [List.length_drop, List.length_take]; rfl)) ?_; (with_reducible refine (trim_Mean.calls k _ _ y385 1 t388 false _ ?side1 ?side2 A4.out).mono ?_); (case side1 => repeat (first | exact (Kd.R_reads' HO387.out).2.2 | (with_reducible refine Kd.C_alloc ?_ _) | (with_reducible refine Kd.C_drewN ?_ _) | (with_reducible refine Kd.C_drew ?_))); (case side2 => exact (Kd.R_reads' HO387.out).2.1); rintro e w110 ⟨rfl, hb⟩; refine ⟨_, rfl, ?_⟩; have n0_ := Aside0.mk (Kd.R_below (by (with_reducible repeat (first | apply Kd.R_alloc | apply Kd.R_drewN | apply Kd.R_drew)); exact HO371.out) hb); have n1_ := Aside0.mk (Kd.R_below (by (with_reducible repeat (first | apply Kd.R_alloc | apply Kd.R_drewN | apply Kd.R_drew)); exact HO376.out) hb); have n2_ := Aside0.mk (Kd.R_below (by (with_reducible repeat (first | apply Kd.R_alloc | apply Kd.R_drewN | apply Kd.R_drew)); exact HO381.out) hb); have n3_ := Aside0.mk (Kd.R_below (by (with_reducible repeat (first | apply Kd.R_alloc | apply Kd.R_drewN | apply Kd.R_drew)); exact HO387.out) hb); have n4_ := Aside0.mk (below_step (by repeat (first | (with_reducible first | exact HB.out | apply below_alloc | apply pw_below_drewN | apply below_drew1) | exact HB.out)) hb); clear HO371; clear HO376; clear HO381; clear HO387; clear HB; have HO371 := n0_; have HO376 := n1_; have HO381 := n2_; have HO387 := n3_; have HB := n4_; clear n0_ n1_ n2_ n3_ n4_; (try clear hb); (try clear hb2); (try clear hk); (try clear hi)) | ((with_reducible refine gate_dst (N := 36) rfl ?_); refine Kd.R_lit (Kd.int .i64) _ 2 ?hg (N := 36) ?hd (xs := ([(-1)] : List Int)) (inner := [.int .i64 (-1)]) (ok := fun _ => True) (okp := fun _ => True) ?hr ?hp (fun _ hk => hk) trivial (Below.refl _ _) (Nat.le_refl _) (by simp) ?_; (case hd => rfl); (case hg => rfl); (case hr => first | (go_simp; done) | (go_simp; rfl)); (case hp => exact (Reps.one (show Kd.M (Kd.int .i64) _ _ _ (-1) [.int .i64 (-1)] from rfl) (Reps.none _ _))); intro v391 w111 ho112 hb hg_ hnew_; clear hg_ hnew_; (first | rw [← Ny390.out] at ho112 | (simp only [Int.reduceToNat] at ho112; rw [← Ny390.out] at ho112)); have n0_ := Aside0.mk (Kd.R_elder' (by (with_reducible repeat (first | apply Kd.R_alloc | apply Kd.R_drewN | apply Kd.R_drew)); exact HO371.out) (Kd.R_base ho112) hb); have n1_ := Aside0.mk (Kd.R_elder' (by (with_reducible repeat (first | apply Kd.R_alloc | apply Kd.R_drewN | apply Kd.R_drew)); exact HO376.out) (Kd.R_base ho112) hb); have n2_ := Aside0.mk (Kd.R_elder' (by (with_reducible repeat (first | apply Kd.R_alloc | apply Kd.R_drewN | apply Kd.R_drew)); exact HO381.out) (Kd.R_base ho112) hb); have n3_ := Aside0.mk (Kd.R_elder' (by (with_reducible repeat (first | apply Kd.R_alloc | apply Kd.R_drewN | apply Kd.R_drew)); exact HO387.out) (Kd.R_base ho112) hb); have n4_ := Aside0.mk (Kd.R_lower (Kd.R_new' (Kd.R_new' (Kd.R_new' (Kd.R_new' ho112 (Kd.R_lt (by (with_reducible repeat (first | apply Kd.R_alloc | apply Kd.R_drewN | apply Kd.R_drew)); exact HO371.out))) (Kd.R_lt (by (with_reducible repeat (first | apply Kd.R_alloc | apply Kd.R_drewN | apply Kd.R_drew)); exact HO376.out))) (Kd.R_lt (by (with_reducible repeat (first | apply Kd.R_alloc | apply Kd.R_drewN | apply Kd.R_drew)); exact HO381.out))) (Kd.R_lt (by (with_reducible repeat (first | apply Kd.R_alloc | apply Kd.R_drewN | apply Kd.R_drew)); exact HO387.out))) (below_size (by repeat (first | (with_reducible first | exact HB.out | apply below_alloc | apply pw_below_drewN | apply below_drew1) | exact HB.out)))); have n5_ := Aside0.mk (below_step (by repeat (first | (with_reducible first | exact HB.out | apply below_alloc | apply pw_below_drewN | apply below_drew1) | exact HB.out)) hb); clear HO371; clear HO376; clear HO381; clear HO387; clear HB; have HO371 := n0_; have HO376 := n1_; have HO381 := n2_; have HO387 := n3_; have HO392 := n4_; have HB := n5_; clear n0_ n1_ n2_ n3_ n4_ n5_; clear hb ho112; obtain ⟨Ao113, co113, eo113⟩ := Kd.R_slice HO392.out; subst eo113) | ((with_reducible refine gate_callee (f := 27) rfl ?_); refine goesL_ (some 37) rfl rfl Try.func27 (by kernel_rfl) rfl #[.slice Ao113 y390.length co113] rfl (by (try simp only [List.map_toArray, List.map_cons, List.map_nil]); first | done | rfl | (simp only [List.length_drop, List.length_take]; rfl)) ?_; (with_reducible refine (trim_Median.calls k _ _ y390 t393 false _ ?side1 ?side2 A5.out).mono ?_); (case side1 => repeat (first | exact (Kd.R_reads' HO392.out).2.2 | (with_reducible refine Kd.C_alloc ?_ _) | (with_reducible refine Kd.C_drewN ?_ _) | (with_reducible refine Kd.C_drew ?_))); (case side2 => exact (Kd.R_reads' HO392.out).2.1); rintro e w114 ⟨rfl, hb⟩; refine ⟨_, rfl, ?_⟩; have n0_ := Aside0.mk (Kd.R_below (by (with_reducible repeat (first | apply Kd.R_alloc | apply Kd.R_drewN | apply Kd.R_drew)); exact HO371.out) hb); have n1_ := Aside0.mk (Kd.R_below (by (with_reducible repeat (first | apply Kd.R_alloc | apply Kd.R_drewN | apply Kd.R_drew)); exact HO376.out) hb); have n2_ := Aside0.mk (Kd.R_below (by (with_reducible repeat (first | apply Kd.R_alloc | apply Kd.R_drewN | apply Kd.R_drew)); exact HO381.out) hb); have n3_ := Aside0.mk (Kd.R_below (by (with_reducible repeat (first | apply Kd.R_alloc | apply Kd.R_drewN | apply Kd.R_drew)); exact HO387.out) hb); have n4_ := Aside0.mk (Kd.R_below (by (with_reducible repeat (first | apply Kd.R_alloc | apply Kd.R_drewN | apply Kd.R_drew)); exact HO392.out) hb); have n5_ := Aside0.mk (below_step (by repeat (first | (with_reducible first | exact HB.out | apply below_alloc | apply pw_below_drewN | apply below_drew1) | exact HB.out)) hb); clear HO371; clear HO376; clear HO381; clear HO387; clear HO392; clear HB; have HO371 := n0_; have HO376 := n1_; have HO381 := n2_; have HO387 := n3_; have HO392 := n4_; have HB := n5_; clear n0_ n1_ n2_ n3_ n4_ n5_; (try clear hb); (try clear hb2); (try clear hk); (try clear hi)) | ((with_reducible refine gate_dst (N := 41) rfl ?_); refine Kd.R_lit (Kd.int .i64) _ 2 ?hg (N := 41) ?hd (xs := ([1, 2] : List Int)) (inner := [.int .i64 1, .int .i64 2]) (ok := fun _ => True) (okp := fun _ => True) ?hr ?hp (fun _ hk => hk) trivial (Below.refl _ _) (Nat.le_refl _) (by simp) ?_; (case hd => rfl); (case hg => rfl); (case hr => first | (go_simp; done) | (go_simp; rfl)); (case hp => exact (Reps.one (show Kd.M (Kd.int .i64) _ _ _ 1 [.int .i64 1] from rfl) (Reps.one (show Kd.M (Kd.int .i64) _ _ _ 2 [.int .i64 2] from rfl) (Reps.none _ _)))); intro v396 w115 ho116 hb hg_ hnew_; clear hg_ hnew_; (first | rw [← Ny395.out] at ho116 | (simp only [Int.reduceToNat] at ho116; rw [← Ny395.out] at ho116)); have n0_ := Aside0.mk (Kd.R_elder' (by (with_reducible repeat (first | apply Kd.R_alloc | apply Kd.R_drewN | apply Kd.R_drew)); exact HO371.out) (Kd.R_base ho116) hb); have n1_ := Aside0.mk (Kd.R_elder' (by (with_reducible repeat (first | apply Kd.R_alloc | apply Kd.R_drewN | apply Kd.R_drew)); exact HO376.out) (Kd.R_base ho116) hb); have n2_ := Aside0.mk (Kd.R_elder' (by (with_reducible repeat (first | apply Kd.R_alloc | apply Kd.R_drewN | apply Kd.R_drew)); exact HO381.out) (Kd.R_base ho116) hb); have n3_ := Aside0.mk (Kd.R_elder' (by (with_reducible repeat (first | apply Kd.R_alloc | apply Kd.R_drewN | apply Kd.R_drew)); exact HO387.out) (Kd.R_base ho116) hb); have n4_ := Aside0.mk (Kd.R_elder' (by (with_reducible repeat (first | apply Kd.R_alloc | apply Kd.R_drewN | apply Kd.R_drew)); exact HO392.out) (Kd.R_base ho116) hb); have n5_ := Aside0.mk (Kd.R_lower (Kd.R_new' (Kd.R_new' (Kd.R_new' (Kd.R_new' (Kd.R_new' ho116 (Kd.R_lt (by (with_reducible repeat (first | apply Kd.R_alloc | apply Kd.R_drewN | apply Kd.R_drew)); exact HO371.out))) (Kd.R_lt (by (with_reducible repeat (first | apply Kd.R_alloc | apply Kd.R_drewN | apply Kd.R_drew)); exact HO376.out))) (Kd.R_lt (by (with_reducible repeat (first | apply Kd.R_alloc | apply Kd.R_drewN | apply Kd.R_drew)); exact HO381.out))) (Kd.R_lt (by (with_reducible repeat (first | apply Kd.R_alloc | apply Kd.R_drewN | apply Kd.R_drew)); exact HO387.out))) (Kd.R_lt (by (with_reducible repeat (first | apply Kd.R_alloc | apply Kd.R_drewN | apply Kd.R_drew)); exact HO392.out))) (below_size (by repeat (first | (with_reducible first | exact HB.out | apply below_alloc | apply pw_below_drewN | apply below_drew1) | exact HB.out)))); have n6_ := Aside0.mk (below_step (by repeat (first | (with_reducible first | exact HB.out | apply below_alloc | apply pw_below_drewN | apply below_drew1) | exact HB.out)) hb); clear HO371; clear HO376; clear HO381; clear HO387; clear HO392; clear HB; have HO371 := n0_; have HO376 := n1_; have HO381 := n2_; have HO387 := n3_; have HO392 := n4_; have HO397 := n5_; have HB := n6_; clear n0_ n1_ n2_ n3_ n4_ n5_ n6_; clear hb ho116; obtain ⟨Ao117, co117, eo117⟩ := Kd.R_slice HO397.out; subst eo117) | ((with_reducible refine gate_callee (f := 29) rfl ?_); refine goesL_ (some 42) rfl rfl Try.func29 (by kernel_rfl) rfl #[.slice Ao117 y395.length co117, .int .i64 0] rfl (by (try simp only [List.map_toArray, List.map_cons, List.map_nil]); first | done | rfl | (simp only [List.length_drop, List.length_take]; rfl)) ?_; (with_reducible refine (trim_Mean.calls k _ _ y395 0 t398 true _ ?side1 ?side2 A6.out).mono ?_); (case side1 => repeat (first | exact (Kd.R_reads' HO397.out).2.2 | (with_reducible refine Kd.C_alloc ?_ _) | (with_reducible refine Kd.C_drewN ?_ _) | (with_reducible refine Kd.C_drew ?_))); (case side2 => exact (Kd.R_reads' HO397.out).2.1); rintro e w118 ⟨rfl, hb⟩; refine ⟨_, rfl, ?_⟩; have n0_ := Aside0.mk (Kd.R_below (by (with_reducible repeat (first | apply Kd.R_alloc | apply Kd.R_drewN | apply Kd.R_drew)); exact HO371.out) hb); have n1_ := Aside0.mk (Kd.R_below (by (with_reducible repeat (first | apply Kd.R_alloc | apply Kd.R_drewN | apply Kd.R_drew)); exact HO376.out) hb); have n2_ := Aside0.mk (Kd.R_below (by (with_reducible repeat (first | apply Kd.R_alloc | apply Kd.R_drewN | apply Kd.R_drew)); exact HO381.out) hb); have n3_ := Aside0.mk (Kd.R_below (by (with_reducible repeat (first | apply Kd.R_alloc | apply Kd.R_drewN | apply Kd.R_drew)); exact HO387.out) hb); have n4_ := Aside0.mk (Kd.R_below (by (with_reducible repeat (first | apply Kd.R_alloc | apply Kd.R_drewN | apply Kd.R_drew)); exact HO392.out) hb); have n5_ := Aside0.mk (Kd.R_below (by (with_reducible repeat (first | apply Kd.R_alloc | apply Kd.R_drewN | apply Kd.R_drew)); exact HO397.out) hb); have n6_ := Aside0.mk (below_step (by repeat (first | (with_reducible first | exact HB.out | apply below_alloc | apply pw_below_drewN | apply below_drew1) | exact HB.out)) hb); clear HO371; clear HO376; clear HO381; clear HO387; clear HO392; clear HO397; clear HB; have HO371 := n0_; have HO376 := n1_; have HO381 := n2_; have HO387 := n3_; have HO392 := n4_; have HO397 := n5_; have HB := n6_; clear n0_ n1_ n2_ n3_ n4_ n5_ n6_; (try clear hb); (try clear hb2); (try clear hk); (try clear hi)) | (go_at_call 33; (with_reducible refine (trim_Quorum.calls 3 3 true _ A66.out).mono ?_); rintro e w' ⟨rfl, ⟨nd, rfl⟩⟩) | (go_at_call 33; (with_reducible refine (trim_Quorum.calls 2 3 false _ A68.out).mono ?_); rintro e w' ⟨rfl, ⟨nd, rfl⟩⟩) | (go_at_call 33; (with_reducible refine (trim_Quorum.calls 0 (-1) t402 _ A94.out).mono ?_); rintro e w' ⟨rfl, ⟨nd, rfl⟩⟩))
                            go_ret
                            exact ⟨by first | rfl | (simp [errW_none, errW_some] <;> rfl) | (simp [*, errW_none, errW_some] <;> rfl), by repeat (first | (with_reducible first | exact HB.out | apply below_alloc | apply pw_below_drewN | apply below_drew1) | exact HB.out)⟩
                        · replace c67 := Bool.eq_false_iff.mpr c67
                          subst c67
                          have H1 : (some false) = some r := by rw [if_neg (show ¬ (false = true) by decide)] at H; exact H
                          clear H
                          have H := H1
                          clear H1
                          exact absurd ((Option.some.inj H).trans HRT.out) (by decide)
                      · replace c65 := Bool.eq_false_iff.mpr c65
                        subst c65
                        have H1 : (some false) = some r := by rw [if_neg (show ¬ (false = true) by decide)] at H; exact H
                        clear H
                        have H := H1
                        clear H1
                        exact absurd ((Option.some.inj H).trans HRT.out) (by decide)
                    · rw [if_neg c64] at H
                      have c64b0 : (t398 == 1) = false := beq_eq_false_iff_ne.mpr c64
                      have c64b1 : (t398 != 1) = true := bne_iff_ne.mpr c64
                      exact absurd ((Option.some.inj H).trans HRT.out) (by decide)
              · replace c13 := Bool.eq_false_iff.mpr c13
                subst c13
                have H1 : (some false) = some r := by rw [if_neg (show ¬ (false = true) by decide)] at H; exact H
                clear H
                have H := H1
                clear H1
                exact absurd ((Option.some.inj H).trans HRT.out) (by decide)
            · rw [if_neg c12] at H
              have c12b0 : (t383 == 7) = false := beq_eq_false_iff_ne.mpr c12
              have c12b1 : (t383 != 7) = true := bne_iff_ne.mpr c12
              exact absurd ((Option.some.inj H).trans HRT.out) (by decide)
          · rw [if_neg c11] at H
            have c11b0 : (t382 == 5) = false := beq_eq_false_iff_ne.mpr c11
            have c11b1 : (t382 != 5) = true := bne_iff_ne.mpr c11
            exact absurd ((Option.some.inj H).trans HRT.out) (by decide)
        · replace c10 := Bool.eq_false_iff.mpr c10
          subst c10
          have H1 : (some false) = some r := by rw [if_neg (show ¬ (false = true) by decide)] at H; exact H
          clear H
          have H := H1
          clear H1
          exact absurd ((Option.some.inj H).trans HRT.out) (by decide)
      · rw [if_neg c9] at H
        have c9b0 : (t377 == 5) = false := beq_eq_false_iff_ne.mpr c9
        have c9b1 : (t377 != 5) = true := bne_iff_ne.mpr c9
        exact absurd ((Option.some.inj H).trans HRT.out) (by decide)
    · replace c8 := Bool.eq_false_iff.mpr c8
      subst c8
      have H1 : (some false) = some r := by rw [if_neg (show ¬ (false = true) by decide)] at H; exact H
      clear H
      have H := H1
      clear H1
      exact absurd ((Option.some.inj H).trans HRT.out) (by decide)
  · rw [if_neg c7] at H
    have c7b0 : (t372 == 2) = false := beq_eq_false_iff_ne.mpr c7
    have c7b1 : (t372 != 2) = true := bne_iff_ne.mpr c7
    exact absurd ((Option.some.inj H).trans HRT.out) (by decide)

end Go.Proofs.Ytjcjibghnpjegaa.Pr
