-- Made by a program of this session (wip: patch_print.py, pr.sh) out of the kit's print: functions over lists and the proof that the Go code comes to them.
import Derived.Test.YtjcjibghnpjegaaPr0
import Derived.Test.YtjcjibghnpjegaaPr19
import Derived.Test.YtjcjibghnpjegaaPr21
import Derived.Test.YtjcjibghnpjegaaPr22
import Derived.Test.YtjcjibghnpjegaaPr24
namespace Go.Proofs.Ytjcjibghnpjegaa.Pr
open Go.RowKit Go.Proofs.YtjcjibghnpjegaaW.PrintWords Go.Proofs.YtjcjibghnpjegaaW.PrintLast Go.Proofs.YtjcjibghnpjegaaW.PrintMore
attribute [local go_sem] max2_int min2_int max_two min_two max_three min_three max_four min_four   -- for this text's walks alone
set_option linter.unusedVariables false
set_option linter.unusedSimpArgs false

/-! ### quorumitelaw10_TrimLike: function 11 -/
def quorumitelaw10_TrimLike.l0 : Nat → Int → Int → Int → List Int → Int → Option (Bool)
  | 0, _, _, _, _, _ => none
  | k + 1, x2, x7, x8, x9, x10 => if x10 < x7 then (if x9.length < 17592186044416 then (quorumitelaw10_TrimLike.l0 k x2 x7 x8 (x9 ++ [x8]) (wrap64 (x10 + 1))) else (none)) else (if (IntKind.u64.wrap (wrap64 (Int.tdiv (wrap64 (x7 + 1)) 2))) = 0 then (none) else ((trim_Median.f k x9).bind fun bt500 => ((trim_Mean.f k x9 (wrap64 (Int.tmod (IntKind.u64.wrap (x2)) (IntKind.u64.wrap (wrap64 (Int.tdiv (wrap64 (x7 + 1)) 2)))))).bind fun bt502 => ((trim_Span.f k x9 (wrap64 (Int.tmod (IntKind.u64.wrap (x2)) (IntKind.u64.wrap (wrap64 (Int.tdiv (wrap64 (x7 + 1)) 2)))))).bind fun bt504 => ((trim_Mean.f k x9 (wrap64 (Int.tdiv (wrap64 (x7 + 1)) 2))).bind fun bt507 => ((quorumitelaw10_told.f k).bind fun t509 => (if t509 = true then (if bt500.2 = true then (if bt502.2 = true then (if bt504.2.2 = true then (if bt507.2 = true then (some false) else (if bt500.1 = x8 then (if bt502.1 = x8 then (if bt504.1 = x8 then (some (bt504.2.1 == x8)) else (some false)) else (some false)) else (some false))) else (some false)) else (some false)) else (some false)) else (some false))))))))
def quorumitelaw10_TrimLike.f (k : Nat) (a0 : Int) (a1 : Int) (a2 : Int) : Option (Bool) := quorumitelaw10_TrimLike.l0 k a2 (wrap64 (1 + (wrap64 (Int.tmod (IntKind.u64.wrap (a1)) 40)))) (wrap64 (Int.tmod (IntKind.u64.wrap (a0)) 1099511627777)) ([] : List Int) 0
theorem quorumitelaw10_TrimLike.mono_l : ∀ k, (∀ y0 y1 y2 y3 y4, LeO (quorumitelaw10_TrimLike.l0 k y0 y1 y2 y3 y4) (quorumitelaw10_TrimLike.l0 (k + 1) y0 y1 y2 y3 y4))
  | 0 => fun _ _ _ _ _ r h => by simp [quorumitelaw10_TrimLike.l0] at h
  | k + 1 => by
    have ih0 := quorumitelaw10_TrimLike.mono_l k
    · intro y0 y1 y2 y3 y4
      unfold quorumitelaw10_TrimLike.l0
      repeat' first
      | (with_reducible exact ih0 _ _ _ _ _)
      | (with_reducible exact quorumitelaw10_told.mono _)
      | (with_reducible exact trim_Mean.mono _ _ _)
      | (with_reducible exact trim_Median.mono _ _)
      | (with_reducible exact trim_Span.mono _ _ _)
      | (with_reducible exact LeO.refl _)
      | (with_reducible exact LeO.none _)
      | (with_reducible refine LeO.ite ?_ ?_)
      | (with_reducible refine LeO.bind ?_ (fun _ => ?_))
      | exact ih0 _ _ _ _ _
      | exact quorumitelaw10_told.mono _
      | exact trim_Mean.mono _ _ _
      | exact trim_Median.mono _ _
      | exact trim_Span.mono _ _ _
      | exact LeO.none _
      | refine LeO.ite ?_ ?_
      | refine LeO.bind ?_ (fun _ => ?_)
theorem quorumitelaw10_TrimLike.mono : ∀ a0 a1 a2 k, LeO (quorumitelaw10_TrimLike.f k a0 a1 a2) (quorumitelaw10_TrimLike.f (k + 1) a0 a1 a2) := by
  intro a0 a1 a2 k
  have ih0 := quorumitelaw10_TrimLike.mono_l k
  unfold quorumitelaw10_TrimLike.f
  repeat' first
      | (with_reducible exact ih0 _ _ _ _ _)
      | (with_reducible exact quorumitelaw10_told.mono _)
      | (with_reducible exact trim_Mean.mono _ _ _)
      | (with_reducible exact trim_Median.mono _ _)
      | (with_reducible exact trim_Span.mono _ _ _)
      | (with_reducible exact LeO.refl _)
      | (with_reducible exact LeO.none _)
      | (with_reducible refine LeO.ite ?_ ?_)
      | (with_reducible refine LeO.bind ?_ (fun _ => ?_))
      | exact ih0 _ _ _ _ _
      | exact quorumitelaw10_told.mono _
      | exact trim_Mean.mono _ _ _
      | exact trim_Median.mono _ _
      | exact trim_Span.mono _ _ _
      | exact LeO.none _
      | refine LeO.ite ?_ ?_
      | refine LeO.bind ?_ (fun _ => ?_)
set_option maxHeartbeats 8000000 in
set_option maxRecDepth 100000 in
theorem quorumitelaw10_TrimLike.calls (k : Nat) (a0 : Int) (a1 : Int) (a2 : Int) (r : Bool) (w : World) (hrt : r = true) (h : quorumitelaw10_TrimLike.f k a0 a1 a2 = some r) :
    Calls Try.prog 11 #[.int .i64 a0, .int .i64 a1, .int .i64 a2] w fun e w' => e = .returned (.bool r) ∧ Below w.heap.size w w' := by
  have HRT := Aside0.mk hrt
  clear hrt
  have HB := Aside0.mk (Below.refl w.heap.size w)
  have H : (quorumitelaw10_TrimLike.l0 k a2 (wrap64 (1 + (wrap64 (Int.tmod (IntKind.u64.wrap (a1)) 40)))) (wrap64 (Int.tmod (IntKind.u64.wrap (a0)) 1099511627777)) ([] : List Int) 0) = some r := h
  clear h
  have H' := Aside0.mk H
  clear H
  go_enter Try.func11, Try.ntmps11
  go_wp2
  go_loopg [9, 10] k (fun kq v9 v10 w' => ∃ (x9_1 : List Int) (x10_1 : Int), v10 = .int .i64 x10_1 ∧ Aside0 (quorumitelaw10_TrimLike.l0 kq a2 (wrap64 (1 + (wrap64 (Int.tmod (IntKind.u64.wrap (a1)) 40)))) (wrap64 (Int.tmod (IntKind.u64.wrap (a0)) 1099511627777)) x9_1 x10_1 = some r) ∧ Aside0 (kq ≤ k) ∧ Aside0 (Kd.R (Kd.int .i64) 2 w' w.heap.size (fun _ => True) v9 x9_1) ∧ Aside0 (Below w.heap.size w w'))
  case atStart => exact ⟨(([] : List Int)), (0), (by first | rfl | (simp; done) | (simp [*]; done)), H', ⟨Nat.le_refl _⟩, ⟨by first | exact Kd.R_nil _ _ _ _ _ | exact Kd.N_nil _ _ _ _ _ | exact Kd.V_nil _ _ _ _ _ | exact Kd.Q_nil _ _ _ _ _ | exact Kd.S_nil _ _ _ _ _⟩, ⟨by repeat (first | (with_reducible first | exact HB.out | apply below_alloc | apply pw_below_drewN | apply below_drew1) | exact HB.out)⟩⟩
  case round =>
    clear H'
    try clear c1
    try clear p2
    obtain ⟨x9_1, x10_1, rfl, HA, HK1, HO_9, HB⟩ := hrel
    cases gk with
    | zero => exact absurd HA.out (by simp [quorumitelaw10_TrimLike.l0])
    | succ k1 =>
      have H := HA.out
      clear HA
      simp only [quorumitelaw10_TrimLike.l0] at H
      by_cases c4 : x10_1 < (wrap64 (1 + (wrap64 (Int.tmod (IntKind.u64.wrap (a1)) 40))))
      · rw [if_pos c4] at H
        have c4b0 : decide (x10_1 < (wrap64 (1 + (wrap64 (Int.tmod (IntKind.u64.wrap (a1)) 40))))) = true := decide_eq_true c4
        clear c4
        by_cases c5 : x9_1.length < 17592186044416
        · rw [if_pos c5] at H
          have LMc5 := Aside0.mk c5
          clear c5
          obtain ⟨y497, hy497⟩ : ∃ y_ : List Int, y_ = (x9_1 ++ [(wrap64 (Int.tmod (IntKind.u64.wrap (a0)) 1099511627777))]) := ⟨_, rfl⟩
          replace H : (quorumitelaw10_TrimLike.l0 k1 a2 (wrap64 (1 + (wrap64 (Int.tmod (IntKind.u64.wrap (a1)) 40)))) (wrap64 (Int.tmod (IntKind.u64.wrap (a0)) 1099511627777)) y497 (wrap64 (x10_1 + 1))) = some r := by first | (rw [hy497]; with_reducible exact H) | (have H2_ := (Option.bind_some _ _).symm.trans H; rw [hy497]; with_reducible exact H2_) | (have H2_ := (Option.bind_some _ _).symm.trans H; with_reducible exact H2_) | with_reducible exact H | (rw [hy497]; exact H) | exact H
          have Ny497 := Aside0.mk hy497
          clear hy497
          have H' := Aside0.mk H
          clear H
          go_wp2_with (first | ((with_reducible refine gate_builtin (b := .append) (xs := #[.tmp 35, .tmp 37]) rfl ?_); at_builtin; refine Kd.R_append (Kd.int .i64) (w0 := w) w.heap.size rfl (.tmp 35) (.tmp 37) 22 2 (.int .i64 0) 8 rfl Try.underlying22 info2 rfl (by decide) (by omega) u9 x9_1 (wrap64 (Int.tmod (IntKind.u64.wrap (a0)) 1099511627777)) [.int .i64 (wrap64 (Int.tmod (IntKind.u64.wrap (a0)) 1099511627777))] (fun _ => True) (fun _ => False) rfl rfl ?aP (fun _ hk => hk.elim) ?aF ?aO ?aB ?aS ?aL ?_; (case aP => exact rfl); (case aB => exact (by repeat (first | (with_reducible first | exact HB.out | apply below_alloc | apply pw_below_drewN | apply below_drew1) | exact HB.out))); (case aF => exact (fun _ _ => trivial)); (case aO => exact (by (with_reducible repeat (first | apply Kd.R_alloc | apply Kd.R_drewN | apply Kd.R_drew)); exact HO_9.out)); (case aS => exact (below_size (by repeat (first | (with_reducible first | exact HB.out | apply below_alloc | apply pw_below_drewN | apply below_drew1) | exact HB.out)))); (case aL => have := LMc5.out; omega); intro v498 w6 ho hb hg hat; rw [← Ny497.out] at ho; have n0_ := Aside0.mk (hb); have n1_ := Aside0.mk (ho); clear HB; clear HO_9; have HB := n0_; have HO499 := n1_; clear n0_ n1_; clear ho hb hg hat))
          go_roundg k1
          case measure => have := HK1.out; omega
          case rel => exact ⟨(y497), (wrap64 (x10_1 + 1)), (by first | rfl | (simp; done) | (simp [*]; done)), H', ⟨by have := HK1.out; omega⟩, ⟨by (with_reducible repeat (first | apply Kd.R_alloc | apply Kd.R_drewN | apply Kd.R_drew)); exact HO499.out⟩, ⟨by repeat (first | (with_reducible first | exact HB.out | apply below_alloc | apply pw_below_drewN | apply below_drew1) | exact HB.out)⟩⟩
        · rw [if_neg c5] at H
          exact absurd H (by simp)
      · rw [if_neg c4] at H
        have c4b0 : decide (x10_1 < (wrap64 (1 + (wrap64 (Int.tmod (IntKind.u64.wrap (a1)) 40))))) = false := decide_eq_false c4
        clear c4
        by_cases c7 : (IntKind.u64.wrap (wrap64 (Int.tdiv (wrap64 ((wrap64 (1 + (wrap64 (Int.tmod (IntKind.u64.wrap (a1)) 40)))) + 1)) 2))) = 0
        · rw [if_pos c7] at H
          exact absurd H (by simp)
        · rw [if_neg c7] at H
          have c7b0 : ((IntKind.u64.wrap (wrap64 (Int.tdiv (wrap64 ((wrap64 (1 + (wrap64 (Int.tmod (IntKind.u64.wrap (a1)) 40)))) + 1)) 2))) == 0) = false := beq_eq_false_iff_ne.mpr c7
          have c7b1 : ((IntKind.u64.wrap (wrap64 (Int.tdiv (wrap64 ((wrap64 (1 + (wrap64 (Int.tmod (IntKind.u64.wrap (a1)) 40)))) + 1)) 2))) != 0) = true := bne_iff_ne.mpr c7
          replace H := Option.bind_eq_some_iff.mp H
          obtain ⟨⟨t500, t501⟩, A80, H⟩ := H
          replace H : ((trim_Mean.f k1 x9_1 (wrap64 (Int.tmod (IntKind.u64.wrap (a2)) (IntKind.u64.wrap (wrap64 (Int.tdiv (wrap64 ((wrap64 (1 + (wrap64 (Int.tmod (IntKind.u64.wrap (a1)) 40)))) + 1)) 2)))))).bind fun bt502 => ((trim_Span.f k1 x9_1 (wrap64 (Int.tmod (IntKind.u64.wrap (a2)) (IntKind.u64.wrap (wrap64 (Int.tdiv (wrap64 ((wrap64 (1 + (wrap64 (Int.tmod (IntKind.u64.wrap (a1)) 40)))) + 1)) 2)))))).bind fun bt504 => ((trim_Mean.f k1 x9_1 (wrap64 (Int.tdiv (wrap64 ((wrap64 (1 + (wrap64 (Int.tmod (IntKind.u64.wrap (a1)) 40)))) + 1)) 2))).bind fun bt507 => ((quorumitelaw10_told.f k1).bind fun t509 => (if t509 = true then (if t501 = true then (if bt502.2 = true then (if bt504.2.2 = true then (if bt507.2 = true then (some false) else (if t500 = (wrap64 (Int.tmod (IntKind.u64.wrap (a0)) 1099511627777)) then (if bt502.1 = (wrap64 (Int.tmod (IntKind.u64.wrap (a0)) 1099511627777)) then (if bt504.1 = (wrap64 (Int.tmod (IntKind.u64.wrap (a0)) 1099511627777)) then (some (bt504.2.1 == (wrap64 (Int.tmod (IntKind.u64.wrap (a0)) 1099511627777)))) else (some false)) else (some false)) else (some false))) else (some false)) else (some false)) else (some false)) else (some false)))))) = some r := H
          have A8 := Aside0.mk A80
          clear A80
          replace H := Option.bind_eq_some_iff.mp H
          obtain ⟨⟨t502, t503⟩, A90, H⟩ := H
          replace H : ((trim_Span.f k1 x9_1 (wrap64 (Int.tmod (IntKind.u64.wrap (a2)) (IntKind.u64.wrap (wrap64 (Int.tdiv (wrap64 ((wrap64 (1 + (wrap64 (Int.tmod (IntKind.u64.wrap (a1)) 40)))) + 1)) 2)))))).bind fun bt504 => ((trim_Mean.f k1 x9_1 (wrap64 (Int.tdiv (wrap64 ((wrap64 (1 + (wrap64 (Int.tmod (IntKind.u64.wrap (a1)) 40)))) + 1)) 2))).bind fun bt507 => ((quorumitelaw10_told.f k1).bind fun t509 => (if t509 = true then (if t501 = true then (if t503 = true then (if bt504.2.2 = true then (if bt507.2 = true then (some false) else (if t500 = (wrap64 (Int.tmod (IntKind.u64.wrap (a0)) 1099511627777)) then (if t502 = (wrap64 (Int.tmod (IntKind.u64.wrap (a0)) 1099511627777)) then (if bt504.1 = (wrap64 (Int.tmod (IntKind.u64.wrap (a0)) 1099511627777)) then (some (bt504.2.1 == (wrap64 (Int.tmod (IntKind.u64.wrap (a0)) 1099511627777)))) else (some false)) else (some false)) else (some false))) else (some false)) else (some false)) else (some false)) else (some false))))) = some r := H
          have A9 := Aside0.mk A90
          clear A90
          replace H := Option.bind_eq_some_iff.mp H
          obtain ⟨⟨t504, t505, t506⟩, A100, H⟩ := H
          replace H : ((trim_Mean.f k1 x9_1 (wrap64 (Int.tdiv (wrap64 ((wrap64 (1 + (wrap64 (Int.tmod (IntKind.u64.wrap (a1)) 40)))) + 1)) 2))).bind fun bt507 => ((quorumitelaw10_told.f k1).bind fun t509 => (if t509 = true then (if t501 = true then (if t503 = true then (if t506 = true then (if bt507.2 = true then (some false) else (if t500 = (wrap64 (Int.tmod (IntKind.u64.wrap (a0)) 1099511627777)) then (if t502 = (wrap64 (Int.tmod (IntKind.u64.wrap (a0)) 1099511627777)) then (if t504 = (wrap64 (Int.tmod (IntKind.u64.wrap (a0)) 1099511627777)) then (some (t505 == (wrap64 (Int.tmod (IntKind.u64.wrap (a0)) 1099511627777)))) else (some false)) else (some false)) else (some false))) else (some false)) else (some false)) else (some false)) else (some false)))) = some r := H
          have A10 := Aside0.mk A100
          clear A100
          replace H := Option.bind_eq_some_iff.mp H
          obtain ⟨⟨t507, t508⟩, A110, H⟩ := H
          replace H : ((quorumitelaw10_told.f k1).bind fun t509 => (if t509 = true then (if t501 = true then (if t503 = true then (if t506 = true then (if t508 = true then (some false) else (if t500 = (wrap64 (Int.tmod (IntKind.u64.wrap (a0)) 1099511627777)) then (if t502 = (wrap64 (Int.tmod (IntKind.u64.wrap (a0)) 1099511627777)) then (if t504 = (wrap64 (Int.tmod (IntKind.u64.wrap (a0)) 1099511627777)) then (some (t505 == (wrap64 (Int.tmod (IntKind.u64.wrap (a0)) 1099511627777)))) else (some false)) else (some false)) else (some false))) else (some false)) else (some false)) else (some false)) else (some false))) = some r := H
          have A11 := Aside0.mk A110
          clear A110
          replace H := Option.bind_eq_some_iff.mp H
          obtain ⟨t509, A120, H⟩ := H
          replace H : (if t509 = true then (if t501 = true then (if t503 = true then (if t506 = true then (if t508 = true then (some false) else (if t500 = (wrap64 (Int.tmod (IntKind.u64.wrap (a0)) 1099511627777)) then (if t502 = (wrap64 (Int.tmod (IntKind.u64.wrap (a0)) 1099511627777)) then (if t504 = (wrap64 (Int.tmod (IntKind.u64.wrap (a0)) 1099511627777)) then (some (t505 == (wrap64 (Int.tmod (IntKind.u64.wrap (a0)) 1099511627777)))) else (some false)) else (some false)) else (some false))) else (some false)) else (some false)) else (some false)) else (some false)) = some r := H
          have A12 := Aside0.mk A120
          clear A120
          by_cases c13 : t509 = true
          · subst c13
            have H1 : (if t501 = true then (if t503 = true then (if t506 = true then (if t508 = true then (some false) else (if t500 = (wrap64 (Int.tmod (IntKind.u64.wrap (a0)) 1099511627777)) then (if t502 = (wrap64 (Int.tmod (IntKind.u64.wrap (a0)) 1099511627777)) then (if t504 = (wrap64 (Int.tmod (IntKind.u64.wrap (a0)) 1099511627777)) then (some (t505 == (wrap64 (Int.tmod (IntKind.u64.wrap (a0)) 1099511627777)))) else (some false)) else (some false)) else (some false))) else (some false)) else (some false)) else (some false)) = some r := by rw [if_pos rfl] at H; exact H
            clear H
            have H := H1
            clear H1
            by_cases c14 : t501 = true
            · subst c14
              have H1 : (if t503 = true then (if t506 = true then (if t508 = true then (some false) else (if t500 = (wrap64 (Int.tmod (IntKind.u64.wrap (a0)) 1099511627777)) then (if t502 = (wrap64 (Int.tmod (IntKind.u64.wrap (a0)) 1099511627777)) then (if t504 = (wrap64 (Int.tmod (IntKind.u64.wrap (a0)) 1099511627777)) then (some (t505 == (wrap64 (Int.tmod (IntKind.u64.wrap (a0)) 1099511627777)))) else (some false)) else (some false)) else (some false))) else (some false)) else (some false)) = some r := by rw [if_pos rfl] at H; exact H
              clear H
              have H := H1
              clear H1
              by_cases c15 : t503 = true
              · subst c15
                have H1 : (if t506 = true then (if t508 = true then (some false) else (if t500 = (wrap64 (Int.tmod (IntKind.u64.wrap (a0)) 1099511627777)) then (if t502 = (wrap64 (Int.tmod (IntKind.u64.wrap (a0)) 1099511627777)) then (if t504 = (wrap64 (Int.tmod (IntKind.u64.wrap (a0)) 1099511627777)) then (some (t505 == (wrap64 (Int.tmod (IntKind.u64.wrap (a0)) 1099511627777)))) else (some false)) else (some false)) else (some false))) else (some false)) = some r := by rw [if_pos rfl] at H; exact H
                clear H
                have H := H1
                clear H1
                by_cases c16 : t506 = true
                · subst c16
                  have H1 : (if t508 = true then (some false) else (if t500 = (wrap64 (Int.tmod (IntKind.u64.wrap (a0)) 1099511627777)) then (if t502 = (wrap64 (Int.tmod (IntKind.u64.wrap (a0)) 1099511627777)) then (if t504 = (wrap64 (Int.tmod (IntKind.u64.wrap (a0)) 1099511627777)) then (some (t505 == (wrap64 (Int.tmod (IntKind.u64.wrap (a0)) 1099511627777)))) else (some false)) else (some false)) else (some false))) = some r := by rw [if_pos rfl] at H; exact H
                  clear H
                  have H := H1
                  clear H1
                  by_cases c17 : t508 = true
                  · subst c17
                    have H1 : (some false) = some r := by rw [if_pos rfl] at H; exact H
                    clear H
                    have H := H1
                    clear H1
                    exact absurd ((Option.some.inj H).trans HRT.out) (by decide)
                  · replace c17 := Bool.eq_false_iff.mpr c17
                    subst c17
                    have H1 : (if t500 = (wrap64 (Int.tmod (IntKind.u64.wrap (a0)) 1099511627777)) then (if t502 = (wrap64 (Int.tmod (IntKind.u64.wrap (a0)) 1099511627777)) then (if t504 = (wrap64 (Int.tmod (IntKind.u64.wrap (a0)) 1099511627777)) then (some (t505 == (wrap64 (Int.tmod (IntKind.u64.wrap (a0)) 1099511627777)))) else (some false)) else (some false)) else (some false)) = some r := by rw [if_neg (show ¬ (false = true) by decide)] at H; exact H
                    clear H
                    have H := H1
                    clear H1
                    by_cases c24 : t500 = (wrap64 (Int.tmod (IntKind.u64.wrap (a0)) 1099511627777))
                    · rw [if_pos c24] at H
                      have c24b0 : (t500 == (wrap64 (Int.tmod (IntKind.u64.wrap (a0)) 1099511627777))) = true := beq_iff_eq.mpr c24
                      have c24b1 : (t500 != (wrap64 (Int.tmod (IntKind.u64.wrap (a0)) 1099511627777))) = false := bne_eq_false_iff_eq.mpr c24
                      clear c24
                      by_cases c25 : t502 = (wrap64 (Int.tmod (IntKind.u64.wrap (a0)) 1099511627777))
                      · rw [if_pos c25] at H
                        have c25b0 : (t502 == (wrap64 (Int.tmod (IntKind.u64.wrap (a0)) 1099511627777))) = true := beq_iff_eq.mpr c25
                        have c25b1 : (t502 != (wrap64 (Int.tmod (IntKind.u64.wrap (a0)) 1099511627777))) = false := bne_eq_false_iff_eq.mpr c25
                        clear c25
                        by_cases c26 : t504 = (wrap64 (Int.tmod (IntKind.u64.wrap (a0)) 1099511627777))
                        · rw [if_pos c26] at H
                          have c26b0 : (t504 == (wrap64 (Int.tmod (IntKind.u64.wrap (a0)) 1099511627777))) = true := beq_iff_eq.mpr c26
                          have c26b1 : (t504 != (wrap64 (Int.tmod (IntKind.u64.wrap (a0)) 1099511627777))) = false := bne_eq_false_iff_eq.mpr c26
                          clear c26
                          obtain rfl := Option.some.inj H
                          obtain ⟨Ao27, co27, eo27⟩ := Kd.R_slice HO_9.out
                          subst eo27
                          go_wp2_with (first | ((with_reducible refine gate_callee (f := 27) rfl ?_); refine goesL_ (some 49) rfl rfl Try.func27 (by kernel_rfl) rfl #[.slice Ao27 x9_1.length co27] rfl (by (try simp only [List.map_toArray, List.map_cons, List.map_nil]); first | done | rfl | (simp only [List.length_drop, List.length_take]; rfl)) ?_; (with_reducible refine (trim_Median.calls k1 _ _ x9_1 t500 true _ ?side1 ?side2 A8.out).mono ?_); (case side1 => repeat (first | exact (Kd.R_reads' HO_9.out).2.2 | (with_reducible refine Kd.C_alloc ?_ _) | (with_reducible refine Kd.C_drewN ?_ _) | (with_reducible refine Kd.C_drew ?_))); (case side2 => exact (Kd.R_reads' HO_9.out).2.1); rintro e w28 ⟨rfl, hb⟩; refine ⟨_, rfl, ?_⟩; have n0_ := Aside0.mk (Kd.R_below (by (with_reducible repeat (first | apply Kd.R_alloc | apply Kd.R_drewN | apply Kd.R_drew)); exact HO_9.out) hb); have n1_ := Aside0.mk (below_step (by repeat (first | (with_reducible first | exact HB.out | apply below_alloc | apply pw_below_drewN | apply below_drew1) | exact HB.out)) hb); clear HO_9; clear HB; have HO_9 := n0_; have HB := n1_; clear n0_ n1_; (try clear hb); (try clear hb2); (try clear hk); (try clear hi)) | ((with_reducible refine gate_callee (f := 29) rfl ?_); refine goesL_ (some 55) rfl rfl Try.func29 (by kernel_rfl) rfl #[.slice Ao27 x9_1.length co27, .int .i64 (wrap64 (Int.tmod (IntKind.u64.wrap (a2)) (IntKind.u64.wrap (wrap64 (Int.tdiv (wrap64 ((wrap64 (1 + (wrap64 (Int.tmod (IntKind.u64.wrap (a1)) 40)))) + 1)) 2)))))] rfl (by (try simp only [List.map_toArray, List.map_cons, List.map_nil]); first | done | rfl | (simp only [List.length_drop, List.length_take]; rfl)) ?_; (with_reducible refine (trim_Mean.calls k1 _ _ x9_1 (wrap64 (Int.tmod (IntKind.u64.wrap (a2)) (IntKind.u64.wrap (wrap64 (Int.tdiv (wrap64 ((wrap64 (1 + (wrap64 (Int.tmod (IntKind.u64.wrap (a1)) 40)))) + 1)) 2))))) t502 true _ ?side1 ?side2 A9.out).mono ?_); (case side1 => repeat (first | exact (Kd.R_reads' HO_9.out).2.2 | (with_reducible refine Kd.C_alloc ?_ _) | (with_reducible refine Kd.C_drewN ?_ _) | (with_reducible refine Kd.C_drew ?_))); (case side2 => exact (Kd.R_reads' HO_9.out).2.1); rintro e w29 ⟨rfl, hb⟩; refine ⟨_, rfl, ?_⟩; have n0_ := Aside0.mk (Kd.R_below (by (with_reducible repeat (first | apply Kd.R_alloc | apply Kd.R_drewN | apply Kd.R_drew)); exact HO_9.out) hb); have n1_ := Aside0.mk (below_step (by repeat (first | (with_reducible first | exact HB.out | apply below_alloc | apply pw_below_drewN | apply below_drew1) | exact HB.out)) hb); clear HO_9; clear HB; have HO_9 := n0_; have HB := n1_; clear n0_ n1_; (try clear hb); (try clear hb2); (try clear hk); (try clear hi)) | ((with_reducible refine gate_callee (f := 31) rfl ?_); refine goesL_ (some 61) rfl rfl Try.func31 (by kernel_rfl) rfl #[.slice Ao27 x9_1.length co27, .int .i64 (wrap64 (Int.tmod (IntKind.u64.wrap (a2)) (IntKind.u64.wrap (wrap64 (Int.tdiv (wrap64 ((wrap64 (1 + (wrap64 (Int.tmod (IntKind.u64.wrap (a1)) 40)))) + 1)) 2)))))] rfl (by (try simp only [List.map_toArray, List.map_cons, List.map_nil]); first | done | rfl | (simp only [List.length_drop, List.length_take]; rfl)) ?_; (with_reducible refine (trim_Span.calls k1 _ _ x9_1 (wrap64 (Int.tmod (IntKind.u64.wrap (a2)) (IntKind.u64.wrap (wrap64 (Int.tdiv (wrap64 ((wrap64 (1 + (wrap64 (Int.tmod (IntKind.u64.wrap (a1)) 40)))) + 1)) 2))))) t504 t505 true _ ?side1 ?side2 A10.out).mono ?_); (case side1 => repeat (first | exact (Kd.R_reads' HO_9.out).2.2 | (with_reducible refine Kd.C_alloc ?_ _) | (with_reducible refine Kd.C_drewN ?_ _) | (with_reducible refine Kd.C_drew ?_))); (case side2 => exact (Kd.R_reads' HO_9.out).2.1); rintro e w30 ⟨rfl, hb⟩; refine ⟨_, rfl, ?_⟩; have n0_ := Aside0.mk (Kd.R_below (by (with_reducible repeat (first | apply Kd.R_alloc | apply Kd.R_drewN | apply Kd.R_drew)); exact HO_9.out) hb); have n1_ := Aside0.mk (below_step (by repeat (first | (with_reducible first | exact HB.out | apply below_alloc | apply pw_below_drewN | apply below_drew1) | exact HB.out)) hb); clear HO_9; clear HB; have HO_9 := n0_; have HB := n1_; clear n0_ n1_; (try clear hb); (try clear hb2); (try clear hk); (try clear hi)) | ((with_reducible refine gate_callee (f := 29) rfl ?_); refine goesL_ (some 70) rfl rfl Try.func29 (by kernel_rfl) rfl #[.slice Ao27 x9_1.length co27, .int .i64 (wrap64 (Int.tdiv (wrap64 ((wrap64 (1 + (wrap64 (Int.tmod (IntKind.u64.wrap (a1)) 40)))) + 1)) 2))] rfl (by (try simp only [List.map_toArray, List.map_cons, List.map_nil]); first | done | rfl | (simp only [List.length_drop, List.length_take]; rfl)) ?_; (with_reducible refine (trim_Mean.calls k1 _ _ x9_1 (wrap64 (Int.tdiv (wrap64 ((wrap64 (1 + (wrap64 (Int.tmod (IntKind.u64.wrap (a1)) 40)))) + 1)) 2)) t507 false _ ?side1 ?side2 A11.out).mono ?_); (case side1 => repeat (first | exact (Kd.R_reads' HO_9.out).2.2 | (with_reducible refine Kd.C_alloc ?_ _) | (with_reducible refine Kd.C_drewN ?_ _) | (with_reducible refine Kd.C_drew ?_))); (case side2 => exact (Kd.R_reads' HO_9.out).2.1); rintro e w31 ⟨rfl, hb⟩; refine ⟨_, rfl, ?_⟩; have n0_ := Aside0.mk (Kd.R_below (by (with_reducible repeat (first | apply Kd.R_alloc | apply Kd.R_drewN | apply Kd.R_drew)); exact HO_9.out) hb); have n1_ := Aside0.mk (below_step (by repeat (first | (with_reducible first | exact HB.out | apply below_alloc | apply pw_below_drewN | apply below_drew1) | exact HB.out)) hb); clear HO_9; clear HB; have HO_9 := n0_; have HB := n1_; clear n0_ n1_; (try clear hb); (try clear hb2); (try clear hk); (try clear hi)) | ((with_reducible refine gate_callee (f := 26) rfl ?_); refine goesL_ (some 73) rfl rfl Try.func26 (by kernel_rfl) rfl #[] rfl (by (try simp only [List.map_toArray, List.map_cons, List.map_nil]); first | done | rfl | (simp only [List.length_drop, List.length_take]; rfl)) ?_; (with_reducible refine (quorumitelaw10_told.calls k1  true _ rfl A12.out).mono ?_); rintro e w32 ⟨rfl, hb⟩; refine ⟨_, rfl, ?_⟩; have n0_ := Aside0.mk (Kd.R_below (by (with_reducible repeat (first | apply Kd.R_alloc | apply Kd.R_drewN | apply Kd.R_drew)); exact HO_9.out) hb); have n1_ := Aside0.mk (below_step (by repeat (first | (with_reducible first | exact HB.out | apply below_alloc | apply pw_below_drewN | apply below_drew1) | exact HB.out)) hb); clear HO_9; clear HB; have HO_9 := n0_; have HB := n1_; clear n0_ n1_; (try clear hb); (try clear hb2); (try clear hk); (try clear hi)))
                          go_ret
                          exact ⟨by first | rfl | (simp [errW_none, errW_some] <;> rfl) | (simp [*, errW_none, errW_some] <;> rfl), by repeat (first | (with_reducible first | exact HB.out | apply below_alloc | apply pw_below_drewN | apply below_drew1) | exact HB.out)⟩
                        · rw [if_neg c26] at H
                          have c26b0 : (t504 == (wrap64 (Int.tmod (IntKind.u64.wrap (a0)) 1099511627777))) = false := beq_eq_false_iff_ne.mpr c26
                          have c26b1 : (t504 != (wrap64 (Int.tmod (IntKind.u64.wrap (a0)) 1099511627777))) = true := bne_iff_ne.mpr c26
                          exact absurd ((Option.some.inj H).trans HRT.out) (by decide)
                      · rw [if_neg c25] at H
                        have c25b0 : (t502 == (wrap64 (Int.tmod (IntKind.u64.wrap (a0)) 1099511627777))) = false := beq_eq_false_iff_ne.mpr c25
                        have c25b1 : (t502 != (wrap64 (Int.tmod (IntKind.u64.wrap (a0)) 1099511627777))) = true := bne_iff_ne.mpr c25
                        exact absurd ((Option.some.inj H).trans HRT.out) (by decide)
                    · rw [if_neg c24] at H
                      have c24b0 : (t500 == (wrap64 (Int.tmod (IntKind.u64.wrap (a0)) 1099511627777))) = false := beq_eq_false_iff_ne.mpr c24
                      have c24b1 : (t500 != (wrap64 (Int.tmod (IntKind.u64.wrap (a0)) 1099511627777))) = true := bne_iff_ne.mpr c24
                      exact absurd ((Option.some.inj H).trans HRT.out) (by decide)
                · replace c16 := Bool.eq_false_iff.mpr c16
                  subst c16
                  have H1 : (some false) = some r := by rw [if_neg (show ¬ (false = true) by decide)] at H; exact H
                  clear H
                  have H := H1
                  clear H1
                  exact absurd ((Option.some.inj H).trans HRT.out) (by decide)
              · replace c15 := Bool.eq_false_iff.mpr c15
                subst c15
                have H1 : (some false) = some r := by rw [if_neg (show ¬ (false = true) by decide)] at H; exact H
                clear H
                have H := H1
                clear H1
                exact absurd ((Option.some.inj H).trans HRT.out) (by decide)
            · replace c14 := Bool.eq_false_iff.mpr c14
              subst c14
              have H1 : (some false) = some r := by rw [if_neg (show ¬ (false = true) by decide)] at H; exact H
              clear H
              have H := H1
              clear H1
              exact absurd ((Option.some.inj H).trans HRT.out) (by decide)
          · replace c13 := Bool.eq_false_iff.mpr c13
            subst c13
            have H1 : (some false) = some r := by rw [if_neg (show ¬ (false = true) by decide)] at H; exact H
            clear H
            have H := H1
            clear H1
            exact absurd ((Option.some.inj H).trans HRT.out) (by decide)

/-- THE ONE PURE STATEMENT of quorumitelaw10_TrimLike: yours. -/
def quorumitelaw10_TrimLike.Pure : Prop := ∀ (a0 : Int) (a1 : Int) (a2 : Int), (Lit.int .i64 a0).wf = true → (Lit.int .i64 a1).wf = true → (Lit.int .i64 a2).wf = true → ∃ k, quorumitelaw10_TrimLike.f k a0 a1 a2 = some true
theorem quorumitelaw10_TrimLike.walk (P : quorumitelaw10_TrimLike.Pure) (a0 : Int) (a1 : Int) (a2 : Int) (w : World) (w0 : (Lit.int .i64 a0).wf = true) (w1 : (Lit.int .i64 a1).wf = true) (w2 : (Lit.int .i64 a2).wf = true) :
    Calls Try.prog 11 #[.int .i64 a0, .int .i64 a1, .int .i64 a2] w fun e w' => e = .returned (.bool true) ∧ Below w.heap.size w w' := by
  obtain ⟨k, h⟩ := P a0 a1 a2 w0 w1 w2
  refine (quorumitelaw10_TrimLike.calls k a0 a1 a2 true w rfl h).mono ?_
  rintro e w' ⟨rfl, hd⟩
  exact ⟨rfl, hd⟩

end Go.Proofs.Ytjcjibghnpjegaa.Pr
