-- Made by a program of this session (wip: patch_print.py, pr.sh) out of the kit's print: functions over lists and the proof that the Go code comes to them.
import Derived.Test.YtjcjibghnpjegaaPr0
import Derived.Test.YtjcjibghnpjegaaPr19
import Derived.Test.YtjcjibghnpjegaaPr21
import Derived.Test.YtjcjibghnpjegaaPr22
import Derived.Test.YtjcjibghnpjegaaPr23
import Derived.Test.YtjcjibghnpjegaaPr24
import Derived.Test.YtjcjibghnpjegaaPr26
import Derived.Test.YtjcjibghnpjegaaPr28
import Derived.Test.YtjcjibghnpjegaaPr29
namespace Go.Proofs.Ytjcjibghnpjegaa.Pr
open Go.RowKit Go.Proofs.YtjcjibghnpjegaaW.PrintWords Go.Proofs.YtjcjibghnpjegaaW.PrintLast Go.Proofs.YtjcjibghnpjegaaW.PrintMore
attribute [local go_sem] max2_int min2_int max_two min_two max_three min_three max_four min_four   -- for this text's walks alone
set_option linter.unusedVariables false
set_option linter.unusedSimpArgs false

/-! ### quorumitelaw10_TrimAsks: function 8 -/
def quorumitelaw10_TrimAsks.f (k : Nat) (l0 : List Int) (a1 : Int) (a2 : Int) (a3 : Int) : Option (Bool) := if (l0.length : Int) > 40 then ((quorumitelaw10_told.f k).bind fun t419 => (some t419)) else ((trim_Median.f k l0).bind fun bt420 => ((quorumiteref9_Median.f k l0).bind fun bt422 => ((trim_Mean.f k l0 a1).bind fun bt424 => ((quorumiteref9_Mean.f k l0 a1).bind fun bt426 => ((trim_Span.f k l0 a1).bind fun bt428 => ((quorumiteref9_Span.f k l0 a1).bind fun bt431 => ((quorumitelaw10_told.f k).bind fun t434 => (if t434 = true then (if bt420.1 = bt422.1 then (if (bt420.2 == bt422.2) = true then (if bt424.1 = bt426.1 then (if (bt424.2 == bt426.2) = true then (if bt428.1 = bt431.1 then (if bt428.2.1 = bt431.2.1 then (if (bt428.2.2 == bt431.2.2) = true then ((trim_Quorum.f a2 a3).bind fun t435 => (if a2 ≥ a3 then (some (t435 == (decide (a2 > 0)))) else (some (t435 == false)))) else (some false)) else (some false)) else (some false)) else (some false)) else (some false)) else (some false)) else (some false)) else (some false)))))))))
theorem quorumitelaw10_TrimAsks.mono : ∀ a0 a1 a2 a3 k, LeO (quorumitelaw10_TrimAsks.f k a0 a1 a2 a3) (quorumitelaw10_TrimAsks.f (k + 1) a0 a1 a2 a3) := by
  intro a0 a1 a2 a3 k
  unfold quorumitelaw10_TrimAsks.f
  repeat' first
      | (with_reducible exact quorumitelaw10_told.mono _)
      | (with_reducible exact quorumiteref9_Mean.mono _ _ _)
      | (with_reducible exact quorumiteref9_Median.mono _ _)
      | (with_reducible exact quorumiteref9_Span.mono _ _ _)
      | (with_reducible exact trim_Mean.mono _ _ _)
      | (with_reducible exact trim_Median.mono _ _)
      | (with_reducible exact trim_Span.mono _ _ _)
      | (with_reducible exact LeO.refl _)
      | (with_reducible exact LeO.none _)
      | (with_reducible refine LeO.ite ?_ ?_)
      | (with_reducible refine LeO.bind ?_ (fun _ => ?_))
      | exact quorumitelaw10_told.mono _
      | exact quorumiteref9_Mean.mono _ _ _
      | exact quorumiteref9_Median.mono _ _
      | exact quorumiteref9_Span.mono _ _ _
      | exact trim_Mean.mono _ _ _
      | exact trim_Median.mono _ _
      | exact trim_Span.mono _ _ _
      | exact LeO.none _
      | refine LeO.ite ?_ ?_
      | refine LeO.bind ?_ (fun _ => ?_)
set_option maxHeartbeats 8000000 in
set_option maxRecDepth 100000 in
theorem quorumitelaw10_TrimAsks.calls (k : Nat) (A0 : Option Addr) (c0 : Nat) (l0 : List Int) (a1 : Int) (a2 : Int) (a3 : Int) (r : Bool) (w : World) (hr0 : Kd.C (Kd.int .i64) w A0 l0.length l0) (hc0 : l0.length ≤ c0) (hrt : r = true) (h : quorumitelaw10_TrimAsks.f k l0 a1 a2 a3 = some r) :
    Calls Try.prog 8 #[.slice A0 l0.length c0, .int .i64 a1, .int .i64 a2, .int .i64 a3] w fun e w' => e = .returned (.bool r) ∧ Below w.heap.size w w' := by
  have HRT := Aside0.mk hrt
  clear hrt
  have HR0 := Aside0.mk hr0
  have HC0 := Aside0.mk hc0
  clear hr0 hc0
  have HB := Aside0.mk (Below.refl w.heap.size w)
  have H : (if (l0.length : Int) > 40 then ((quorumitelaw10_told.f k).bind fun t419 => (some t419)) else ((trim_Median.f k l0).bind fun bt420 => ((quorumiteref9_Median.f k l0).bind fun bt422 => ((trim_Mean.f k l0 a1).bind fun bt424 => ((quorumiteref9_Mean.f k l0 a1).bind fun bt426 => ((trim_Span.f k l0 a1).bind fun bt428 => ((quorumiteref9_Span.f k l0 a1).bind fun bt431 => ((quorumitelaw10_told.f k).bind fun t434 => (if t434 = true then (if bt420.1 = bt422.1 then (if (bt420.2 == bt422.2) = true then (if bt424.1 = bt426.1 then (if (bt424.2 == bt426.2) = true then (if bt428.1 = bt431.1 then (if bt428.2.1 = bt431.2.1 then (if (bt428.2.2 == bt431.2.2) = true then ((trim_Quorum.f a2 a3).bind fun t435 => (if a2 ≥ a3 then (some (t435 == (decide (a2 > 0)))) else (some (t435 == false)))) else (some false)) else (some false)) else (some false)) else (some false)) else (some false)) else (some false)) else (some false)) else (some false)))))))))) = some r := h
  clear h
  by_cases c5 : (l0.length : Int) > 40
  · rw [if_pos c5] at H
    have c5b0 : decide (40 < (l0.length : Int)) = true := decide_eq_true c5
    have c5b1 : decide (40 < l0.length) = true := decide_eq_true (by omega)
    clear c5
    replace H := Option.bind_eq_some_iff.mp H
    obtain ⟨t419, A60, H⟩ := H
    replace H : (some t419) = some r := H
    have A6 := Aside0.mk A60
    clear A60
    obtain rfl := Option.some.inj H
    go_enter Try.func8, Try.ntmps8
    go_wp2_with (first | ((with_reducible refine gate_callee (f := 26) rfl ?_); refine goesL_ (some 26) rfl rfl Try.func26 (by kernel_rfl) rfl #[] rfl (by (try simp only [List.map_toArray, List.map_cons, List.map_nil]); first | done | rfl | (simp only [List.length_drop, List.length_take]; rfl)) ?_; (with_reducible refine (quorumitelaw10_told.calls k  t419 _ HRT.out A6.out).mono ?_); rintro e w7 ⟨rfl, hb⟩; refine ⟨_, rfl, ?_⟩; have n0_ := Aside0.mk (below_step (by repeat (first | (with_reducible first | exact HB.out | apply below_alloc | apply pw_below_drewN | apply below_drew1) | exact HB.out)) hb); clear HB; have HB := n0_; clear n0_; (try clear hb); (try clear hb2); (try clear hk); (try clear hi)))
    go_ret
    exact ⟨by first | rfl | (simp [errW_none, errW_some] <;> rfl) | (simp [*, errW_none, errW_some] <;> rfl), by repeat (first | (with_reducible first | exact HB.out | apply below_alloc | apply pw_below_drewN | apply below_drew1) | exact HB.out)⟩
  · rw [if_neg c5] at H
    have c5b0 : decide (40 < (l0.length : Int)) = false := decide_eq_false c5
    have c5b1 : decide (40 < l0.length) = false := decide_eq_false (by omega)
    clear c5
    replace H := Option.bind_eq_some_iff.mp H
    obtain ⟨⟨t420, t421⟩, A80, H⟩ := H
    replace H : ((quorumiteref9_Median.f k l0).bind fun bt422 => ((trim_Mean.f k l0 a1).bind fun bt424 => ((quorumiteref9_Mean.f k l0 a1).bind fun bt426 => ((trim_Span.f k l0 a1).bind fun bt428 => ((quorumiteref9_Span.f k l0 a1).bind fun bt431 => ((quorumitelaw10_told.f k).bind fun t434 => (if t434 = true then (if t420 = bt422.1 then (if (t421 == bt422.2) = true then (if bt424.1 = bt426.1 then (if (bt424.2 == bt426.2) = true then (if bt428.1 = bt431.1 then (if bt428.2.1 = bt431.2.1 then (if (bt428.2.2 == bt431.2.2) = true then ((trim_Quorum.f a2 a3).bind fun t435 => (if a2 ≥ a3 then (some (t435 == (decide (a2 > 0)))) else (some (t435 == false)))) else (some false)) else (some false)) else (some false)) else (some false)) else (some false)) else (some false)) else (some false)) else (some false)))))))) = some r := H
    have A8 := Aside0.mk A80
    clear A80
    replace H := Option.bind_eq_some_iff.mp H
    obtain ⟨⟨t422, t423⟩, A90, H⟩ := H
    replace H : ((trim_Mean.f k l0 a1).bind fun bt424 => ((quorumiteref9_Mean.f k l0 a1).bind fun bt426 => ((trim_Span.f k l0 a1).bind fun bt428 => ((quorumiteref9_Span.f k l0 a1).bind fun bt431 => ((quorumitelaw10_told.f k).bind fun t434 => (if t434 = true then (if t420 = t422 then (if (t421 == t423) = true then (if bt424.1 = bt426.1 then (if (bt424.2 == bt426.2) = true then (if bt428.1 = bt431.1 then (if bt428.2.1 = bt431.2.1 then (if (bt428.2.2 == bt431.2.2) = true then ((trim_Quorum.f a2 a3).bind fun t435 => (if a2 ≥ a3 then (some (t435 == (decide (a2 > 0)))) else (some (t435 == false)))) else (some false)) else (some false)) else (some false)) else (some false)) else (some false)) else (some false)) else (some false)) else (some false))))))) = some r := H
    have A9 := Aside0.mk A90
    clear A90
    replace H := Option.bind_eq_some_iff.mp H
    obtain ⟨⟨t424, t425⟩, A100, H⟩ := H
    replace H : ((quorumiteref9_Mean.f k l0 a1).bind fun bt426 => ((trim_Span.f k l0 a1).bind fun bt428 => ((quorumiteref9_Span.f k l0 a1).bind fun bt431 => ((quorumitelaw10_told.f k).bind fun t434 => (if t434 = true then (if t420 = t422 then (if (t421 == t423) = true then (if t424 = bt426.1 then (if (t425 == bt426.2) = true then (if bt428.1 = bt431.1 then (if bt428.2.1 = bt431.2.1 then (if (bt428.2.2 == bt431.2.2) = true then ((trim_Quorum.f a2 a3).bind fun t435 => (if a2 ≥ a3 then (some (t435 == (decide (a2 > 0)))) else (some (t435 == false)))) else (some false)) else (some false)) else (some false)) else (some false)) else (some false)) else (some false)) else (some false)) else (some false)))))) = some r := H
    have A10 := Aside0.mk A100
    clear A100
    replace H := Option.bind_eq_some_iff.mp H
    obtain ⟨⟨t426, t427⟩, A110, H⟩ := H
    replace H : ((trim_Span.f k l0 a1).bind fun bt428 => ((quorumiteref9_Span.f k l0 a1).bind fun bt431 => ((quorumitelaw10_told.f k).bind fun t434 => (if t434 = true then (if t420 = t422 then (if (t421 == t423) = true then (if t424 = t426 then (if (t425 == t427) = true then (if bt428.1 = bt431.1 then (if bt428.2.1 = bt431.2.1 then (if (bt428.2.2 == bt431.2.2) = true then ((trim_Quorum.f a2 a3).bind fun t435 => (if a2 ≥ a3 then (some (t435 == (decide (a2 > 0)))) else (some (t435 == false)))) else (some false)) else (some false)) else (some false)) else (some false)) else (some false)) else (some false)) else (some false)) else (some false))))) = some r := H
    have A11 := Aside0.mk A110
    clear A110
    replace H := Option.bind_eq_some_iff.mp H
    obtain ⟨⟨t428, t429, t430⟩, A120, H⟩ := H
    replace H : ((quorumiteref9_Span.f k l0 a1).bind fun bt431 => ((quorumitelaw10_told.f k).bind fun t434 => (if t434 = true then (if t420 = t422 then (if (t421 == t423) = true then (if t424 = t426 then (if (t425 == t427) = true then (if t428 = bt431.1 then (if t429 = bt431.2.1 then (if (t430 == bt431.2.2) = true then ((trim_Quorum.f a2 a3).bind fun t435 => (if a2 ≥ a3 then (some (t435 == (decide (a2 > 0)))) else (some (t435 == false)))) else (some false)) else (some false)) else (some false)) else (some false)) else (some false)) else (some false)) else (some false)) else (some false)))) = some r := H
    have A12 := Aside0.mk A120
    clear A120
    replace H := Option.bind_eq_some_iff.mp H
    obtain ⟨⟨t431, t432, t433⟩, A130, H⟩ := H
    replace H : ((quorumitelaw10_told.f k).bind fun t434 => (if t434 = true then (if t420 = t422 then (if (t421 == t423) = true then (if t424 = t426 then (if (t425 == t427) = true then (if t428 = t431 then (if t429 = t432 then (if (t430 == t433) = true then ((trim_Quorum.f a2 a3).bind fun t435 => (if a2 ≥ a3 then (some (t435 == (decide (a2 > 0)))) else (some (t435 == false)))) else (some false)) else (some false)) else (some false)) else (some false)) else (some false)) else (some false)) else (some false)) else (some false))) = some r := H
    have A13 := Aside0.mk A130
    clear A130
    replace H := Option.bind_eq_some_iff.mp H
    obtain ⟨t434, A140, H⟩ := H
    replace H : (if t434 = true then (if t420 = t422 then (if (t421 == t423) = true then (if t424 = t426 then (if (t425 == t427) = true then (if t428 = t431 then (if t429 = t432 then (if (t430 == t433) = true then ((trim_Quorum.f a2 a3).bind fun t435 => (if a2 ≥ a3 then (some (t435 == (decide (a2 > 0)))) else (some (t435 == false)))) else (some false)) else (some false)) else (some false)) else (some false)) else (some false)) else (some false)) else (some false)) else (some false)) = some r := H
    have A14 := Aside0.mk A140
    clear A140
    by_cases c15 : t434 = true
    · subst c15
      have H1 : (if t420 = t422 then (if (t421 == t423) = true then (if t424 = t426 then (if (t425 == t427) = true then (if t428 = t431 then (if t429 = t432 then (if (t430 == t433) = true then ((trim_Quorum.f a2 a3).bind fun t435 => (if a2 ≥ a3 then (some (t435 == (decide (a2 > 0)))) else (some (t435 == false)))) else (some false)) else (some false)) else (some false)) else (some false)) else (some false)) else (some false)) else (some false)) = some r := by rw [if_pos rfl] at H; exact H
      clear H
      have H := H1
      clear H1
      by_cases c16 : t420 = t422
      · rw [if_pos c16] at H
        have c16b0 : (t420 == t422) = true := beq_iff_eq.mpr c16
        have c16b1 : (t420 != t422) = false := bne_eq_false_iff_eq.mpr c16
        clear c16
        by_cases c17 : (t421 == t423) = true
        · rw [if_pos c17] at H
          have c17b0 : (t421 == t423) = true := c17
          (try (have c17b1 : decide (t421 = t423) = true := by simpa using c17))
          (try (have c17b2 : (t421 == t423) = true := by simpa using c17))
          clear c17
          by_cases c18 : t424 = t426
          · rw [if_pos c18] at H
            have c18b0 : (t424 == t426) = true := beq_iff_eq.mpr c18
            have c18b1 : (t424 != t426) = false := bne_eq_false_iff_eq.mpr c18
            clear c18
            by_cases c19 : (t425 == t427) = true
            · rw [if_pos c19] at H
              have c19b0 : (t425 == t427) = true := c19
              (try (have c19b1 : decide (t425 = t427) = true := by simpa using c19))
              (try (have c19b2 : (t425 == t427) = true := by simpa using c19))
              clear c19
              by_cases c20 : t428 = t431
              · rw [if_pos c20] at H
                have c20b0 : (t428 == t431) = true := beq_iff_eq.mpr c20
                have c20b1 : (t428 != t431) = false := bne_eq_false_iff_eq.mpr c20
                clear c20
                by_cases c21 : t429 = t432
                · rw [if_pos c21] at H
                  have c21b0 : (t429 == t432) = true := beq_iff_eq.mpr c21
                  have c21b1 : (t429 != t432) = false := bne_eq_false_iff_eq.mpr c21
                  clear c21
                  by_cases c22 : (t430 == t433) = true
                  · rw [if_pos c22] at H
                    have c22b0 : (t430 == t433) = true := c22
                    (try (have c22b1 : decide (t430 = t433) = true := by simpa using c22))
                    (try (have c22b2 : (t430 == t433) = true := by simpa using c22))
                    clear c22
                    replace H := Option.bind_eq_some_iff.mp H
                    obtain ⟨t435, A230, H⟩ := H
                    replace H : (if a2 ≥ a3 then (some (t435 == (decide (a2 > 0)))) else (some (t435 == false))) = some r := H
                    have A23 := Aside0.mk A230
                    clear A230
                    by_cases c24 : a2 ≥ a3
                    · rw [if_pos c24] at H
                      have c24b0 : decide (a3 ≤ a2) = true := decide_eq_true c24
                      clear c24
                      obtain rfl := Option.some.inj H
                      go_enter Try.func8, Try.ntmps8
                      go_wp2_with (first | ((with_reducible refine gate_callee (f := 27) rfl ?_); refine goesL_ (some 29) rfl rfl Try.func27 (by kernel_rfl) rfl #[.slice A0 l0.length c0] rfl (by (try simp only [List.map_toArray, List.map_cons, List.map_nil]); first | done | rfl | (simp only [List.length_drop, List.length_take]; rfl)) ?_; (with_reducible refine (trim_Median.calls k _ _ l0 t420 t421 _ ?side1 ?side2 A8.out).mono ?_); (case side1 => repeat (first | exact HR0.out | (with_reducible refine Kd.C_alloc ?_ _) | (with_reducible refine Kd.C_drewN ?_ _) | (with_reducible refine Kd.C_drew ?_))); (case side2 => exact HC0.out); rintro e w25 ⟨rfl, hb⟩; refine ⟨_, rfl, ?_⟩; have n0_ := Aside0.mk (below_step (by repeat (first | (with_reducible first | exact HB.out | apply below_alloc | apply pw_below_drewN | apply below_drew1) | exact HB.out)) hb); clear HB; have HB := n0_; clear n0_; (try clear hb); (try clear hb2); (try clear hk); (try clear hi)) | ((with_reducible refine gate_callee (f := 28) rfl ?_); refine goesL_ (some 34) rfl rfl Try.func28 (by kernel_rfl) rfl #[.slice A0 l0.length c0] rfl (by (try simp only [List.map_toArray, List.map_cons, List.map_nil]); first | done | rfl | (simp only [List.length_drop, List.length_take]; rfl)) ?_; (with_reducible refine (quorumiteref9_Median.calls k _ _ l0 t422 t423 _ ?side1 ?side2 A9.out).mono ?_); (case side1 => repeat (first | exact (Kd.C_below HR0.out HB.out) | (with_reducible refine Kd.C_alloc ?_ _) | (with_reducible refine Kd.C_drewN ?_ _) | (with_reducible refine Kd.C_drew ?_))); (case side2 => exact HC0.out); rintro e w26 ⟨rfl, hb⟩; refine ⟨_, rfl, ?_⟩; have n0_ := Aside0.mk (below_step (by repeat (first | (with_reducible first | exact HB.out | apply below_alloc | apply pw_below_drewN | apply below_drew1) | exact HB.out)) hb); clear HB; have HB := n0_; clear n0_; (try clear hb); (try clear hb2); (try clear hk); (try clear hi)) | ((with_reducible refine gate_callee (f := 29) rfl ?_); refine goesL_ (some 40) rfl rfl Try.func29 (by kernel_rfl) rfl #[.slice A0 l0.length c0, .int .i64 a1] rfl (by (try simp only [List.map_toArray, List.map_cons, List.map_nil]); first | done | rfl | (simp only [List.length_drop, List.length_take]; rfl)) ?_; (with_reducible refine (trim_Mean.calls k _ _ l0 a1 t424 t425 _ ?side1 ?side2 A10.out).mono ?_); (case side1 => repeat (first | exact (Kd.C_below HR0.out HB.out) | (with_reducible refine Kd.C_alloc ?_ _) | (with_reducible refine Kd.C_drewN ?_ _) | (with_reducible refine Kd.C_drew ?_))); (case side2 => exact HC0.out); rintro e w27 ⟨rfl, hb⟩; refine ⟨_, rfl, ?_⟩; have n0_ := Aside0.mk (below_step (by repeat (first | (with_reducible first | exact HB.out | apply below_alloc | apply pw_below_drewN | apply below_drew1) | exact HB.out)) hb); clear HB; have HB := n0_; clear n0_; (try clear hb); (try clear hb2); (try clear hk); (try clear hi)) | ((with_reducible refine gate_callee (f := 30) rfl ?_); refine goesL_ (some 46) rfl rfl Try.func30 (by kernel_rfl) rfl #[.slice A0 l0.length c0, .int .i64 a1] rfl (by (try simp only [List.map_toArray, List.map_cons, List.map_nil]); first | done | rfl | (simp only [List.length_drop, List.length_take]; rfl)) ?_; (with_reducible refine (quorumiteref9_Mean.calls k _ _ l0 a1 t426 t427 _ ?side1 ?side2 A11.out).mono ?_); (case side1 => repeat (first | exact (Kd.C_below HR0.out HB.out) | (with_reducible refine Kd.C_alloc ?_ _) | (with_reducible refine Kd.C_drewN ?_ _) | (with_reducible refine Kd.C_drew ?_))); (case side2 => exact HC0.out); rintro e w28 ⟨rfl, hb⟩; refine ⟨_, rfl, ?_⟩; have n0_ := Aside0.mk (below_step (by repeat (first | (with_reducible first | exact HB.out | apply below_alloc | apply pw_below_drewN | apply below_drew1) | exact HB.out)) hb); clear HB; have HB := n0_; clear n0_; (try clear hb); (try clear hb2); (try clear hk); (try clear hi)) | ((with_reducible refine gate_callee (f := 31) rfl ?_); refine goesL_ (some 52) rfl rfl Try.func31 (by kernel_rfl) rfl #[.slice A0 l0.length c0, .int .i64 a1] rfl (by (try simp only [List.map_toArray, List.map_cons, List.map_nil]); first | done | rfl | (simp only [List.length_drop, List.length_take]; rfl)) ?_; (with_reducible refine (trim_Span.calls k _ _ l0 a1 t428 t429 t430 _ ?side1 ?side2 A12.out).mono ?_); (case side1 => repeat (first | exact (Kd.C_below HR0.out HB.out) | (with_reducible refine Kd.C_alloc ?_ _) | (with_reducible refine Kd.C_drewN ?_ _) | (with_reducible refine Kd.C_drew ?_))); (case side2 => exact HC0.out); rintro e w29 ⟨rfl, hb⟩; refine ⟨_, rfl, ?_⟩; have n0_ := Aside0.mk (below_step (by repeat (first | (with_reducible first | exact HB.out | apply below_alloc | apply pw_below_drewN | apply below_drew1) | exact HB.out)) hb); clear HB; have HB := n0_; clear n0_; (try clear hb); (try clear hb2); (try clear hk); (try clear hi)) | ((with_reducible refine gate_callee (f := 32) rfl ?_); refine goesL_ (some 59) rfl rfl Try.func32 (by kernel_rfl) rfl #[.slice A0 l0.length c0, .int .i64 a1] rfl (by (try simp only [List.map_toArray, List.map_cons, List.map_nil]); first | done | rfl | (simp only [List.length_drop, List.length_take]; rfl)) ?_; (with_reducible refine (quorumiteref9_Span.calls k _ _ l0 a1 t431 t432 t433 _ ?side1 ?side2 A13.out).mono ?_); (case side1 => repeat (first | exact (Kd.C_below HR0.out HB.out) | (with_reducible refine Kd.C_alloc ?_ _) | (with_reducible refine Kd.C_drewN ?_ _) | (with_reducible refine Kd.C_drew ?_))); (case side2 => exact HC0.out); rintro e w30 ⟨rfl, hb⟩; refine ⟨_, rfl, ?_⟩; have n0_ := Aside0.mk (below_step (by repeat (first | (with_reducible first | exact HB.out | apply below_alloc | apply pw_below_drewN | apply below_drew1) | exact HB.out)) hb); clear HB; have HB := n0_; clear n0_; (try clear hb); (try clear hb2); (try clear hk); (try clear hi)) | ((with_reducible refine gate_callee (f := 26) rfl ?_); refine goesL_ (some 63) rfl rfl Try.func26 (by kernel_rfl) rfl #[] rfl (by (try simp only [List.map_toArray, List.map_cons, List.map_nil]); first | done | rfl | (simp only [List.length_drop, List.length_take]; rfl)) ?_; (with_reducible refine (quorumitelaw10_told.calls k  true _ rfl A14.out).mono ?_); rintro e w31 ⟨rfl, hb⟩; refine ⟨_, rfl, ?_⟩; have n0_ := Aside0.mk (below_step (by repeat (first | (with_reducible first | exact HB.out | apply below_alloc | apply pw_below_drewN | apply below_drew1) | exact HB.out)) hb); clear HB; have HB := n0_; clear n0_; (try clear hb); (try clear hb2); (try clear hk); (try clear hi)) | (go_at_call 33; (with_reducible refine (trim_Quorum.calls a2 a3 t435 _ A23.out).mono ?_); rintro e w' ⟨rfl, ⟨nd, rfl⟩⟩))
                      go_ret
                      exact ⟨by first | rfl | (simp [errW_none, errW_some] <;> rfl) | (simp [*, errW_none, errW_some] <;> rfl), by repeat (first | (with_reducible first | exact HB.out | apply below_alloc | apply pw_below_drewN | apply below_drew1) | exact HB.out)⟩
                    · rw [if_neg c24] at H
                      have c24b0 : decide (a3 ≤ a2) = false := decide_eq_false c24
                      clear c24
                      obtain rfl := Option.some.inj H
                      go_enter Try.func8, Try.ntmps8
                      go_wp2_with (first | ((with_reducible refine gate_callee (f := 27) rfl ?_); refine goesL_ (some 29) rfl rfl Try.func27 (by kernel_rfl) rfl #[.slice A0 l0.length c0] rfl (by (try simp only [List.map_toArray, List.map_cons, List.map_nil]); first | done | rfl | (simp only [List.length_drop, List.length_take]; rfl)) ?_; (with_reducible refine (trim_Median.calls k _ _ l0 t420 t421 _ ?side1 ?side2 A8.out).mono ?_); (case side1 => repeat (first | exact HR0.out | (with_reducible refine Kd.C_alloc ?_ _) | (with_reducible refine Kd.C_drewN ?_ _) | (with_reducible refine Kd.C_drew ?_))); (case side2 => exact HC0.out); rintro e w32 ⟨rfl, hb⟩; refine ⟨_, rfl, ?_⟩; have n0_ := Aside0.mk (below_step (by repeat (first | (with_reducible first | exact HB.out | apply below_alloc | apply pw_below_drewN | apply below_drew1) | exact HB.out)) hb); clear HB; have HB := n0_; clear n0_; (try clear hb); (try clear hb2); (try clear hk); (try clear hi)) | ((with_reducible refine gate_callee (f := 28) rfl ?_); refine goesL_ (some 34) rfl rfl Try.func28 (by kernel_rfl) rfl #[.slice A0 l0.length c0] rfl (by (try simp only [List.map_toArray, List.map_cons, List.map_nil]); first | done | rfl | (simp only [List.length_drop, List.length_take]; rfl)) ?_; (with_reducible refine (quorumiteref9_Median.calls k _ _ l0 t422 t423 _ ?side1 ?side2 A9.out).mono ?_); (case side1 => repeat (first | exact (Kd.C_below HR0.out HB.out) | (with_reducible refine Kd.C_alloc ?_ _) | (with_reducible refine Kd.C_drewN ?_ _) | (with_reducible refine Kd.C_drew ?_))); (case side2 => exact HC0.out); rintro e w33 ⟨rfl, hb⟩; refine ⟨_, rfl, ?_⟩; have n0_ := Aside0.mk (below_step (by repeat (first | (with_reducible first | exact HB.out | apply below_alloc | apply pw_below_drewN | apply below_drew1) | exact HB.out)) hb); clear HB; have HB := n0_; clear n0_; (try clear hb); (try clear hb2); (try clear hk); (try clear hi)) | ((with_reducible refine gate_callee (f := 29) rfl ?_); refine goesL_ (some 40) rfl rfl Try.func29 (by kernel_rfl) rfl #[.slice A0 l0.length c0, .int .i64 a1] rfl (by (try simp only [List.map_toArray, List.map_cons, List.map_nil]); first | done | rfl | (simp only [List.length_drop, List.length_take]; rfl)) ?_; (with_reducible refine (trim_Mean.calls k _ _ l0 a1 t424 t425 _ ?side1 ?side2 A10.out).mono ?_); (case side1 => repeat (first | exact (Kd.C_below HR0.out HB.out) | (with_reducible refine Kd.C_alloc ?_ _) | (with_reducible refine Kd.C_drewN ?_ _) | (with_reducible refine Kd.C_drew ?_))); (case side2 => exact HC0.out); rintro e w34 ⟨rfl, hb⟩; refine ⟨_, rfl, ?_⟩; have n0_ := Aside0.mk (below_step (by repeat (first | (with_reducible first | exact HB.out | apply below_alloc | apply pw_below_drewN | apply below_drew1) | exact HB.out)) hb); clear HB; have HB := n0_; clear n0_; (try clear hb); (try clear hb2); (try clear hk); (try clear hi)) | ((with_reducible refine gate_callee (f := 30) rfl ?_); refine goesL_ (some 46) rfl rfl Try.func30 (by kernel_rfl) rfl #[.slice A0 l0.length c0, .int .i64 a1] rfl (by (try simp only [List.map_toArray, List.map_cons, List.map_nil]); first | done | rfl | (simp only [List.length_drop, List.length_take]; rfl)) ?_; (with_reducible refine (quorumiteref9_Mean.calls k _ _ l0 a1 t426 t427 _ ?side1 ?side2 A11.out).mono ?_); (case side1 => repeat (first | exact (Kd.C_below HR0.out HB.out) | (with_reducible refine Kd.C_alloc ?_ _) | (with_reducible refine Kd.C_drewN ?_ _) | (with_reducible refine Kd.C_drew ?_))); (case side2 => exact HC0.out); rintro e w35 ⟨rfl, hb⟩; refine ⟨_, rfl, ?_⟩; have n0_ := Aside0.mk (below_step (by repeat (first | (with_reducible first | exact HB.out | apply below_alloc | apply pw_below_drewN | apply below_drew1) | exact HB.out)) hb); clear HB; have HB := n0_; clear n0_; (try clear hb); (try clear hb2); (try clear hk); (try clear hi)) | ((with_reducible refine gate_callee (f := 31) rfl ?_); refine goesL_ (some 52) rfl rfl Try.func31 (by kernel_rfl) rfl #[.slice A0 l0.length c0, .int .i64 a1] rfl (by (try simp only [List.map_toArray, List.map_cons, List.map_nil]); first | done | rfl | (simp only [List.length_drop, List.length_take]; rfl)) ?_; (with_reducible refine (trim_Span.calls k _ _ l0 a1 t428 t429 t430 _ ?side1 ?side2 A12.out).mono ?_); (case side1 => repeat (first | exact (Kd.C_below HR0.out HB.out) | (with_reducible refine Kd.C_alloc ?_ _) | (with_reducible refine Kd.C_drewN ?_ _) | (with_reducible refine Kd.C_drew ?_))); (case side2 => exact HC0.out); rintro e w36 ⟨rfl, hb⟩; refine ⟨_, rfl, ?_⟩; have n0_ := Aside0.mk (below_step (by repeat (first | (with_reducible first | exact HB.out | apply below_alloc | apply pw_below_drewN | apply below_drew1) | exact HB.out)) hb); clear HB; have HB := n0_; clear n0_; (try clear hb); (try clear hb2); (try clear hk); (try clear hi)) | ((with_reducible refine gate_callee (f := 32) rfl ?_); refine goesL_ (some 59) rfl rfl Try.func32 (by kernel_rfl) rfl #[.slice A0 l0.length c0, .int .i64 a1] rfl (by (try simp only [List.map_toArray, List.map_cons, List.map_nil]); first | done | rfl | (simp only [List.length_drop, List.length_take]; rfl)) ?_; (with_reducible refine (quorumiteref9_Span.calls k _ _ l0 a1 t431 t432 t433 _ ?side1 ?side2 A13.out).mono ?_); (case side1 => repeat (first | exact (Kd.C_below HR0.out HB.out) | (with_reducible refine Kd.C_alloc ?_ _) | (with_reducible refine Kd.C_drewN ?_ _) | (with_reducible refine Kd.C_drew ?_))); (case side2 => exact HC0.out); rintro e w37 ⟨rfl, hb⟩; refine ⟨_, rfl, ?_⟩; have n0_ := Aside0.mk (below_step (by repeat (first | (with_reducible first | exact HB.out | apply below_alloc | apply pw_below_drewN | apply below_drew1) | exact HB.out)) hb); clear HB; have HB := n0_; clear n0_; (try clear hb); (try clear hb2); (try clear hk); (try clear hi)) | ((with_reducible refine gate_callee (f := 26) rfl ?_); refine goesL_ (some 63) rfl rfl Try.func26 (by kernel_rfl) rfl #[] rfl (by (try simp only [List.map_toArray, List.map_cons, List.map_nil]); first | done | rfl | (simp only [List.length_drop, List.length_take]; rfl)) ?_; (with_reducible refine (quorumitelaw10_told.calls k  true _ rfl A14.out).mono ?_); rintro e w38 ⟨rfl, hb⟩; refine ⟨_, rfl, ?_⟩; have n0_ := Aside0.mk (below_step (by repeat (first | (with_reducible first | exact HB.out | apply below_alloc | apply pw_below_drewN | apply below_drew1) | exact HB.out)) hb); clear HB; have HB := n0_; clear n0_; (try clear hb); (try clear hb2); (try clear hk); (try clear hi)) | (go_at_call 33; (with_reducible refine (trim_Quorum.calls a2 a3 t435 _ A23.out).mono ?_); rintro e w' ⟨rfl, ⟨nd, rfl⟩⟩))
                      go_ret
                      exact ⟨by first | rfl | (simp [errW_none, errW_some] <;> rfl) | (simp [*, errW_none, errW_some] <;> rfl), by repeat (first | (with_reducible first | exact HB.out | apply below_alloc | apply pw_below_drewN | apply below_drew1) | exact HB.out)⟩
                  · rw [if_neg c22] at H
                    have c22b0 : (t430 == t433) = false := by simpa using c22
                    (try (have c22b1 : decide (t430 = t433) = false := by simpa using c22))
                    (try (have c22b2 : (t430 == t433) = false := by simpa using c22))
                    (try (have c22b3 : ¬ (t430 = t433) := by simpa using c22))
                    clear c22
                    exact absurd ((Option.some.inj H).trans HRT.out) (by decide)
                · rw [if_neg c21] at H
                  have c21b0 : (t429 == t432) = false := beq_eq_false_iff_ne.mpr c21
                  have c21b1 : (t429 != t432) = true := bne_iff_ne.mpr c21
                  exact absurd ((Option.some.inj H).trans HRT.out) (by decide)
              · rw [if_neg c20] at H
                have c20b0 : (t428 == t431) = false := beq_eq_false_iff_ne.mpr c20
                have c20b1 : (t428 != t431) = true := bne_iff_ne.mpr c20
                exact absurd ((Option.some.inj H).trans HRT.out) (by decide)
            · rw [if_neg c19] at H
              have c19b0 : (t425 == t427) = false := by simpa using c19
              (try (have c19b1 : decide (t425 = t427) = false := by simpa using c19))
              (try (have c19b2 : (t425 == t427) = false := by simpa using c19))
              (try (have c19b3 : ¬ (t425 = t427) := by simpa using c19))
              clear c19
              exact absurd ((Option.some.inj H).trans HRT.out) (by decide)
          · rw [if_neg c18] at H
            have c18b0 : (t424 == t426) = false := beq_eq_false_iff_ne.mpr c18
            have c18b1 : (t424 != t426) = true := bne_iff_ne.mpr c18
            exact absurd ((Option.some.inj H).trans HRT.out) (by decide)
        · rw [if_neg c17] at H
          have c17b0 : (t421 == t423) = false := by simpa using c17
          (try (have c17b1 : decide (t421 = t423) = false := by simpa using c17))
          (try (have c17b2 : (t421 == t423) = false := by simpa using c17))
          (try (have c17b3 : ¬ (t421 = t423) := by simpa using c17))
          clear c17
          exact absurd ((Option.some.inj H).trans HRT.out) (by decide)
      · rw [if_neg c16] at H
        have c16b0 : (t420 == t422) = false := beq_eq_false_iff_ne.mpr c16
        have c16b1 : (t420 != t422) = true := bne_iff_ne.mpr c16
        exact absurd ((Option.some.inj H).trans HRT.out) (by decide)
    · replace c15 := Bool.eq_false_iff.mpr c15
      subst c15
      have H1 : (some false) = some r := by rw [if_neg (show ¬ (false = true) by decide)] at H; exact H
      clear H
      have H := H1
      clear H1
      exact absurd ((Option.some.inj H).trans HRT.out) (by decide)

/-- THE ONE PURE STATEMENT of quorumitelaw10_TrimAsks: yours. -/
def quorumitelaw10_TrimAsks.Pure : Prop := ∀ (l0 : List Int) (a1 : Int) (a2 : Int) (a3 : Int), l0.length ≤ maxLen → l0.length * 8 ≤ 140737488351232 → (∀ x ∈ l0, (Lit.int .i64 x).wf = true) → (Lit.int .i64 a1).wf = true → (Lit.int .i64 a2).wf = true → (Lit.int .i64 a3).wf = true → ∃ k, quorumitelaw10_TrimAsks.f k l0 a1 a2 a3 = some true
theorem quorumitelaw10_TrimAsks.walk (P : quorumitelaw10_TrimAsks.Pure) (a0 : Option Addr) (len0 cap0 : Nat) (z0 : List Int) (a1 : Int) (a2 : Int) (a3 : Int) (w : World) (w0 : (a0 = none ∧ len0 = 0 ∧ cap0 = 0 ∧ z0 = []) ∨ ∃ x, a0 = some x ∧ len0 ≤ cap0 ∧ cap0 ≤ maxLen ∧ z0.length = cap0 ∧ (∀ i, i < z0.length → w.cell? (x.add i) = some (.int .i64 (z0.getD i 0))) ∧ ∀ n ∈ z0, (Lit.int .i64 n).wf = true) (y0 : len0 * 8 ≤ 140737488351232) (w1 : (Lit.int .i64 a1).wf = true) (w2 : (Lit.int .i64 a2).wf = true) (w3 : (Lit.int .i64 a3).wf = true) :
    Calls Try.prog 8 #[.slice a0 len0 cap0, .int .i64 a1, .int .i64 a2, .int .i64 a3] w fun e w' => e = .returned (.bool true) ∧ Below w.heap.size w w' := by
  obtain ⟨l0, rfl, hr0, hm0, hw0, hc0⟩ := ReadsInt.ofRowC w0
  obtain ⟨k, h⟩ := P l0 a1 a2 a3 hm0 y0 hw0 w1 w2 w3
  refine (quorumitelaw10_TrimAsks.calls k _ _ l0 a1 a2 a3 true w (Kd.C_of_reads (d := (0 : Int)) (h1 := fun _ => rfl) hr0) hc0 rfl h).mono ?_
  rintro e w' ⟨rfl, hd⟩
  exact ⟨rfl, hd⟩

end Go.Proofs.Ytjcjibghnpjegaa.Pr
