-- Made by a program of this session (wip: patch_print.py, pr.sh) out of the kit's print: functions over lists and the proof that the Go code comes to them.
import Derived.Test.YtjcjibghnpjegaaPr0
import Derived.Test.YtjcjibghnpjegaaPr4
import Derived.Test.YtjcjibghnpjegaaPr19
namespace Go.Proofs.Ytjcjibghnpjegaa.Pr
open Go.RowKit Go.Proofs.YtjcjibghnpjegaaW.PrintWords Go.Proofs.YtjcjibghnpjegaaW.PrintLast Go.Proofs.YtjcjibghnpjegaaW.PrintMore
attribute [local go_sem] max2_int min2_int max_two min_two max_three min_three max_four min_four   -- for this text's walks alone
set_option linter.unusedVariables false
set_option linter.unusedSimpArgs false

/-! ### trim_rest: function 48 -/
def trim_rest.f (k : Nat) (l0 : List Int) (a1 : Int) : Option (List Int) := if l0.length < 17592186044416 then (trim_may.f k l0).bind fun m_ => (if m_ = true ∧ 0 ≤ a1 ∧ a1 ≤ (l0.length : Int) ∧ 2 * a1 < (l0.length : Int) then (order_Sort.f k l0).bind fun s_ => (if s_.length = l0.length then some ((s_.take (l0.length - a1.toNat)).drop a1.toNat) else none) else some []) else none
theorem trim_rest.mono : ∀ a0 a1 k, LeO (trim_rest.f k a0 a1) (trim_rest.f (k + 1) a0 a1) := by
  intro a0 a1 k
  unfold trim_rest.f
  refine LeO.ite (LeO.bind (trim_may.mono _ _) (fun _ => ?_)) (LeO.refl _)
  exact LeO.ite (LeO.bind (order_Sort.mono _ _) (fun _ => LeO.refl _)) (LeO.refl _)
set_option maxHeartbeats 1000000 in
set_option maxRecDepth 100000 in
theorem trim_rest.calls (k : Nat) (A0 : Option Addr) (c0 : Nat) (l0 : List Int) (a1 : Int) (r : List Int) (w : World) (hr0 : Kd.C (Kd.int .i64) w A0 l0.length l0) (hc0 : l0.length ≤ c0) (h : trim_rest.f k l0 a1 = some r) :
    Calls Try.prog 48 #[.slice A0 l0.length c0, .int .i64 a1] w fun e w' => ∃ v0_ : Value, e = .returned (v0_) ∧ Kd.V (Kd.int .i64) 2 w' w.heap.size (fun k_ => (w.heap.size ≤ k_)) v0_ r ∧ Below w.heap.size w w' := by
  unfold trim_rest.f at h
  by_cases hL : l0.length < 17592186044416
  · rw [if_pos hL] at h
    obtain ⟨m, hm0, h⟩ := Option.bind_eq_some_iff.mp h
    replace h : (if m = true ∧ 0 ≤ a1 ∧ a1 ≤ (l0.length : Int) ∧ 2 * a1 < (l0.length : Int) then (order_Sort.f k l0).bind fun s_ => (if s_.length = l0.length then some ((s_.take (l0.length - a1.toNat)).drop a1.toNat) else none) else some []) = some r := h
    have HM := Aside0.mk hm0
    have HR0 := Aside0.mk hr0
    have HC0 := Aside0.mk hc0
    have HL := Aside0.mk hL
    clear hm0 hr0 hc0 hL
    by_cases hg : m = true ∧ 0 ≤ a1 ∧ a1 ≤ (l0.length : Int) ∧ 2 * a1 < (l0.length : Int)
    · rw [if_pos hg] at h
      obtain ⟨rfl, h1, h2, h3⟩ := hg
      obtain ⟨s, hs, h⟩ := Option.bind_eq_some_iff.mp h
      replace h : (if s.length = l0.length then some ((s.take (l0.length - a1.toNat)).drop a1.toNat) else none) = some r := h
      by_cases hsl : s.length = l0.length
      · rw [if_pos hsl] at h
        have HRr := Aside0.mk (Option.some.inj h)
        have HS := Aside0.mk hs
        have HSL := Aside0.mk hsl
        have L := HL.out
        have b1 : decide (a1 < 0) = false := decide_eq_false (by omega)
        have b2 : decide ((l0.length : Int) < a1) = false := decide_eq_false (by omega)
        have b3 : decide ((l0.length : Int) ≤ wrap64 (2 * a1)) = false := decide_eq_false (by unfold wrap64; omega)
        have HU := Aside0.mk (show wrap64 ((l0.length : Int) - a1) = (l0.length : Int) - a1 by unfold wrap64; omega)
        have hq1 : a1 ≤ wrap64 ((l0.length : Int) - a1) := by rw [HU.out]; omega
        have hq2 : wrap64 ((l0.length : Int) - a1) ≤ (s.length : Int) := by rw [HU.out]; omega
        have HQ := Aside0.mk (show a1.toNat ≤ l0.length - a1.toNat ∧ l0.length - a1.toNat ≤ s.length ∧ (wrap64 ((l0.length : Int) - a1)).toNat = l0.length - a1.toNat by rw [HU.out]; omega)
        clear hsl h hs L
        obtain ⟨i0, hi0, hz0, hz1, hz2⟩ := info_parts info2
        go_enter Try.func48, Try.ntmps48
        go_wp2_with (first | (go_at_call 46; (with_reducible refine (trim_may.calls k _ _ l0 true _ ?side1 ?side2 HM.out).mono ?_); (case side1 => exact HR0.out); (case side2 => exact HC0.out); rintro e w' ⟨rfl, ⟨nd, rfl⟩⟩) | (go_at_call 23; (with_reducible refine (order_Sort.calls k _ _ l0 s _ ?side1 ?side2 HS.out).mono ?_); (case side1 => repeat (first | exact HR0.out | (with_reducible refine Kd.C_alloc ?_ _) | (with_reducible refine Kd.C_drewN ?_ _) | (with_reducible refine Kd.C_drew ?_))); (case side2 => exact HC0.out); rintro e w12 ⟨v240, rfl, ho0, hb⟩; obtain ⟨A1, c1, rfl⟩ := Kd.R_slice ho0; have HO := Aside0.mk ho0; have HB := Aside0.mk (below_step (pw_below_drewN (Below.refl w.heap.size w) nd) hb); have hcut := cut_mid (P := Try.prog) 22 2 .i64 .i64 Try.underlying22 hi0 1 hz1 A1 s.length c1 a1 (wrap64 ((l0.length : Int) - a1)) h1 hq1 hq2 (Kd.R_reads' ho0).2.1; obtain ⟨A2, hA2⟩ : ∃ A2, A2 = (if c1 = a1.toNat then A1 else A1.map (·.add (a1.toNat * 1))) := ⟨_, rfl⟩; rw [← hA2] at hcut; have HA2 := Aside0.mk hA2; clear hA2; clear ho0 hb))
        go_ret
        obtain ⟨q1, q2, q3⟩ := HQ.out
        have hv := Kd.R_V (base' := w.heap.size) (Kd.R_bound HO.out)
        have hvr := Kd.V_at hv
        have hF := Kd.F_mid hvr.2.2 q1 q2 hvr.2.1
        have hlen : ((s.take (l0.length - a1.toNat)).drop a1.toNat).length = l0.length - a1.toNat - a1.toNat := by rw [List.length_drop, List.length_take]; omega
        refine ⟨.slice A2 ((s.take (l0.length - a1.toNat)).drop a1.toNat).length (c1 - a1.toNat), ?_, ?_, HB.out⟩
        · rw [hlen, ← q3]; rfl
        · rw [← HRr.out]
          refine Kd.V_mk (by rw [hlen]; omega) ?_
          rw [HA2.out]
          exact Kd.F_mono hF (fun k_ hk => hk.2.1)
      · rw [if_neg hsl] at h
        exact absurd h (by simp)
    · rw [if_neg hg] at h
      have HRr := Aside0.mk (Option.some.inj h)
      have L := HL.out
      cases m with
      | false =>
        clear hg h L
        go_enter Try.func48, Try.ntmps48
        go_wp2_with (go_at_call 46; (with_reducible refine (trim_may.calls k _ _ l0 false _ ?side1 ?side2 HM.out).mono ?_); (case side1 => exact HR0.out); (case side2 => exact HC0.out); rintro e w' ⟨rfl, ⟨nd, rfl⟩⟩)
        go_ret
        rw [← HRr.out]
        exact ⟨_, rfl, Kd.V_nil _ _ _ _ _, pw_below_drewN (Below.refl w.heap.size w) _⟩
      | true =>
        by_cases g1 : a1 < 0
        · have b1 : decide (a1 < 0) = true := decide_eq_true g1
          clear hg h L g1
          go_enter Try.func48, Try.ntmps48
          go_wp2_with (go_at_call 46; (with_reducible refine (trim_may.calls k _ _ l0 true _ ?side1 ?side2 HM.out).mono ?_); (case side1 => exact HR0.out); (case side2 => exact HC0.out); rintro e w' ⟨rfl, ⟨nd, rfl⟩⟩)
          go_ret
          rw [← HRr.out]
          exact ⟨_, rfl, Kd.V_nil _ _ _ _ _, pw_below_drewN (Below.refl w.heap.size w) _⟩
        · by_cases g2 : (l0.length : Int) < a1
          · have b1 : decide (a1 < 0) = false := decide_eq_false g1
            have b2 : decide ((l0.length : Int) < a1) = true := decide_eq_true g2
            clear hg h L g1 g2
            go_enter Try.func48, Try.ntmps48
            go_wp2_with (go_at_call 46; (with_reducible refine (trim_may.calls k _ _ l0 true _ ?side1 ?side2 HM.out).mono ?_); (case side1 => exact HR0.out); (case side2 => exact HC0.out); rintro e w' ⟨rfl, ⟨nd, rfl⟩⟩)
            go_ret
            rw [← HRr.out]
            exact ⟨_, rfl, Kd.V_nil _ _ _ _ _, pw_below_drewN (Below.refl w.heap.size w) _⟩
          · have b1 : decide (a1 < 0) = false := decide_eq_false g1
            have b2 : decide ((l0.length : Int) < a1) = false := decide_eq_false g2
            have g3 : ¬ (2 * a1 < (l0.length : Int)) := fun g => hg ⟨rfl, by omega, by omega, g⟩
            have b3 : decide ((l0.length : Int) ≤ wrap64 (2 * a1)) = true := decide_eq_true (by unfold wrap64; omega)
            clear hg h L g1 g2 g3
            go_enter Try.func48, Try.ntmps48
            go_wp2_with (go_at_call 46; (with_reducible refine (trim_may.calls k _ _ l0 true _ ?side1 ?side2 HM.out).mono ?_); (case side1 => exact HR0.out); (case side2 => exact HC0.out); rintro e w' ⟨rfl, ⟨nd, rfl⟩⟩)
            go_ret
            rw [← HRr.out]
            exact ⟨_, rfl, Kd.V_nil _ _ _ _ _, pw_below_drewN (Below.refl w.heap.size w) _⟩
  · rw [if_neg hL] at h
    exact absurd h (by simp)

end Go.Proofs.Ytjcjibghnpjegaa.Pr
