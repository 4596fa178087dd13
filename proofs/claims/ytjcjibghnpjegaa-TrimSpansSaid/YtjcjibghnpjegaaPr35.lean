-- Made by a program of this session (wip: patch_print.py, pr.sh) out of the kit's print: functions over lists and the proof that the Go code comes to them.
import Derived.Test.YtjcjibghnpjegaaPr0
import Derived.Test.YtjcjibghnpjegaaPr3
import Derived.Test.YtjcjibghnpjegaaPr19
import Derived.Test.YtjcjibghnpjegaaPr21
import Derived.Test.YtjcjibghnpjegaaPr22
import Derived.Test.YtjcjibghnpjegaaPr24
import Derived.Test.YtjcjibghnpjegaaPr31
namespace Go.Proofs.Ytjcjibghnpjegaa.Pr
open Go.RowKit Go.Proofs.YtjcjibghnpjegaaW.PrintWords Go.Proofs.YtjcjibghnpjegaaW.PrintLast Go.Proofs.YtjcjibghnpjegaaW.PrintMore
attribute [local go_sem] max2_int min2_int max_two min_two max_three min_three max_four min_four   -- for this text's walks alone
set_option linter.unusedVariables false
set_option linter.unusedSimpArgs false

/-! ### quorumitelaw10_TrimSpans: function 12 -/
def quorumitelaw10_TrimSpans.l0 : Nat → List Int → Int → List Int → Int → Int → Option (Bool)
  | 0, _, _, _, _, _ => none
  | k + 1, x5, x6, x7, x8, x9 => if x9 < (wrap64 ((x7.length : Int) - x6)) then (if 0 ≤ x9 then (if x9 < (x7.length : Int) then (quorumitelaw10_TrimSpans.l0 k x5 x6 x7 (wrap64 (x8 + (rd x7 x9))) (wrap64 (x9 + 1))) else (none)) else (none)) else ((trim_Mean.f k x5 x6).bind fun bt518 => ((trim_Span.f k x5 x6).bind fun bt520 => ((trim_Median.f k x5).bind fun bt523 => ((some (([] : List Int) : List Int)).bind fun y525 => (if y525.length + x5.length < 17592186044416 then ((some (y525 ++ x5 : List Int)).bind fun y528 => (if y528.length < 17592186044416 then ((trim_Mean.f k (y528 ++ [1099511627777]) x6).bind fun bt534 => ((quorumitelaw10_told.f k).bind fun t536 => (if t536 = true then (if bt518.2 = true then (if bt520.2.2 = true then (if bt523.2 = true then (if bt534.2 = true then (some false) else (if (wrap64 ((x7.length : Int) - (wrap64 (2 * x6)))) = 0 then (none) else (if bt518.1 = (wrap64 (Int.tdiv x8 (wrap64 ((x7.length : Int) - (wrap64 (2 * x6)))))) then (if 0 ≤ x6 then (if x6 < (x7.length : Int) then (if bt520.1 = (rd x7 x6) then (if 0 ≤ (wrap64 ((wrap64 ((x7.length : Int) - 1)) - x6)) then (if (wrap64 ((wrap64 ((x7.length : Int) - 1)) - x6)) < (x7.length : Int) then (if bt520.2.1 = (rd x7 (wrap64 ((wrap64 ((x7.length : Int) - 1)) - x6))) then (if 0 ≤ (wrap64 (Int.tdiv (wrap64 ((x7.length : Int) - 1)) 2)) then (if (wrap64 (Int.tdiv (wrap64 ((x7.length : Int) - 1)) 2)) < (x7.length : Int) then (some (bt523.1 == (rd x7 (wrap64 (Int.tdiv (wrap64 ((x7.length : Int) - 1)) 2))))) else (none)) else (none)) else (some false)) else (none)) else (none)) else (some false)) else (none)) else (none)) else (some false)))) else (some false)) else (some false)) else (some false)) else (some false)))) else (none))) else (none))))))
def quorumitelaw10_TrimSpans.f (k : Nat) (l0 : List Int) (a1 : Int) : Option (Bool) := (quorumitelaw10_fit.f k l0 30).bind fun t510 => (if (t510.length : Int) = 0 then ((quorumitelaw10_told.f k).bind fun t513 => (some t513)) else (if (IntKind.u64.wrap (wrap64 (Int.tdiv (wrap64 ((t510.length : Int) + 1)) 2))) = 0 then (none) else ((order_Sort.f k t510).bind fun t514 => (if (t514.length : Int) = (t510.length : Int) then (quorumitelaw10_TrimSpans.l0 k t510 (wrap64 (Int.tmod (IntKind.u64.wrap (a1)) (IntKind.u64.wrap (wrap64 (Int.tdiv (wrap64 ((t510.length : Int) + 1)) 2))))) t514 0 (wrap64 (Int.tmod (IntKind.u64.wrap (a1)) (IntKind.u64.wrap (wrap64 (Int.tdiv (wrap64 ((t510.length : Int) + 1)) 2)))))) else (some false)))))
theorem quorumitelaw10_TrimSpans.mono_l : ∀ k, (∀ y0 y1 y2 y3 y4, LeO (quorumitelaw10_TrimSpans.l0 k y0 y1 y2 y3 y4) (quorumitelaw10_TrimSpans.l0 (k + 1) y0 y1 y2 y3 y4))
  | 0 => fun _ _ _ _ _ r h => by simp [quorumitelaw10_TrimSpans.l0] at h
  | k + 1 => by
    have ih0 := quorumitelaw10_TrimSpans.mono_l k
    · intro y0 y1 y2 y3 y4
      unfold quorumitelaw10_TrimSpans.l0
      repeat' first
      | (with_reducible exact ih0 _ _ _ _ _)
      | (with_reducible exact order_Sort.mono _ _)
      | (with_reducible exact quorumitelaw10_fit.mono _ _ _)
      | (with_reducible exact quorumitelaw10_told.mono _)
      | (with_reducible exact trim_Mean.mono _ _ _)
      | (with_reducible exact trim_Median.mono _ _)
      | (with_reducible exact trim_Span.mono _ _ _)
      | (with_reducible exact LeO.refl _)
      | (with_reducible exact LeO.none _)
      | (with_reducible refine LeO.ite ?_ ?_)
      | (with_reducible refine LeO.bind ?_ (fun _ => ?_))
      | exact ih0 _ _ _ _ _
      | exact order_Sort.mono _ _
      | exact quorumitelaw10_fit.mono _ _ _
      | exact quorumitelaw10_told.mono _
      | exact trim_Mean.mono _ _ _
      | exact trim_Median.mono _ _
      | exact trim_Span.mono _ _ _
      | exact LeO.none _
      | refine LeO.ite ?_ ?_
      | refine LeO.bind ?_ (fun _ => ?_)
theorem quorumitelaw10_TrimSpans.mono : ∀ a0 a1 k, LeO (quorumitelaw10_TrimSpans.f k a0 a1) (quorumitelaw10_TrimSpans.f (k + 1) a0 a1) := by
  intro a0 a1 k
  have ih0 := quorumitelaw10_TrimSpans.mono_l k
  unfold quorumitelaw10_TrimSpans.f
  repeat' first
      | (with_reducible exact ih0 _ _ _ _ _)
      | (with_reducible exact order_Sort.mono _ _)
      | (with_reducible exact quorumitelaw10_fit.mono _ _ _)
      | (with_reducible exact quorumitelaw10_told.mono _)
      | (with_reducible exact trim_Mean.mono _ _ _)
      | (with_reducible exact trim_Median.mono _ _)
      | (with_reducible exact trim_Span.mono _ _ _)
      | (with_reducible exact LeO.refl _)
      | (with_reducible exact LeO.none _)
      | (with_reducible refine LeO.ite ?_ ?_)
      | (with_reducible refine LeO.bind ?_ (fun _ => ?_))
      | exact ih0 _ _ _ _ _
      | exact order_Sort.mono _ _
      | exact quorumitelaw10_fit.mono _ _ _
      | exact quorumitelaw10_told.mono _
      | exact trim_Mean.mono _ _ _
      | exact trim_Median.mono _ _
      | exact trim_Span.mono _ _ _
      | exact LeO.none _
      | refine LeO.ite ?_ ?_
      | refine LeO.bind ?_ (fun _ => ?_)
set_option maxHeartbeats 8000000 in
set_option maxRecDepth 100000 in
theorem quorumitelaw10_TrimSpans.calls (k : Nat) (A0 : Option Addr) (c0 : Nat) (l0 : List Int) (a1 : Int) (r : Bool) (w : World) (hr0 : Kd.C (Kd.int .i64) w A0 l0.length l0) (hc0 : l0.length ≤ c0) (hrt : r = true) (h : quorumitelaw10_TrimSpans.f k l0 a1 = some r) :
    Calls Try.prog 12 #[.slice A0 l0.length c0, .int .i64 a1] w fun e w' => e = .returned (.bool r) ∧ Below w.heap.size w w' := by
  have HRT := Aside0.mk hrt
  clear hrt
  have HR0 := Aside0.mk hr0
  have HC0 := Aside0.mk hc0
  clear hr0 hc0
  have HB := Aside0.mk (Below.refl w.heap.size w)
  have H : ((quorumitelaw10_fit.f k l0 30).bind fun t510 => (if (t510.length : Int) = 0 then ((quorumitelaw10_told.f k).bind fun t513 => (some t513)) else (if (IntKind.u64.wrap (wrap64 (Int.tdiv (wrap64 ((t510.length : Int) + 1)) 2))) = 0 then (none) else ((order_Sort.f k t510).bind fun t514 => (if (t514.length : Int) = (t510.length : Int) then (quorumitelaw10_TrimSpans.l0 k t510 (wrap64 (Int.tmod (IntKind.u64.wrap (a1)) (IntKind.u64.wrap (wrap64 (Int.tdiv (wrap64 ((t510.length : Int) + 1)) 2))))) t514 0 (wrap64 (Int.tmod (IntKind.u64.wrap (a1)) (IntKind.u64.wrap (wrap64 (Int.tdiv (wrap64 ((t510.length : Int) + 1)) 2)))))) else (some false)))))) = some r := h
  clear h
  replace H := Option.bind_eq_some_iff.mp H
  obtain ⟨t510, A30, H⟩ := H
  replace H : (if (t510.length : Int) = 0 then ((quorumitelaw10_told.f k).bind fun t513 => (some t513)) else (if (IntKind.u64.wrap (wrap64 (Int.tdiv (wrap64 ((t510.length : Int) + 1)) 2))) = 0 then (none) else ((order_Sort.f k t510).bind fun t514 => (if (t514.length : Int) = (t510.length : Int) then (quorumitelaw10_TrimSpans.l0 k t510 (wrap64 (Int.tmod (IntKind.u64.wrap (a1)) (IntKind.u64.wrap (wrap64 (Int.tdiv (wrap64 ((t510.length : Int) + 1)) 2))))) t514 0 (wrap64 (Int.tmod (IntKind.u64.wrap (a1)) (IntKind.u64.wrap (wrap64 (Int.tdiv (wrap64 ((t510.length : Int) + 1)) 2)))))) else (some false))))) = some r := H
  have A3 := Aside0.mk A30
  clear A30
  by_cases c4 : (t510.length : Int) = 0
  · rw [if_pos c4] at H
    have c4b0 : ((t510.length : Int) == 0) = true := beq_iff_eq.mpr c4
    have c4b1 : ((t510.length : Int) != 0) = false := bne_eq_false_iff_eq.mpr c4
    clear c4
    replace H := Option.bind_eq_some_iff.mp H
    obtain ⟨t513, A50, H⟩ := H
    replace H : (some t513) = some r := H
    have A5 := Aside0.mk A50
    clear A50
    obtain rfl := Option.some.inj H
    go_enter Try.func12, Try.ntmps12
    go_wp2_with (first | ((with_reducible refine gate_callee (f := 34) rfl ?_); refine goesL_ (some 20) rfl rfl Try.func34 (by kernel_rfl) rfl #[.slice A0 l0.length c0, .int .i64 30] rfl (by (try simp only [List.map_toArray, List.map_cons, List.map_nil]); first | done | rfl | (simp only [List.length_drop, List.length_take]; rfl)) ?_; (with_reducible refine (quorumitelaw10_fit.calls k _ _ l0 30 t510 _ ?side1 ?side2 A3.out).mono ?_); (case side1 => repeat (first | exact HR0.out | (with_reducible refine Kd.C_alloc ?_ _) | (with_reducible refine Kd.C_drewN ?_ _) | (with_reducible refine Kd.C_drew ?_))); (case side2 => exact HC0.out); rintro e w6 ⟨v511, rfl, ho0, hb⟩; refine ⟨_, rfl, ?_⟩; have n0_ := Aside0.mk (Kd.R_lower ho0 (below_size (by repeat (first | (with_reducible first | exact HB.out | apply below_alloc | apply pw_below_drewN | apply below_drew1) | exact HB.out)))); have n1_ := Aside0.mk (below_step (by repeat (first | (with_reducible first | exact HB.out | apply below_alloc | apply pw_below_drewN | apply below_drew1) | exact HB.out)) hb); clear HB; have HO512 := n0_; have HB := n1_; clear n0_ n1_; (try clear hb); (try clear hb2); (try clear hk); (try clear hi); (try clear ho0); obtain ⟨Ao7, co7, eo7⟩ := Kd.R_slice HO512.out; subst eo7) | ((with_reducible refine gate_callee (f := 26) rfl ?_); refine goesL_ (some 24) rfl rfl Try.func26 (by kernel_rfl) rfl #[] rfl (by (try simp only [List.map_toArray, List.map_cons, List.map_nil]); first | done | rfl | (simp only [List.length_drop, List.length_take]; rfl)) ?_; (with_reducible refine (quorumitelaw10_told.calls k  t513 _ HRT.out A5.out).mono ?_); rintro e w8 ⟨rfl, hb⟩; refine ⟨_, rfl, ?_⟩; have n0_ := Aside0.mk (Kd.R_below (by (with_reducible repeat (first | apply Kd.R_alloc | apply Kd.R_drewN | apply Kd.R_drew)); exact HO512.out) hb); have n1_ := Aside0.mk (below_step (by repeat (first | (with_reducible first | exact HB.out | apply below_alloc | apply pw_below_drewN | apply below_drew1) | exact HB.out)) hb); clear HO512; clear HB; have HO512 := n0_; have HB := n1_; clear n0_ n1_; (try clear hb); (try clear hb2); (try clear hk); (try clear hi)))
    go_ret
    exact ⟨by first | rfl | (simp [errW_none, errW_some] <;> rfl) | (simp [*, errW_none, errW_some] <;> rfl), by repeat (first | (with_reducible first | exact HB.out | apply below_alloc | apply pw_below_drewN | apply below_drew1) | exact HB.out)⟩
  · rw [if_neg c4] at H
    have c4b0 : ((t510.length : Int) == 0) = false := beq_eq_false_iff_ne.mpr c4
    have c4b1 : ((t510.length : Int) != 0) = true := bne_iff_ne.mpr c4
    have c4b2 : ¬ (t510 = []) := fun h_ => c4 (by rw [h_]; rfl)
    by_cases c9 : (IntKind.u64.wrap (wrap64 (Int.tdiv (wrap64 ((t510.length : Int) + 1)) 2))) = 0
    · rw [if_pos c9] at H
      exact absurd H (by simp)
    · rw [if_neg c9] at H
      have c9b0 : ((IntKind.u64.wrap (wrap64 (Int.tdiv (wrap64 ((t510.length : Int) + 1)) 2))) == 0) = false := beq_eq_false_iff_ne.mpr c9
      have c9b1 : ((IntKind.u64.wrap (wrap64 (Int.tdiv (wrap64 ((t510.length : Int) + 1)) 2))) != 0) = true := bne_iff_ne.mpr c9
      replace H := Option.bind_eq_some_iff.mp H
      obtain ⟨t514, A100, H⟩ := H
      replace H : (if (t514.length : Int) = (t510.length : Int) then (quorumitelaw10_TrimSpans.l0 k t510 (wrap64 (Int.tmod (IntKind.u64.wrap (a1)) (IntKind.u64.wrap (wrap64 (Int.tdiv (wrap64 ((t510.length : Int) + 1)) 2))))) t514 0 (wrap64 (Int.tmod (IntKind.u64.wrap (a1)) (IntKind.u64.wrap (wrap64 (Int.tdiv (wrap64 ((t510.length : Int) + 1)) 2)))))) else (some false)) = some r := H
      have A10 := Aside0.mk A100
      clear A100
      by_cases c11 : (t514.length : Int) = (t510.length : Int)
      · rw [if_pos c11] at H
        have c11b0 : ((t514.length : Int) == (t510.length : Int)) = true := beq_iff_eq.mpr c11
        have c11b1 : ((t514.length : Int) != (t510.length : Int)) = false := bne_eq_false_iff_eq.mpr c11
        have c11b2 : (t514.length == t510.length) = true := by first | simpa using c11 | (simp at c11 ⊢; omega)
        clear c11
        have H' := Aside0.mk H
        clear H
        go_enter Try.func12, Try.ntmps12
        go_wp2_with (first | ((with_reducible refine gate_callee (f := 34) rfl ?_); refine goesL_ (some 20) rfl rfl Try.func34 (by kernel_rfl) rfl #[.slice A0 l0.length c0, .int .i64 30] rfl (by (try simp only [List.map_toArray, List.map_cons, List.map_nil]); first | done | rfl | (simp only [List.length_drop, List.length_take]; rfl)) ?_; (with_reducible refine (quorumitelaw10_fit.calls k _ _ l0 30 t510 _ ?side1 ?side2 A3.out).mono ?_); (case side1 => repeat (first | exact HR0.out | (with_reducible refine Kd.C_alloc ?_ _) | (with_reducible refine Kd.C_drewN ?_ _) | (with_reducible refine Kd.C_drew ?_))); (case side2 => exact HC0.out); rintro e w12 ⟨v511, rfl, ho0, hb⟩; refine ⟨_, rfl, ?_⟩; have n0_ := Aside0.mk (Kd.R_lower ho0 (below_size (by repeat (first | (with_reducible first | exact HB.out | apply below_alloc | apply pw_below_drewN | apply below_drew1) | exact HB.out)))); have n1_ := Aside0.mk (below_step (by repeat (first | (with_reducible first | exact HB.out | apply below_alloc | apply pw_below_drewN | apply below_drew1) | exact HB.out)) hb); clear HB; have HO512 := n0_; have HB := n1_; clear n0_ n1_; (try clear hb); (try clear hb2); (try clear hk); (try clear hi); (try clear ho0); obtain ⟨Ao13, co13, eo13⟩ := Kd.R_slice HO512.out; subst eo13) | ((with_reducible refine gate_callee (f := 23) rfl ?_); refine goesL_ (some 35) rfl rfl Try.func23 (by kernel_rfl) rfl #[.slice Ao13 t510.length co13] rfl (by (try simp only [List.map_toArray, List.map_cons, List.map_nil]); first | done | rfl | (simp only [List.length_drop, List.length_take]; rfl)) ?_; (with_reducible refine (order_Sort.calls k _ _ t510 t514 _ ?side1 ?side2 A10.out).mono ?_); (case side1 => repeat (first | exact (Kd.R_reads' HO512.out).2.2 | (with_reducible refine Kd.C_alloc ?_ _) | (with_reducible refine Kd.C_drewN ?_ _) | (with_reducible refine Kd.C_drew ?_))); (case side2 => exact (Kd.R_reads' HO512.out).2.1); rintro e w14 ⟨v515, rfl, ho0, hb⟩; refine ⟨_, rfl, ?_⟩; have n0_ := Aside0.mk (Kd.R_elder' (by (with_reducible repeat (first | apply Kd.R_alloc | apply Kd.R_drewN | apply Kd.R_drew)); exact HO512.out) (Kd.R_base ho0) hb); have n1_ := Aside0.mk (Kd.R_lower (Kd.R_new' ho0 (Kd.R_lt (by (with_reducible repeat (first | apply Kd.R_alloc | apply Kd.R_drewN | apply Kd.R_drew)); exact HO512.out))) (below_size (by repeat (first | (with_reducible first | exact HB.out | apply below_alloc | apply pw_below_drewN | apply below_drew1) | exact HB.out)))); have n2_ := Aside0.mk (below_step (by repeat (first | (with_reducible first | exact HB.out | apply below_alloc | apply pw_below_drewN | apply below_drew1) | exact HB.out)) hb); clear HO512; clear HB; have HO512 := n0_; have HO516 := n1_; have HB := n2_; clear n0_ n1_ n2_; (try clear hb); (try clear hb2); (try clear hk); (try clear hi); (try clear ho0); obtain ⟨Ao15, co15, eo15⟩ := Kd.R_slice HO516.out; subst eo15))
        go_loopg [8, 9] k (fun kq v8 v9 w' => ∃ (x8_1 : Int) (x9_1 : Int), v8 = .int .i64 x8_1 ∧ v9 = .int .i64 x9_1 ∧ Aside0 (quorumitelaw10_TrimSpans.l0 kq t510 (wrap64 (Int.tmod (IntKind.u64.wrap (a1)) (IntKind.u64.wrap (wrap64 (Int.tdiv (wrap64 ((t510.length : Int) + 1)) 2))))) t514 x8_1 x9_1 = some r) ∧ Aside0 (kq ≤ k) ∧ Aside0 (Kd.R (Kd.int .i64) 2 w' w.heap.size (fun k_ => some k_ ≠ ((.slice Ao15 t514.length co15) : Value).ownBlock) (.slice Ao13 t510.length co13) t510) ∧ Aside0 (Kd.R (Kd.int .i64) 2 w' w.heap.size (fun k_ => some k_ ≠ ((.slice Ao13 t510.length co13) : Value).ownBlock) (.slice Ao15 t514.length co15) t514) ∧ Aside0 (Below w.heap.size w w'))
        case atStart => exact ⟨(0), (wrap64 (Int.tmod (IntKind.u64.wrap (a1)) (IntKind.u64.wrap (wrap64 (Int.tdiv (wrap64 ((t510.length : Int) + 1)) 2))))), (by first | rfl | (simp; done) | (simp [*]; done)), (by first | rfl | (simp; done) | (simp [*]; done)), H', ⟨Nat.le_refl _⟩, ⟨by (with_reducible repeat (first | apply Kd.R_alloc | apply Kd.R_drewN | apply Kd.R_drew)); exact Kd.R_mono HO512.out (fun _ hk => hk.2)⟩, ⟨by (with_reducible repeat (first | apply Kd.R_alloc | apply Kd.R_drewN | apply Kd.R_drew)); exact Kd.R_mono HO516.out (fun _ hk => hk.2)⟩, ⟨by repeat (first | (with_reducible first | exact HB.out | apply below_alloc | apply pw_below_drewN | apply below_drew1) | exact HB.out)⟩⟩
        case round =>
          clear H'
          try clear c1
          try clear c2
          try clear p2
          try clear c3
          try clear c4
          try clear c4b0
          try clear c4b1
          try clear c4b2
          try clear p6
          try clear c9
          try clear c9b0
          try clear c9b1
          try clear c11
          try clear c11b0
          try clear c11b1
          try clear c11b2
          try clear c12
          obtain ⟨x8_1, x9_1, rfl, rfl, HA, HK1, HO_5, HO_7, HB⟩ := hrel
          cases gk with
          | zero => exact absurd HA.out (by simp [quorumitelaw10_TrimSpans.l0])
          | succ k1 =>
            have H := HA.out
            clear HA
            simp only [quorumitelaw10_TrimSpans.l0] at H
            by_cases c16 : x9_1 < (wrap64 ((t514.length : Int) - (wrap64 (Int.tmod (IntKind.u64.wrap (a1)) (IntKind.u64.wrap (wrap64 (Int.tdiv (wrap64 ((t510.length : Int) + 1)) 2)))))))
            · rw [if_pos c16] at H
              have c16b0 : decide (x9_1 < (wrap64 ((t514.length : Int) - (wrap64 (Int.tmod (IntKind.u64.wrap (a1)) (IntKind.u64.wrap (wrap64 (Int.tdiv (wrap64 ((t510.length : Int) + 1)) 2)))))))) = true := decide_eq_true c16
              clear c16
              by_cases c17 : 0 ≤ x9_1
              · rw [if_pos c17] at H
                have c17b0 : decide (0 ≤ x9_1) = true := decide_eq_true c17
                clear c17
                by_cases c18 : x9_1 < (t514.length : Int)
                · rw [if_pos c18] at H
                  have c18b0 : decide (x9_1 < (t514.length : Int)) = true := decide_eq_true c18
                  clear c18
                  have H' := Aside0.mk H
                  clear H
                  have p517 : 0 ≤ (x9_1 : Int) := of_decide_eq_true (by first | (with_reducible assumption) | assumption)
                  have q517 : x9_1 < (t514.length : Int) := of_decide_eq_true (by first | (with_reducible assumption) | assumption)
                  obtain ⟨ad517, e517, hx517_0⟩ := Kd.at_int (Kd.R_reads' HO_7.out).2.2 x9_1 p517 q517
                  cases e517
                  replace p517 := eq_true p517
                  replace q517 := eq_true q517
                  go_wp2
                  go_roundg k1
                  case measure => have := HK1.out; omega
                  case rel => exact ⟨(wrap64 (x8_1 + (rd t514 x9_1))), (wrap64 (x9_1 + 1)), (by first | rfl | (simp; done) | (simp [*]; done)), (by first | rfl | (simp; done) | (simp [*]; done)), H', ⟨by have := HK1.out; omega⟩, ⟨by (with_reducible repeat (first | apply Kd.R_alloc | apply Kd.R_drewN | apply Kd.R_drew)); exact HO_5.out⟩, ⟨by (with_reducible repeat (first | apply Kd.R_alloc | apply Kd.R_drewN | apply Kd.R_drew)); exact HO_7.out⟩, ⟨by repeat (first | (with_reducible first | exact HB.out | apply below_alloc | apply pw_below_drewN | apply below_drew1) | exact HB.out)⟩⟩
                · rw [if_neg c18] at H
                  exact absurd H (by simp)
              · rw [if_neg c17] at H
                exact absurd H (by simp)
            · rw [if_neg c16] at H
              have c16b0 : decide (x9_1 < (wrap64 ((t514.length : Int) - (wrap64 (Int.tmod (IntKind.u64.wrap (a1)) (IntKind.u64.wrap (wrap64 (Int.tdiv (wrap64 ((t510.length : Int) + 1)) 2)))))))) = false := decide_eq_false c16
              clear c16
              replace H := Option.bind_eq_some_iff.mp H
              obtain ⟨⟨t518, t519⟩, A190, H⟩ := H
              replace H : ((trim_Span.f k1 t510 (wrap64 (Int.tmod (IntKind.u64.wrap (a1)) (IntKind.u64.wrap (wrap64 (Int.tdiv (wrap64 ((t510.length : Int) + 1)) 2)))))).bind fun bt520 => ((trim_Median.f k1 t510).bind fun bt523 => ((some (([] : List Int) : List Int)).bind fun y525 => (if y525.length + t510.length < 17592186044416 then ((some (y525 ++ t510 : List Int)).bind fun y528 => (if y528.length < 17592186044416 then ((trim_Mean.f k1 (y528 ++ [1099511627777]) (wrap64 (Int.tmod (IntKind.u64.wrap (a1)) (IntKind.u64.wrap (wrap64 (Int.tdiv (wrap64 ((t510.length : Int) + 1)) 2)))))).bind fun bt534 => ((quorumitelaw10_told.f k1).bind fun t536 => (if t536 = true then (if t519 = true then (if bt520.2.2 = true then (if bt523.2 = true then (if bt534.2 = true then (some false) else (if (wrap64 ((t514.length : Int) - (wrap64 (2 * (wrap64 (Int.tmod (IntKind.u64.wrap (a1)) (IntKind.u64.wrap (wrap64 (Int.tdiv (wrap64 ((t510.length : Int) + 1)) 2))))))))) = 0 then (none) else (if t518 = (wrap64 (Int.tdiv x8_1 (wrap64 ((t514.length : Int) - (wrap64 (2 * (wrap64 (Int.tmod (IntKind.u64.wrap (a1)) (IntKind.u64.wrap (wrap64 (Int.tdiv (wrap64 ((t510.length : Int) + 1)) 2))))))))))) then (if 0 ≤ (wrap64 (Int.tmod (IntKind.u64.wrap (a1)) (IntKind.u64.wrap (wrap64 (Int.tdiv (wrap64 ((t510.length : Int) + 1)) 2))))) then (if (wrap64 (Int.tmod (IntKind.u64.wrap (a1)) (IntKind.u64.wrap (wrap64 (Int.tdiv (wrap64 ((t510.length : Int) + 1)) 2))))) < (t514.length : Int) then (if bt520.1 = (rd t514 (wrap64 (Int.tmod (IntKind.u64.wrap (a1)) (IntKind.u64.wrap (wrap64 (Int.tdiv (wrap64 ((t510.length : Int) + 1)) 2)))))) then (if 0 ≤ (wrap64 ((wrap64 ((t514.length : Int) - 1)) - (wrap64 (Int.tmod (IntKind.u64.wrap (a1)) (IntKind.u64.wrap (wrap64 (Int.tdiv (wrap64 ((t510.length : Int) + 1)) 2))))))) then (if (wrap64 ((wrap64 ((t514.length : Int) - 1)) - (wrap64 (Int.tmod (IntKind.u64.wrap (a1)) (IntKind.u64.wrap (wrap64 (Int.tdiv (wrap64 ((t510.length : Int) + 1)) 2))))))) < (t514.length : Int) then (if bt520.2.1 = (rd t514 (wrap64 ((wrap64 ((t514.length : Int) - 1)) - (wrap64 (Int.tmod (IntKind.u64.wrap (a1)) (IntKind.u64.wrap (wrap64 (Int.tdiv (wrap64 ((t510.length : Int) + 1)) 2)))))))) then (if 0 ≤ (wrap64 (Int.tdiv (wrap64 ((t514.length : Int) - 1)) 2)) then (if (wrap64 (Int.tdiv (wrap64 ((t514.length : Int) - 1)) 2)) < (t514.length : Int) then (some (bt523.1 == (rd t514 (wrap64 (Int.tdiv (wrap64 ((t514.length : Int) - 1)) 2))))) else (none)) else (none)) else (some false)) else (none)) else (none)) else (some false)) else (none)) else (none)) else (some false)))) else (some false)) else (some false)) else (some false)) else (some false)))) else (none))) else (none))))) = some r := H
              have A19 := Aside0.mk A190
              clear A190
              replace H := Option.bind_eq_some_iff.mp H
              obtain ⟨⟨t520, t521, t522⟩, A200, H⟩ := H
              replace H : ((trim_Median.f k1 t510).bind fun bt523 => ((some (([] : List Int) : List Int)).bind fun y525 => (if y525.length + t510.length < 17592186044416 then ((some (y525 ++ t510 : List Int)).bind fun y528 => (if y528.length < 17592186044416 then ((trim_Mean.f k1 (y528 ++ [1099511627777]) (wrap64 (Int.tmod (IntKind.u64.wrap (a1)) (IntKind.u64.wrap (wrap64 (Int.tdiv (wrap64 ((t510.length : Int) + 1)) 2)))))).bind fun bt534 => ((quorumitelaw10_told.f k1).bind fun t536 => (if t536 = true then (if t519 = true then (if t522 = true then (if bt523.2 = true then (if bt534.2 = true then (some false) else (if (wrap64 ((t514.length : Int) - (wrap64 (2 * (wrap64 (Int.tmod (IntKind.u64.wrap (a1)) (IntKind.u64.wrap (wrap64 (Int.tdiv (wrap64 ((t510.length : Int) + 1)) 2))))))))) = 0 then (none) else (if t518 = (wrap64 (Int.tdiv x8_1 (wrap64 ((t514.length : Int) - (wrap64 (2 * (wrap64 (Int.tmod (IntKind.u64.wrap (a1)) (IntKind.u64.wrap (wrap64 (Int.tdiv (wrap64 ((t510.length : Int) + 1)) 2))))))))))) then (if 0 ≤ (wrap64 (Int.tmod (IntKind.u64.wrap (a1)) (IntKind.u64.wrap (wrap64 (Int.tdiv (wrap64 ((t510.length : Int) + 1)) 2))))) then (if (wrap64 (Int.tmod (IntKind.u64.wrap (a1)) (IntKind.u64.wrap (wrap64 (Int.tdiv (wrap64 ((t510.length : Int) + 1)) 2))))) < (t514.length : Int) then (if t520 = (rd t514 (wrap64 (Int.tmod (IntKind.u64.wrap (a1)) (IntKind.u64.wrap (wrap64 (Int.tdiv (wrap64 ((t510.length : Int) + 1)) 2)))))) then (if 0 ≤ (wrap64 ((wrap64 ((t514.length : Int) - 1)) - (wrap64 (Int.tmod (IntKind.u64.wrap (a1)) (IntKind.u64.wrap (wrap64 (Int.tdiv (wrap64 ((t510.length : Int) + 1)) 2))))))) then (if (wrap64 ((wrap64 ((t514.length : Int) - 1)) - (wrap64 (Int.tmod (IntKind.u64.wrap (a1)) (IntKind.u64.wrap (wrap64 (Int.tdiv (wrap64 ((t510.length : Int) + 1)) 2))))))) < (t514.length : Int) then (if t521 = (rd t514 (wrap64 ((wrap64 ((t514.length : Int) - 1)) - (wrap64 (Int.tmod (IntKind.u64.wrap (a1)) (IntKind.u64.wrap (wrap64 (Int.tdiv (wrap64 ((t510.length : Int) + 1)) 2)))))))) then (if 0 ≤ (wrap64 (Int.tdiv (wrap64 ((t514.length : Int) - 1)) 2)) then (if (wrap64 (Int.tdiv (wrap64 ((t514.length : Int) - 1)) 2)) < (t514.length : Int) then (some (bt523.1 == (rd t514 (wrap64 (Int.tdiv (wrap64 ((t514.length : Int) - 1)) 2))))) else (none)) else (none)) else (some false)) else (none)) else (none)) else (some false)) else (none)) else (none)) else (some false)))) else (some false)) else (some false)) else (some false)) else (some false)))) else (none))) else (none)))) = some r := H
              have A20 := Aside0.mk A200
              clear A200
              replace H := Option.bind_eq_some_iff.mp H
              obtain ⟨⟨t523, t524⟩, A210, H⟩ := H
              replace H : ((some (([] : List Int) : List Int)).bind fun y525 => (if y525.length + t510.length < 17592186044416 then ((some (y525 ++ t510 : List Int)).bind fun y528 => (if y528.length < 17592186044416 then ((trim_Mean.f k1 (y528 ++ [1099511627777]) (wrap64 (Int.tmod (IntKind.u64.wrap (a1)) (IntKind.u64.wrap (wrap64 (Int.tdiv (wrap64 ((t510.length : Int) + 1)) 2)))))).bind fun bt534 => ((quorumitelaw10_told.f k1).bind fun t536 => (if t536 = true then (if t519 = true then (if t522 = true then (if t524 = true then (if bt534.2 = true then (some false) else (if (wrap64 ((t514.length : Int) - (wrap64 (2 * (wrap64 (Int.tmod (IntKind.u64.wrap (a1)) (IntKind.u64.wrap (wrap64 (Int.tdiv (wrap64 ((t510.length : Int) + 1)) 2))))))))) = 0 then (none) else (if t518 = (wrap64 (Int.tdiv x8_1 (wrap64 ((t514.length : Int) - (wrap64 (2 * (wrap64 (Int.tmod (IntKind.u64.wrap (a1)) (IntKind.u64.wrap (wrap64 (Int.tdiv (wrap64 ((t510.length : Int) + 1)) 2))))))))))) then (if 0 ≤ (wrap64 (Int.tmod (IntKind.u64.wrap (a1)) (IntKind.u64.wrap (wrap64 (Int.tdiv (wrap64 ((t510.length : Int) + 1)) 2))))) then (if (wrap64 (Int.tmod (IntKind.u64.wrap (a1)) (IntKind.u64.wrap (wrap64 (Int.tdiv (wrap64 ((t510.length : Int) + 1)) 2))))) < (t514.length : Int) then (if t520 = (rd t514 (wrap64 (Int.tmod (IntKind.u64.wrap (a1)) (IntKind.u64.wrap (wrap64 (Int.tdiv (wrap64 ((t510.length : Int) + 1)) 2)))))) then (if 0 ≤ (wrap64 ((wrap64 ((t514.length : Int) - 1)) - (wrap64 (Int.tmod (IntKind.u64.wrap (a1)) (IntKind.u64.wrap (wrap64 (Int.tdiv (wrap64 ((t510.length : Int) + 1)) 2))))))) then (if (wrap64 ((wrap64 ((t514.length : Int) - 1)) - (wrap64 (Int.tmod (IntKind.u64.wrap (a1)) (IntKind.u64.wrap (wrap64 (Int.tdiv (wrap64 ((t510.length : Int) + 1)) 2))))))) < (t514.length : Int) then (if t521 = (rd t514 (wrap64 ((wrap64 ((t514.length : Int) - 1)) - (wrap64 (Int.tmod (IntKind.u64.wrap (a1)) (IntKind.u64.wrap (wrap64 (Int.tdiv (wrap64 ((t510.length : Int) + 1)) 2)))))))) then (if 0 ≤ (wrap64 (Int.tdiv (wrap64 ((t514.length : Int) - 1)) 2)) then (if (wrap64 (Int.tdiv (wrap64 ((t514.length : Int) - 1)) 2)) < (t514.length : Int) then (some (t523 == (rd t514 (wrap64 (Int.tdiv (wrap64 ((t514.length : Int) - 1)) 2))))) else (none)) else (none)) else (some false)) else (none)) else (none)) else (some false)) else (none)) else (none)) else (some false)))) else (some false)) else (some false)) else (some false)) else (some false)))) else (none))) else (none))) = some r := H
              have A21 := Aside0.mk A210
              clear A210
              obtain ⟨y525, hy525⟩ : ∃ y_ : List Int, y_ = (([] : List Int)) := ⟨_, rfl⟩
              replace H : (if y525.length + t510.length < 17592186044416 then ((some (y525 ++ t510 : List Int)).bind fun y528 => (if y528.length < 17592186044416 then ((trim_Mean.f k1 (y528 ++ [1099511627777]) (wrap64 (Int.tmod (IntKind.u64.wrap (a1)) (IntKind.u64.wrap (wrap64 (Int.tdiv (wrap64 ((t510.length : Int) + 1)) 2)))))).bind fun bt534 => ((quorumitelaw10_told.f k1).bind fun t536 => (if t536 = true then (if t519 = true then (if t522 = true then (if t524 = true then (if bt534.2 = true then (some false) else (if (wrap64 ((t514.length : Int) - (wrap64 (2 * (wrap64 (Int.tmod (IntKind.u64.wrap (a1)) (IntKind.u64.wrap (wrap64 (Int.tdiv (wrap64 ((t510.length : Int) + 1)) 2))))))))) = 0 then (none) else (if t518 = (wrap64 (Int.tdiv x8_1 (wrap64 ((t514.length : Int) - (wrap64 (2 * (wrap64 (Int.tmod (IntKind.u64.wrap (a1)) (IntKind.u64.wrap (wrap64 (Int.tdiv (wrap64 ((t510.length : Int) + 1)) 2))))))))))) then (if 0 ≤ (wrap64 (Int.tmod (IntKind.u64.wrap (a1)) (IntKind.u64.wrap (wrap64 (Int.tdiv (wrap64 ((t510.length : Int) + 1)) 2))))) then (if (wrap64 (Int.tmod (IntKind.u64.wrap (a1)) (IntKind.u64.wrap (wrap64 (Int.tdiv (wrap64 ((t510.length : Int) + 1)) 2))))) < (t514.length : Int) then (if t520 = (rd t514 (wrap64 (Int.tmod (IntKind.u64.wrap (a1)) (IntKind.u64.wrap (wrap64 (Int.tdiv (wrap64 ((t510.length : Int) + 1)) 2)))))) then (if 0 ≤ (wrap64 ((wrap64 ((t514.length : Int) - 1)) - (wrap64 (Int.tmod (IntKind.u64.wrap (a1)) (IntKind.u64.wrap (wrap64 (Int.tdiv (wrap64 ((t510.length : Int) + 1)) 2))))))) then (if (wrap64 ((wrap64 ((t514.length : Int) - 1)) - (wrap64 (Int.tmod (IntKind.u64.wrap (a1)) (IntKind.u64.wrap (wrap64 (Int.tdiv (wrap64 ((t510.length : Int) + 1)) 2))))))) < (t514.length : Int) then (if t521 = (rd t514 (wrap64 ((wrap64 ((t514.length : Int) - 1)) - (wrap64 (Int.tmod (IntKind.u64.wrap (a1)) (IntKind.u64.wrap (wrap64 (Int.tdiv (wrap64 ((t510.length : Int) + 1)) 2)))))))) then (if 0 ≤ (wrap64 (Int.tdiv (wrap64 ((t514.length : Int) - 1)) 2)) then (if (wrap64 (Int.tdiv (wrap64 ((t514.length : Int) - 1)) 2)) < (t514.length : Int) then (some (t523 == (rd t514 (wrap64 (Int.tdiv (wrap64 ((t514.length : Int) - 1)) 2))))) else (none)) else (none)) else (some false)) else (none)) else (none)) else (some false)) else (none)) else (none)) else (some false)))) else (some false)) else (some false)) else (some false)) else (some false)))) else (none))) else (none)) = some r := by first | (rw [hy525]; with_reducible exact H) | (have H2_ := (Option.bind_some _ _).symm.trans H; rw [hy525]; with_reducible exact H2_) | (have H2_ := (Option.bind_some _ _).symm.trans H; with_reducible exact H2_) | with_reducible exact H | (rw [hy525]; exact H) | exact H
              have Ny525 := Aside0.mk hy525
              clear hy525
              by_cases c22 : y525.length + t510.length < 17592186044416
              · rw [if_pos c22] at H
                have LMc22 := Aside0.mk c22
                clear c22
                obtain ⟨y528, hy528⟩ : ∃ y_ : List Int, y_ = (y525 ++ t510) := ⟨_, rfl⟩
                replace H : (if y528.length < 17592186044416 then ((trim_Mean.f k1 (y528 ++ [1099511627777]) (wrap64 (Int.tmod (IntKind.u64.wrap (a1)) (IntKind.u64.wrap (wrap64 (Int.tdiv (wrap64 ((t510.length : Int) + 1)) 2)))))).bind fun bt534 => ((quorumitelaw10_told.f k1).bind fun t536 => (if t536 = true then (if t519 = true then (if t522 = true then (if t524 = true then (if bt534.2 = true then (some false) else (if (wrap64 ((t514.length : Int) - (wrap64 (2 * (wrap64 (Int.tmod (IntKind.u64.wrap (a1)) (IntKind.u64.wrap (wrap64 (Int.tdiv (wrap64 ((t510.length : Int) + 1)) 2))))))))) = 0 then (none) else (if t518 = (wrap64 (Int.tdiv x8_1 (wrap64 ((t514.length : Int) - (wrap64 (2 * (wrap64 (Int.tmod (IntKind.u64.wrap (a1)) (IntKind.u64.wrap (wrap64 (Int.tdiv (wrap64 ((t510.length : Int) + 1)) 2))))))))))) then (if 0 ≤ (wrap64 (Int.tmod (IntKind.u64.wrap (a1)) (IntKind.u64.wrap (wrap64 (Int.tdiv (wrap64 ((t510.length : Int) + 1)) 2))))) then (if (wrap64 (Int.tmod (IntKind.u64.wrap (a1)) (IntKind.u64.wrap (wrap64 (Int.tdiv (wrap64 ((t510.length : Int) + 1)) 2))))) < (t514.length : Int) then (if t520 = (rd t514 (wrap64 (Int.tmod (IntKind.u64.wrap (a1)) (IntKind.u64.wrap (wrap64 (Int.tdiv (wrap64 ((t510.length : Int) + 1)) 2)))))) then (if 0 ≤ (wrap64 ((wrap64 ((t514.length : Int) - 1)) - (wrap64 (Int.tmod (IntKind.u64.wrap (a1)) (IntKind.u64.wrap (wrap64 (Int.tdiv (wrap64 ((t510.length : Int) + 1)) 2))))))) then (if (wrap64 ((wrap64 ((t514.length : Int) - 1)) - (wrap64 (Int.tmod (IntKind.u64.wrap (a1)) (IntKind.u64.wrap (wrap64 (Int.tdiv (wrap64 ((t510.length : Int) + 1)) 2))))))) < (t514.length : Int) then (if t521 = (rd t514 (wrap64 ((wrap64 ((t514.length : Int) - 1)) - (wrap64 (Int.tmod (IntKind.u64.wrap (a1)) (IntKind.u64.wrap (wrap64 (Int.tdiv (wrap64 ((t510.length : Int) + 1)) 2)))))))) then (if 0 ≤ (wrap64 (Int.tdiv (wrap64 ((t514.length : Int) - 1)) 2)) then (if (wrap64 (Int.tdiv (wrap64 ((t514.length : Int) - 1)) 2)) < (t514.length : Int) then (some (t523 == (rd t514 (wrap64 (Int.tdiv (wrap64 ((t514.length : Int) - 1)) 2))))) else (none)) else (none)) else (some false)) else (none)) else (none)) else (some false)) else (none)) else (none)) else (some false)))) else (some false)) else (some false)) else (some false)) else (some false)))) else (none)) = some r := by first | (rw [hy528]; with_reducible exact H) | (have H2_ := (Option.bind_some _ _).symm.trans H; rw [hy528]; with_reducible exact H2_) | (have H2_ := (Option.bind_some _ _).symm.trans H; with_reducible exact H2_) | with_reducible exact H | (rw [hy528]; exact H) | exact H
                have Ny528 := Aside0.mk hy528
                clear hy528
                by_cases c23 : y528.length < 17592186044416
                · rw [if_pos c23] at H
                  have LMc23 := Aside0.mk c23
                  clear c23
                  obtain ⟨y531, hy531⟩ : ∃ y_ : List Int, y_ = (y528 ++ [1099511627777]) := ⟨_, rfl⟩
                  replace H : ((trim_Mean.f k1 y531 (wrap64 (Int.tmod (IntKind.u64.wrap (a1)) (IntKind.u64.wrap (wrap64 (Int.tdiv (wrap64 ((t510.length : Int) + 1)) 2)))))).bind fun bt534 => ((quorumitelaw10_told.f k1).bind fun t536 => (if t536 = true then (if t519 = true then (if t522 = true then (if t524 = true then (if bt534.2 = true then (some false) else (if (wrap64 ((t514.length : Int) - (wrap64 (2 * (wrap64 (Int.tmod (IntKind.u64.wrap (a1)) (IntKind.u64.wrap (wrap64 (Int.tdiv (wrap64 ((t510.length : Int) + 1)) 2))))))))) = 0 then (none) else (if t518 = (wrap64 (Int.tdiv x8_1 (wrap64 ((t514.length : Int) - (wrap64 (2 * (wrap64 (Int.tmod (IntKind.u64.wrap (a1)) (IntKind.u64.wrap (wrap64 (Int.tdiv (wrap64 ((t510.length : Int) + 1)) 2))))))))))) then (if 0 ≤ (wrap64 (Int.tmod (IntKind.u64.wrap (a1)) (IntKind.u64.wrap (wrap64 (Int.tdiv (wrap64 ((t510.length : Int) + 1)) 2))))) then (if (wrap64 (Int.tmod (IntKind.u64.wrap (a1)) (IntKind.u64.wrap (wrap64 (Int.tdiv (wrap64 ((t510.length : Int) + 1)) 2))))) < (t514.length : Int) then (if t520 = (rd t514 (wrap64 (Int.tmod (IntKind.u64.wrap (a1)) (IntKind.u64.wrap (wrap64 (Int.tdiv (wrap64 ((t510.length : Int) + 1)) 2)))))) then (if 0 ≤ (wrap64 ((wrap64 ((t514.length : Int) - 1)) - (wrap64 (Int.tmod (IntKind.u64.wrap (a1)) (IntKind.u64.wrap (wrap64 (Int.tdiv (wrap64 ((t510.length : Int) + 1)) 2))))))) then (if (wrap64 ((wrap64 ((t514.length : Int) - 1)) - (wrap64 (Int.tmod (IntKind.u64.wrap (a1)) (IntKind.u64.wrap (wrap64 (Int.tdiv (wrap64 ((t510.length : Int) + 1)) 2))))))) < (t514.length : Int) then (if t521 = (rd t514 (wrap64 ((wrap64 ((t514.length : Int) - 1)) - (wrap64 (Int.tmod (IntKind.u64.wrap (a1)) (IntKind.u64.wrap (wrap64 (Int.tdiv (wrap64 ((t510.length : Int) + 1)) 2)))))))) then (if 0 ≤ (wrap64 (Int.tdiv (wrap64 ((t514.length : Int) - 1)) 2)) then (if (wrap64 (Int.tdiv (wrap64 ((t514.length : Int) - 1)) 2)) < (t514.length : Int) then (some (t523 == (rd t514 (wrap64 (Int.tdiv (wrap64 ((t514.length : Int) - 1)) 2))))) else (none)) else (none)) else (some false)) else (none)) else (none)) else (some false)) else (none)) else (none)) else (some false)))) else (some false)) else (some false)) else (some false)) else (some false)))) = some r := by first | (rw [hy531]; with_reducible exact H) | (have H2_ := (Option.bind_some _ _).symm.trans H; rw [hy531]; with_reducible exact H2_) | (have H2_ := (Option.bind_some _ _).symm.trans H; with_reducible exact H2_) | with_reducible exact H | (rw [hy531]; exact H) | exact H
                  have Ny531 := Aside0.mk hy531
                  clear hy531
                  replace H := Option.bind_eq_some_iff.mp H
                  obtain ⟨⟨t534, t535⟩, A240, H⟩ := H
                  replace H : ((quorumitelaw10_told.f k1).bind fun t536 => (if t536 = true then (if t519 = true then (if t522 = true then (if t524 = true then (if t535 = true then (some false) else (if (wrap64 ((t514.length : Int) - (wrap64 (2 * (wrap64 (Int.tmod (IntKind.u64.wrap (a1)) (IntKind.u64.wrap (wrap64 (Int.tdiv (wrap64 ((t510.length : Int) + 1)) 2))))))))) = 0 then (none) else (if t518 = (wrap64 (Int.tdiv x8_1 (wrap64 ((t514.length : Int) - (wrap64 (2 * (wrap64 (Int.tmod (IntKind.u64.wrap (a1)) (IntKind.u64.wrap (wrap64 (Int.tdiv (wrap64 ((t510.length : Int) + 1)) 2))))))))))) then (if 0 ≤ (wrap64 (Int.tmod (IntKind.u64.wrap (a1)) (IntKind.u64.wrap (wrap64 (Int.tdiv (wrap64 ((t510.length : Int) + 1)) 2))))) then (if (wrap64 (Int.tmod (IntKind.u64.wrap (a1)) (IntKind.u64.wrap (wrap64 (Int.tdiv (wrap64 ((t510.length : Int) + 1)) 2))))) < (t514.length : Int) then (if t520 = (rd t514 (wrap64 (Int.tmod (IntKind.u64.wrap (a1)) (IntKind.u64.wrap (wrap64 (Int.tdiv (wrap64 ((t510.length : Int) + 1)) 2)))))) then (if 0 ≤ (wrap64 ((wrap64 ((t514.length : Int) - 1)) - (wrap64 (Int.tmod (IntKind.u64.wrap (a1)) (IntKind.u64.wrap (wrap64 (Int.tdiv (wrap64 ((t510.length : Int) + 1)) 2))))))) then (if (wrap64 ((wrap64 ((t514.length : Int) - 1)) - (wrap64 (Int.tmod (IntKind.u64.wrap (a1)) (IntKind.u64.wrap (wrap64 (Int.tdiv (wrap64 ((t510.length : Int) + 1)) 2))))))) < (t514.length : Int) then (if t521 = (rd t514 (wrap64 ((wrap64 ((t514.length : Int) - 1)) - (wrap64 (Int.tmod (IntKind.u64.wrap (a1)) (IntKind.u64.wrap (wrap64 (Int.tdiv (wrap64 ((t510.length : Int) + 1)) 2)))))))) then (if 0 ≤ (wrap64 (Int.tdiv (wrap64 ((t514.length : Int) - 1)) 2)) then (if (wrap64 (Int.tdiv (wrap64 ((t514.length : Int) - 1)) 2)) < (t514.length : Int) then (some (t523 == (rd t514 (wrap64 (Int.tdiv (wrap64 ((t514.length : Int) - 1)) 2))))) else (none)) else (none)) else (some false)) else (none)) else (none)) else (some false)) else (none)) else (none)) else (some false)))) else (some false)) else (some false)) else (some false)) else (some false))) = some r := H
                  have A24 := Aside0.mk A240
                  clear A240
                  replace H := Option.bind_eq_some_iff.mp H
                  obtain ⟨t536, A250, H⟩ := H
                  replace H : (if t536 = true then (if t519 = true then (if t522 = true then (if t524 = true then (if t535 = true then (some false) else (if (wrap64 ((t514.length : Int) - (wrap64 (2 * (wrap64 (Int.tmod (IntKind.u64.wrap (a1)) (IntKind.u64.wrap (wrap64 (Int.tdiv (wrap64 ((t510.length : Int) + 1)) 2))))))))) = 0 then (none) else (if t518 = (wrap64 (Int.tdiv x8_1 (wrap64 ((t514.length : Int) - (wrap64 (2 * (wrap64 (Int.tmod (IntKind.u64.wrap (a1)) (IntKind.u64.wrap (wrap64 (Int.tdiv (wrap64 ((t510.length : Int) + 1)) 2))))))))))) then (if 0 ≤ (wrap64 (Int.tmod (IntKind.u64.wrap (a1)) (IntKind.u64.wrap (wrap64 (Int.tdiv (wrap64 ((t510.length : Int) + 1)) 2))))) then (if (wrap64 (Int.tmod (IntKind.u64.wrap (a1)) (IntKind.u64.wrap (wrap64 (Int.tdiv (wrap64 ((t510.length : Int) + 1)) 2))))) < (t514.length : Int) then (if t520 = (rd t514 (wrap64 (Int.tmod (IntKind.u64.wrap (a1)) (IntKind.u64.wrap (wrap64 (Int.tdiv (wrap64 ((t510.length : Int) + 1)) 2)))))) then (if 0 ≤ (wrap64 ((wrap64 ((t514.length : Int) - 1)) - (wrap64 (Int.tmod (IntKind.u64.wrap (a1)) (IntKind.u64.wrap (wrap64 (Int.tdiv (wrap64 ((t510.length : Int) + 1)) 2))))))) then (if (wrap64 ((wrap64 ((t514.length : Int) - 1)) - (wrap64 (Int.tmod (IntKind.u64.wrap (a1)) (IntKind.u64.wrap (wrap64 (Int.tdiv (wrap64 ((t510.length : Int) + 1)) 2))))))) < (t514.length : Int) then (if t521 = (rd t514 (wrap64 ((wrap64 ((t514.length : Int) - 1)) - (wrap64 (Int.tmod (IntKind.u64.wrap (a1)) (IntKind.u64.wrap (wrap64 (Int.tdiv (wrap64 ((t510.length : Int) + 1)) 2)))))))) then (if 0 ≤ (wrap64 (Int.tdiv (wrap64 ((t514.length : Int) - 1)) 2)) then (if (wrap64 (Int.tdiv (wrap64 ((t514.length : Int) - 1)) 2)) < (t514.length : Int) then (some (t523 == (rd t514 (wrap64 (Int.tdiv (wrap64 ((t514.length : Int) - 1)) 2))))) else (none)) else (none)) else (some false)) else (none)) else (none)) else (some false)) else (none)) else (none)) else (some false)))) else (some false)) else (some false)) else (some false)) else (some false)) = some r := H
                  have A25 := Aside0.mk A250
                  clear A250
                  by_cases c26 : t536 = true
                  · subst c26
                    have H1 : (if t519 = true then (if t522 = true then (if t524 = true then (if t535 = true then (some false) else (if (wrap64 ((t514.length : Int) - (wrap64 (2 * (wrap64 (Int.tmod (IntKind.u64.wrap (a1)) (IntKind.u64.wrap (wrap64 (Int.tdiv (wrap64 ((t510.length : Int) + 1)) 2))))))))) = 0 then (none) else (if t518 = (wrap64 (Int.tdiv x8_1 (wrap64 ((t514.length : Int) - (wrap64 (2 * (wrap64 (Int.tmod (IntKind.u64.wrap (a1)) (IntKind.u64.wrap (wrap64 (Int.tdiv (wrap64 ((t510.length : Int) + 1)) 2))))))))))) then (if 0 ≤ (wrap64 (Int.tmod (IntKind.u64.wrap (a1)) (IntKind.u64.wrap (wrap64 (Int.tdiv (wrap64 ((t510.length : Int) + 1)) 2))))) then (if (wrap64 (Int.tmod (IntKind.u64.wrap (a1)) (IntKind.u64.wrap (wrap64 (Int.tdiv (wrap64 ((t510.length : Int) + 1)) 2))))) < (t514.length : Int) then (if t520 = (rd t514 (wrap64 (Int.tmod (IntKind.u64.wrap (a1)) (IntKind.u64.wrap (wrap64 (Int.tdiv (wrap64 ((t510.length : Int) + 1)) 2)))))) then (if 0 ≤ (wrap64 ((wrap64 ((t514.length : Int) - 1)) - (wrap64 (Int.tmod (IntKind.u64.wrap (a1)) (IntKind.u64.wrap (wrap64 (Int.tdiv (wrap64 ((t510.length : Int) + 1)) 2))))))) then (if (wrap64 ((wrap64 ((t514.length : Int) - 1)) - (wrap64 (Int.tmod (IntKind.u64.wrap (a1)) (IntKind.u64.wrap (wrap64 (Int.tdiv (wrap64 ((t510.length : Int) + 1)) 2))))))) < (t514.length : Int) then (if t521 = (rd t514 (wrap64 ((wrap64 ((t514.length : Int) - 1)) - (wrap64 (Int.tmod (IntKind.u64.wrap (a1)) (IntKind.u64.wrap (wrap64 (Int.tdiv (wrap64 ((t510.length : Int) + 1)) 2)))))))) then (if 0 ≤ (wrap64 (Int.tdiv (wrap64 ((t514.length : Int) - 1)) 2)) then (if (wrap64 (Int.tdiv (wrap64 ((t514.length : Int) - 1)) 2)) < (t514.length : Int) then (some (t523 == (rd t514 (wrap64 (Int.tdiv (wrap64 ((t514.length : Int) - 1)) 2))))) else (none)) else (none)) else (some false)) else (none)) else (none)) else (some false)) else (none)) else (none)) else (some false)))) else (some false)) else (some false)) else (some false)) = some r := by rw [if_pos rfl] at H; exact H
                    clear H
                    have H := H1
                    clear H1
                    by_cases c27 : t519 = true
                    · subst c27
                      have H1 : (if t522 = true then (if t524 = true then (if t535 = true then (some false) else (if (wrap64 ((t514.length : Int) - (wrap64 (2 * (wrap64 (Int.tmod (IntKind.u64.wrap (a1)) (IntKind.u64.wrap (wrap64 (Int.tdiv (wrap64 ((t510.length : Int) + 1)) 2))))))))) = 0 then (none) else (if t518 = (wrap64 (Int.tdiv x8_1 (wrap64 ((t514.length : Int) - (wrap64 (2 * (wrap64 (Int.tmod (IntKind.u64.wrap (a1)) (IntKind.u64.wrap (wrap64 (Int.tdiv (wrap64 ((t510.length : Int) + 1)) 2))))))))))) then (if 0 ≤ (wrap64 (Int.tmod (IntKind.u64.wrap (a1)) (IntKind.u64.wrap (wrap64 (Int.tdiv (wrap64 ((t510.length : Int) + 1)) 2))))) then (if (wrap64 (Int.tmod (IntKind.u64.wrap (a1)) (IntKind.u64.wrap (wrap64 (Int.tdiv (wrap64 ((t510.length : Int) + 1)) 2))))) < (t514.length : Int) then (if t520 = (rd t514 (wrap64 (Int.tmod (IntKind.u64.wrap (a1)) (IntKind.u64.wrap (wrap64 (Int.tdiv (wrap64 ((t510.length : Int) + 1)) 2)))))) then (if 0 ≤ (wrap64 ((wrap64 ((t514.length : Int) - 1)) - (wrap64 (Int.tmod (IntKind.u64.wrap (a1)) (IntKind.u64.wrap (wrap64 (Int.tdiv (wrap64 ((t510.length : Int) + 1)) 2))))))) then (if (wrap64 ((wrap64 ((t514.length : Int) - 1)) - (wrap64 (Int.tmod (IntKind.u64.wrap (a1)) (IntKind.u64.wrap (wrap64 (Int.tdiv (wrap64 ((t510.length : Int) + 1)) 2))))))) < (t514.length : Int) then (if t521 = (rd t514 (wrap64 ((wrap64 ((t514.length : Int) - 1)) - (wrap64 (Int.tmod (IntKind.u64.wrap (a1)) (IntKind.u64.wrap (wrap64 (Int.tdiv (wrap64 ((t510.length : Int) + 1)) 2)))))))) then (if 0 ≤ (wrap64 (Int.tdiv (wrap64 ((t514.length : Int) - 1)) 2)) then (if (wrap64 (Int.tdiv (wrap64 ((t514.length : Int) - 1)) 2)) < (t514.length : Int) then (some (t523 == (rd t514 (wrap64 (Int.tdiv (wrap64 ((t514.length : Int) - 1)) 2))))) else (none)) else (none)) else (some false)) else (none)) else (none)) else (some false)) else (none)) else (none)) else (some false)))) else (some false)) else (some false)) = some r := by rw [if_pos rfl] at H; exact H
                      clear H
                      have H := H1
                      clear H1
                      by_cases c28 : t522 = true
                      · subst c28
                        have H1 : (if t524 = true then (if t535 = true then (some false) else (if (wrap64 ((t514.length : Int) - (wrap64 (2 * (wrap64 (Int.tmod (IntKind.u64.wrap (a1)) (IntKind.u64.wrap (wrap64 (Int.tdiv (wrap64 ((t510.length : Int) + 1)) 2))))))))) = 0 then (none) else (if t518 = (wrap64 (Int.tdiv x8_1 (wrap64 ((t514.length : Int) - (wrap64 (2 * (wrap64 (Int.tmod (IntKind.u64.wrap (a1)) (IntKind.u64.wrap (wrap64 (Int.tdiv (wrap64 ((t510.length : Int) + 1)) 2))))))))))) then (if 0 ≤ (wrap64 (Int.tmod (IntKind.u64.wrap (a1)) (IntKind.u64.wrap (wrap64 (Int.tdiv (wrap64 ((t510.length : Int) + 1)) 2))))) then (if (wrap64 (Int.tmod (IntKind.u64.wrap (a1)) (IntKind.u64.wrap (wrap64 (Int.tdiv (wrap64 ((t510.length : Int) + 1)) 2))))) < (t514.length : Int) then (if t520 = (rd t514 (wrap64 (Int.tmod (IntKind.u64.wrap (a1)) (IntKind.u64.wrap (wrap64 (Int.tdiv (wrap64 ((t510.length : Int) + 1)) 2)))))) then (if 0 ≤ (wrap64 ((wrap64 ((t514.length : Int) - 1)) - (wrap64 (Int.tmod (IntKind.u64.wrap (a1)) (IntKind.u64.wrap (wrap64 (Int.tdiv (wrap64 ((t510.length : Int) + 1)) 2))))))) then (if (wrap64 ((wrap64 ((t514.length : Int) - 1)) - (wrap64 (Int.tmod (IntKind.u64.wrap (a1)) (IntKind.u64.wrap (wrap64 (Int.tdiv (wrap64 ((t510.length : Int) + 1)) 2))))))) < (t514.length : Int) then (if t521 = (rd t514 (wrap64 ((wrap64 ((t514.length : Int) - 1)) - (wrap64 (Int.tmod (IntKind.u64.wrap (a1)) (IntKind.u64.wrap (wrap64 (Int.tdiv (wrap64 ((t510.length : Int) + 1)) 2)))))))) then (if 0 ≤ (wrap64 (Int.tdiv (wrap64 ((t514.length : Int) - 1)) 2)) then (if (wrap64 (Int.tdiv (wrap64 ((t514.length : Int) - 1)) 2)) < (t514.length : Int) then (some (t523 == (rd t514 (wrap64 (Int.tdiv (wrap64 ((t514.length : Int) - 1)) 2))))) else (none)) else (none)) else (some false)) else (none)) else (none)) else (some false)) else (none)) else (none)) else (some false)))) else (some false)) = some r := by rw [if_pos rfl] at H; exact H
                        clear H
                        have H := H1
                        clear H1
                        by_cases c29 : t524 = true
                        · subst c29
                          have H1 : (if t535 = true then (some false) else (if (wrap64 ((t514.length : Int) - (wrap64 (2 * (wrap64 (Int.tmod (IntKind.u64.wrap (a1)) (IntKind.u64.wrap (wrap64 (Int.tdiv (wrap64 ((t510.length : Int) + 1)) 2))))))))) = 0 then (none) else (if t518 = (wrap64 (Int.tdiv x8_1 (wrap64 ((t514.length : Int) - (wrap64 (2 * (wrap64 (Int.tmod (IntKind.u64.wrap (a1)) (IntKind.u64.wrap (wrap64 (Int.tdiv (wrap64 ((t510.length : Int) + 1)) 2))))))))))) then (if 0 ≤ (wrap64 (Int.tmod (IntKind.u64.wrap (a1)) (IntKind.u64.wrap (wrap64 (Int.tdiv (wrap64 ((t510.length : Int) + 1)) 2))))) then (if (wrap64 (Int.tmod (IntKind.u64.wrap (a1)) (IntKind.u64.wrap (wrap64 (Int.tdiv (wrap64 ((t510.length : Int) + 1)) 2))))) < (t514.length : Int) then (if t520 = (rd t514 (wrap64 (Int.tmod (IntKind.u64.wrap (a1)) (IntKind.u64.wrap (wrap64 (Int.tdiv (wrap64 ((t510.length : Int) + 1)) 2)))))) then (if 0 ≤ (wrap64 ((wrap64 ((t514.length : Int) - 1)) - (wrap64 (Int.tmod (IntKind.u64.wrap (a1)) (IntKind.u64.wrap (wrap64 (Int.tdiv (wrap64 ((t510.length : Int) + 1)) 2))))))) then (if (wrap64 ((wrap64 ((t514.length : Int) - 1)) - (wrap64 (Int.tmod (IntKind.u64.wrap (a1)) (IntKind.u64.wrap (wrap64 (Int.tdiv (wrap64 ((t510.length : Int) + 1)) 2))))))) < (t514.length : Int) then (if t521 = (rd t514 (wrap64 ((wrap64 ((t514.length : Int) - 1)) - (wrap64 (Int.tmod (IntKind.u64.wrap (a1)) (IntKind.u64.wrap (wrap64 (Int.tdiv (wrap64 ((t510.length : Int) + 1)) 2)))))))) then (if 0 ≤ (wrap64 (Int.tdiv (wrap64 ((t514.length : Int) - 1)) 2)) then (if (wrap64 (Int.tdiv (wrap64 ((t514.length : Int) - 1)) 2)) < (t514.length : Int) then (some (t523 == (rd t514 (wrap64 (Int.tdiv (wrap64 ((t514.length : Int) - 1)) 2))))) else (none)) else (none)) else (some false)) else (none)) else (none)) else (some false)) else (none)) else (none)) else (some false)))) = some r := by rw [if_pos rfl] at H; exact H
                          clear H
                          have H := H1
                          clear H1
                          by_cases c30 : t535 = true
                          · subst c30
                            have H1 : (some false) = some r := by rw [if_pos rfl] at H; exact H
                            clear H
                            have H := H1
                            clear H1
                            exact absurd ((Option.some.inj H).trans HRT.out) (by decide)
                          · replace c30 := Bool.eq_false_iff.mpr c30
                            subst c30
                            have H1 : (if (wrap64 ((t514.length : Int) - (wrap64 (2 * (wrap64 (Int.tmod (IntKind.u64.wrap (a1)) (IntKind.u64.wrap (wrap64 (Int.tdiv (wrap64 ((t510.length : Int) + 1)) 2))))))))) = 0 then (none) else (if t518 = (wrap64 (Int.tdiv x8_1 (wrap64 ((t514.length : Int) - (wrap64 (2 * (wrap64 (Int.tmod (IntKind.u64.wrap (a1)) (IntKind.u64.wrap (wrap64 (Int.tdiv (wrap64 ((t510.length : Int) + 1)) 2))))))))))) then (if 0 ≤ (wrap64 (Int.tmod (IntKind.u64.wrap (a1)) (IntKind.u64.wrap (wrap64 (Int.tdiv (wrap64 ((t510.length : Int) + 1)) 2))))) then (if (wrap64 (Int.tmod (IntKind.u64.wrap (a1)) (IntKind.u64.wrap (wrap64 (Int.tdiv (wrap64 ((t510.length : Int) + 1)) 2))))) < (t514.length : Int) then (if t520 = (rd t514 (wrap64 (Int.tmod (IntKind.u64.wrap (a1)) (IntKind.u64.wrap (wrap64 (Int.tdiv (wrap64 ((t510.length : Int) + 1)) 2)))))) then (if 0 ≤ (wrap64 ((wrap64 ((t514.length : Int) - 1)) - (wrap64 (Int.tmod (IntKind.u64.wrap (a1)) (IntKind.u64.wrap (wrap64 (Int.tdiv (wrap64 ((t510.length : Int) + 1)) 2))))))) then (if (wrap64 ((wrap64 ((t514.length : Int) - 1)) - (wrap64 (Int.tmod (IntKind.u64.wrap (a1)) (IntKind.u64.wrap (wrap64 (Int.tdiv (wrap64 ((t510.length : Int) + 1)) 2))))))) < (t514.length : Int) then (if t521 = (rd t514 (wrap64 ((wrap64 ((t514.length : Int) - 1)) - (wrap64 (Int.tmod (IntKind.u64.wrap (a1)) (IntKind.u64.wrap (wrap64 (Int.tdiv (wrap64 ((t510.length : Int) + 1)) 2)))))))) then (if 0 ≤ (wrap64 (Int.tdiv (wrap64 ((t514.length : Int) - 1)) 2)) then (if (wrap64 (Int.tdiv (wrap64 ((t514.length : Int) - 1)) 2)) < (t514.length : Int) then (some (t523 == (rd t514 (wrap64 (Int.tdiv (wrap64 ((t514.length : Int) - 1)) 2))))) else (none)) else (none)) else (some false)) else (none)) else (none)) else (some false)) else (none)) else (none)) else (some false))) = some r := by rw [if_neg (show ¬ (false = true) by decide)] at H; exact H
                            clear H
                            have H := H1
                            clear H1
                            by_cases c41 : (wrap64 ((t514.length : Int) - (wrap64 (2 * (wrap64 (Int.tmod (IntKind.u64.wrap (a1)) (IntKind.u64.wrap (wrap64 (Int.tdiv (wrap64 ((t510.length : Int) + 1)) 2))))))))) = 0
                            · rw [if_pos c41] at H
                              exact absurd H (by simp)
                            · rw [if_neg c41] at H
                              have c41b0 : ((wrap64 ((t514.length : Int) - (wrap64 (2 * (wrap64 (Int.tmod (IntKind.u64.wrap (a1)) (IntKind.u64.wrap (wrap64 (Int.tdiv (wrap64 ((t510.length : Int) + 1)) 2))))))))) == 0) = false := beq_eq_false_iff_ne.mpr c41
                              have c41b1 : ((wrap64 ((t514.length : Int) - (wrap64 (2 * (wrap64 (Int.tmod (IntKind.u64.wrap (a1)) (IntKind.u64.wrap (wrap64 (Int.tdiv (wrap64 ((t510.length : Int) + 1)) 2))))))))) != 0) = true := bne_iff_ne.mpr c41
                              have c41b9 := eq_false c41
                              by_cases c42 : t518 = (wrap64 (Int.tdiv x8_1 (wrap64 ((t514.length : Int) - (wrap64 (2 * (wrap64 (Int.tmod (IntKind.u64.wrap (a1)) (IntKind.u64.wrap (wrap64 (Int.tdiv (wrap64 ((t510.length : Int) + 1)) 2)))))))))))
                              · rw [if_pos c42] at H
                                have c42b0 : (t518 == (wrap64 (Int.tdiv x8_1 (wrap64 ((t514.length : Int) - (wrap64 (2 * (wrap64 (Int.tmod (IntKind.u64.wrap (a1)) (IntKind.u64.wrap (wrap64 (Int.tdiv (wrap64 ((t510.length : Int) + 1)) 2)))))))))))) = true := beq_iff_eq.mpr c42
                                have c42b1 : (t518 != (wrap64 (Int.tdiv x8_1 (wrap64 ((t514.length : Int) - (wrap64 (2 * (wrap64 (Int.tmod (IntKind.u64.wrap (a1)) (IntKind.u64.wrap (wrap64 (Int.tdiv (wrap64 ((t510.length : Int) + 1)) 2)))))))))))) = false := bne_eq_false_iff_eq.mpr c42
                                clear c42
                                obtain ⟨ji43, hji43⟩ : ∃ j_ : Int, (wrap64 (Int.tmod (IntKind.u64.wrap (a1)) (IntKind.u64.wrap (wrap64 (Int.tdiv (wrap64 ((t510.length : Int) + 1)) 2))))) = j_ := ⟨_, rfl⟩
                                replace H : (if 0 ≤ (ji43) then (if (ji43) < (t514.length : Int) then (if t520 = (rd t514 (ji43)) then (if 0 ≤ (wrap64 ((wrap64 ((t514.length : Int) - 1)) - (ji43))) then (if (wrap64 ((wrap64 ((t514.length : Int) - 1)) - (ji43))) < (t514.length : Int) then (if t521 = (rd t514 (wrap64 ((wrap64 ((t514.length : Int) - 1)) - (ji43)))) then (if 0 ≤ (wrap64 (Int.tdiv (wrap64 ((t514.length : Int) - 1)) 2)) then (if (wrap64 (Int.tdiv (wrap64 ((t514.length : Int) - 1)) 2)) < (t514.length : Int) then (some (t523 == (rd t514 (wrap64 (Int.tdiv (wrap64 ((t514.length : Int) - 1)) 2))))) else (none)) else (none)) else (some false)) else (none)) else (none)) else (some false)) else (none)) else (none)) = some r := by first | (rw [hji43] at H; exact H) | (simp only [hji43] at H ⊢; exact H)
                                (try rw [hji43] at c16b0)
                                (try rw [hji43] at c41b0)
                                (try rw [hji43] at c41b1)
                                (try rw [hji43] at c41b9)
                                (try rw [hji43] at c42b0)
                                (try rw [hji43] at c42b1)
                                (try rw [hji43] at A19)
                                (try rw [hji43] at A20)
                                (try rw [hji43] at A21)
                                (try rw [hji43] at A24)
                                (try rw [hji43] at A25)
                                have hji43w : (IntKind.i64.wrap (Int.tmod (IntKind.u64.wrap (a1)) (IntKind.u64.wrap (wrap64 (Int.tdiv (wrap64 ((t510.length : Int) + 1)) 2))))) = ji43 := (i64_w _).trans hji43
                                by_cases c44 : 0 ≤ (ji43)
                                · rw [if_pos c44] at H
                                  have c44b0 : decide (0 ≤ (ji43)) = true := decide_eq_true c44
                                  clear c44
                                  by_cases c45 : (ji43) < (t514.length : Int)
                                  · rw [if_pos c45] at H
                                    have c45b0 : decide ((ji43) < (t514.length : Int)) = true := decide_eq_true c45
                                    clear c45
                                    by_cases c46 : t520 = (rd t514 (ji43))
                                    · rw [if_pos c46] at H
                                      have c46b0 : (t520 == (rd t514 (ji43))) = true := beq_iff_eq.mpr c46
                                      have c46b1 : (t520 != (rd t514 (ji43))) = false := bne_eq_false_iff_eq.mpr c46
                                      clear c46
                                      obtain ⟨ji47, hji47⟩ : ∃ j_ : Int, (wrap64 ((wrap64 ((t514.length : Int) - 1)) - (ji43))) = j_ := ⟨_, rfl⟩
                                      replace H : (if 0 ≤ (ji47) then (if (ji47) < (t514.length : Int) then (if t521 = (rd t514 (ji47)) then (if 0 ≤ (wrap64 (Int.tdiv (wrap64 ((t514.length : Int) - 1)) 2)) then (if (wrap64 (Int.tdiv (wrap64 ((t514.length : Int) - 1)) 2)) < (t514.length : Int) then (some (t523 == (rd t514 (wrap64 (Int.tdiv (wrap64 ((t514.length : Int) - 1)) 2))))) else (none)) else (none)) else (some false)) else (none)) else (none)) = some r := by first | (rw [hji47] at H; exact H) | (simp only [hji47] at H ⊢; exact H)
                                      (try rw [hji47] at A19)
                                      (try rw [hji47] at A20)
                                      (try rw [hji47] at A21)
                                      (try rw [hji47] at A24)
                                      (try rw [hji47] at A25)
                                      have hji47w : (IntKind.i64.wrap ((wrap64 ((t514.length : Int) - 1)) - (ji43))) = ji47 := (i64_w _).trans hji47
                                      by_cases c48 : 0 ≤ (ji47)
                                      · rw [if_pos c48] at H
                                        have c48b0 : decide (0 ≤ (ji47)) = true := decide_eq_true c48
                                        clear c48
                                        by_cases c49 : (ji47) < (t514.length : Int)
                                        · rw [if_pos c49] at H
                                          have c49b0 : decide ((ji47) < (t514.length : Int)) = true := decide_eq_true c49
                                          clear c49
                                          by_cases c50 : t521 = (rd t514 (ji47))
                                          · rw [if_pos c50] at H
                                            have c50b0 : (t521 == (rd t514 (ji47))) = true := beq_iff_eq.mpr c50
                                            have c50b1 : (t521 != (rd t514 (ji47))) = false := bne_eq_false_iff_eq.mpr c50
                                            clear c50
                                            obtain ⟨ji51, hji51⟩ : ∃ j_ : Int, (wrap64 (Int.tdiv (wrap64 ((t514.length : Int) - 1)) 2)) = j_ := ⟨_, rfl⟩
                                            replace H : (if 0 ≤ (ji51) then (if (ji51) < (t514.length : Int) then (some (t523 == (rd t514 (ji51)))) else (none)) else (none)) = some r := by first | (rw [hji51] at H; exact H) | (simp only [hji51] at H ⊢; exact H)
                                            (try rw [hji51] at A19)
                                            (try rw [hji51] at A20)
                                            (try rw [hji51] at A21)
                                            (try rw [hji51] at A24)
                                            (try rw [hji51] at A25)
                                            have hji51w : (IntKind.i64.wrap (Int.tdiv (wrap64 ((t514.length : Int) - 1)) 2)) = ji51 := (i64_w _).trans hji51
                                            by_cases c52 : 0 ≤ (ji51)
                                            · rw [if_pos c52] at H
                                              have c52b0 : decide (0 ≤ (ji51)) = true := decide_eq_true c52
                                              clear c52
                                              by_cases c53 : (ji51) < (t514.length : Int)
                                              · rw [if_pos c53] at H
                                                have c53b0 : decide ((ji51) < (t514.length : Int)) = true := decide_eq_true c53
                                                clear c53
                                                obtain rfl := Option.some.inj H
                                                go_wp2_with (first | ((with_reducible refine gate_callee (f := 29) rfl ?_); refine goesL_ (some 59) rfl rfl Try.func29 (by kernel_rfl) rfl #[.slice Ao13 t510.length co13, .int .i64 (ji43)] rfl (by (try simp only [List.map_toArray, List.map_cons, List.map_nil]); first | done | (simp only [hji43]; rfl) | rfl | (simp only [List.length_drop, List.length_take]; rfl)) ?_; (with_reducible refine (trim_Mean.calls k1 _ _ t510 (ji43) t518 true _ ?side1 ?side2 A19.out).mono ?_); (case side1 => repeat (first | exact (Kd.R_reads' HO_5.out).2.2 | (with_reducible refine Kd.C_alloc ?_ _) | (with_reducible refine Kd.C_drewN ?_ _) | (with_reducible refine Kd.C_drew ?_))); (case side2 => exact (Kd.R_reads' HO_5.out).2.1); rintro e w54 ⟨rfl, hb⟩; refine ⟨_, rfl, ?_⟩; have n0_ := Aside0.mk (Kd.R_below (by (with_reducible repeat (first | apply Kd.R_alloc | apply Kd.R_drewN | apply Kd.R_drew)); exact HO_5.out) hb); have n1_ := Aside0.mk (Kd.R_below (by (with_reducible repeat (first | apply Kd.R_alloc | apply Kd.R_drewN | apply Kd.R_drew)); exact HO_7.out) hb); have n2_ := Aside0.mk (below_step (by repeat (first | (with_reducible first | exact HB.out | apply below_alloc | apply pw_below_drewN | apply below_drew1) | exact HB.out)) hb); clear HO_5; clear HO_7; clear HB; have HO_5 := n0_; have HO_7 := n1_; have HB := n2_; clear n0_ n1_ n2_; (try clear hb); (try clear hb2); (try clear hk); (try clear hi)) | ((with_reducible refine gate_callee (f := 31) rfl ?_); refine goesL_ (some 65) rfl rfl Try.func31 (by kernel_rfl) rfl #[.slice Ao13 t510.length co13, .int .i64 (ji43)] rfl (by (try simp only [List.map_toArray, List.map_cons, List.map_nil]); first | done | (simp only [hji43]; rfl) | rfl | (simp only [List.length_drop, List.length_take]; rfl)) ?_; (with_reducible refine (trim_Span.calls k1 _ _ t510 (ji43) t520 t521 true _ ?side1 ?side2 A20.out).mono ?_); (case side1 => repeat (first | exact (Kd.R_reads' HO_5.out).2.2 | (with_reducible refine Kd.C_alloc ?_ _) | (with_reducible refine Kd.C_drewN ?_ _) | (with_reducible refine Kd.C_drew ?_))); (case side2 => exact (Kd.R_reads' HO_5.out).2.1); rintro e w55 ⟨rfl, hb⟩; refine ⟨_, rfl, ?_⟩; have n0_ := Aside0.mk (Kd.R_below (by (with_reducible repeat (first | apply Kd.R_alloc | apply Kd.R_drewN | apply Kd.R_drew)); exact HO_5.out) hb); have n1_ := Aside0.mk (Kd.R_below (by (with_reducible repeat (first | apply Kd.R_alloc | apply Kd.R_drewN | apply Kd.R_drew)); exact HO_7.out) hb); have n2_ := Aside0.mk (below_step (by repeat (first | (with_reducible first | exact HB.out | apply below_alloc | apply pw_below_drewN | apply below_drew1) | exact HB.out)) hb); clear HO_5; clear HO_7; clear HB; have HO_5 := n0_; have HO_7 := n1_; have HB := n2_; clear n0_ n1_ n2_; (try clear hb); (try clear hb2); (try clear hk); (try clear hi)) | ((with_reducible refine gate_callee (f := 27) rfl ?_); refine goesL_ (some 71) rfl rfl Try.func27 (by kernel_rfl) rfl #[.slice Ao13 t510.length co13] rfl (by (try simp only [List.map_toArray, List.map_cons, List.map_nil]); first | done | rfl | (simp only [List.length_drop, List.length_take]; rfl)) ?_; (with_reducible refine (trim_Median.calls k1 _ _ t510 t523 true _ ?side1 ?side2 A21.out).mono ?_); (case side1 => repeat (first | exact (Kd.R_reads' HO_5.out).2.2 | (with_reducible refine Kd.C_alloc ?_ _) | (with_reducible refine Kd.C_drewN ?_ _) | (with_reducible refine Kd.C_drew ?_))); (case side2 => exact (Kd.R_reads' HO_5.out).2.1); rintro e w56 ⟨rfl, hb⟩; refine ⟨_, rfl, ?_⟩; have n0_ := Aside0.mk (Kd.R_below (by (with_reducible repeat (first | apply Kd.R_alloc | apply Kd.R_drewN | apply Kd.R_drew)); exact HO_5.out) hb); have n1_ := Aside0.mk (Kd.R_below (by (with_reducible repeat (first | apply Kd.R_alloc | apply Kd.R_drewN | apply Kd.R_drew)); exact HO_7.out) hb); have n2_ := Aside0.mk (below_step (by repeat (first | (with_reducible first | exact HB.out | apply below_alloc | apply pw_below_drewN | apply below_drew1) | exact HB.out)) hb); clear HO_5; clear HO_7; clear HB; have HO_5 := n0_; have HO_7 := n1_; have HB := n2_; clear n0_ n1_ n2_; (try clear hb); (try clear hb2); (try clear hk); (try clear hi)) | ((with_reducible refine gate_dst (N := 75) rfl ?_); (try (refine gate_guard (by rfl) ?_; dsimp only)); refine Kd.R_lit (Kd.int .i64) _ 2 ?hg (N := 75) ?hd (xs := ([] : List Int)) (inner := []) (ok := fun _ => True) (okp := fun _ => True) ?hr ?hp (fun _ hk => hk) trivial (Below.refl _ _) (Nat.le_refl _) (by simp) ?_; (case hd => rfl); (case hg => rfl); (case hr => first | (go_simp; done) | (go_simp; rfl)); (case hp => exact (Reps.none _ _)); intro v526 w57 ho58 hb hg_ hnew_; clear hg_ hnew_; (first | rw [← Ny525.out] at ho58 | (simp only [Int.reduceToNat] at ho58; rw [← Ny525.out] at ho58)); have n0_ := Aside0.mk (Kd.R_elder' (by (with_reducible repeat (first | apply Kd.R_alloc | apply Kd.R_drewN | apply Kd.R_drew)); exact HO_5.out) (Kd.R_base ho58) hb); have n1_ := Aside0.mk (Kd.R_elder' (by (with_reducible repeat (first | apply Kd.R_alloc | apply Kd.R_drewN | apply Kd.R_drew)); exact HO_7.out) (Kd.R_base ho58) hb); have n2_ := Aside0.mk (Kd.R_lower (Kd.R_new' (Kd.R_new' ho58 (Kd.R_lt (by (with_reducible repeat (first | apply Kd.R_alloc | apply Kd.R_drewN | apply Kd.R_drew)); exact HO_5.out))) (Kd.R_lt (by (with_reducible repeat (first | apply Kd.R_alloc | apply Kd.R_drewN | apply Kd.R_drew)); exact HO_7.out))) (below_size (by repeat (first | (with_reducible first | exact HB.out | apply below_alloc | apply pw_below_drewN | apply below_drew1) | exact HB.out)))); have n3_ := Aside0.mk (below_step (by repeat (first | (with_reducible first | exact HB.out | apply below_alloc | apply pw_below_drewN | apply below_drew1) | exact HB.out)) hb); clear HO_5; clear HO_7; clear HB; have HO_5 := n0_; have HO_7 := n1_; have HO527 := n2_; have HB := n3_; clear n0_ n1_ n2_ n3_; clear hb ho58) | ((with_reducible refine gate_builtin (b := .append) (xs := #[.tmp 75, .tmp 76]) rfl ?_); (try (refine gate_guard (by rfl) ?_; dsimp only)); at_builtin; refine Kd.R_append_rows (Kd.int .i64) (w0 := w) w.heap.size rfl (.tmp 75) (.tmp 76) 22 2 (.int .i64 0) 8 rfl Try.underlying22 info2 rfl (by decide) (by omega) v526 y525 t510 _ _ _ (fun k_ => some k_ ≠ (.slice Ao13 t510.length co13 : Value).ownBlock ∧ some k_ ≠ (.slice Ao15 t514.length co15 : Value).ownBlock) (fun _ => False) rfl rfl ?aO ?aR (fun _ _ h => h) (fun _ h => h.elim) ?aF ?aB ?aS ?aL ?_; (case aR => repeat (first | exact (Kd.R_reads' HO_5.out).2.2 | (with_reducible refine Kd.C_alloc ?_ _) | (with_reducible refine Kd.C_drewN ?_ _) | (with_reducible refine Kd.C_drew ?_))); (case aB => exact (by repeat (first | (with_reducible first | exact HB.out | apply below_alloc | apply pw_below_drewN | apply below_drew1) | exact HB.out))); (case aF => exact (fun k_ hk => ⟨Kd.fresh' (Kd.R_lt (by (with_reducible repeat (first | apply Kd.R_alloc | apply Kd.R_drewN | apply Kd.R_drew)); exact HO_5.out)) k_ hk, Kd.fresh' (Kd.R_lt (by (with_reducible repeat (first | apply Kd.R_alloc | apply Kd.R_drewN | apply Kd.R_drew)); exact HO_7.out)) k_ hk⟩)); (case aO => exact (by (with_reducible repeat (first | apply Kd.R_alloc | apply Kd.R_drewN | apply Kd.R_drew)); exact Kd.R_mono HO527.out (fun _ hk => ⟨hk.1.2, hk.2⟩))); (case aS => exact (below_size (by repeat (first | (with_reducible first | exact HB.out | apply below_alloc | apply pw_below_drewN | apply below_drew1) | exact HB.out)))); (case aL => have := LMc22.out; omega); intro v529 w59 ho hb hg hat; rw [← Ny528.out] at ho; have n0_ := Aside0.mk (Kd.R_after (ok := (fun k_ => some k_ ≠ (.slice Ao15 t514.length co15 : Value).ownBlock)) (by (with_reducible repeat (first | apply Kd.R_alloc | apply Kd.R_drewN | apply Kd.R_drew)); exact HO_5.out) hg hat); have n1_ := Aside0.mk (Kd.R_after (ok := (fun k_ => some k_ ≠ (.slice Ao13 t510.length co13 : Value).ownBlock)) (by (with_reducible repeat (first | apply Kd.R_alloc | apply Kd.R_drewN | apply Kd.R_drew)); exact HO_7.out) hg hat); have n2_ := Aside0.mk (hb); have n3_ := Aside0.mk (ho); clear HO_5; clear HO_7; clear HB; clear HO527; have HO_5 := n0_; have HO_7 := n1_; have HB := n2_; have HO530 := n3_; clear n0_ n1_ n2_ n3_; clear ho hb hg hat) | ((with_reducible refine gate_builtin (b := .append) (xs := #[.tmp 77, .tmp 78]) rfl ?_); (try (refine gate_guard (by rfl) ?_; dsimp only)); at_builtin; refine Kd.R_append (Kd.int .i64) (w0 := w) w.heap.size rfl (.tmp 77) (.tmp 78) 22 2 (.int .i64 0) 8 rfl Try.underlying22 info2 rfl (by decide) (by omega) v529 y528 1099511627777 [.int .i64 1099511627777] (fun k_ => some k_ ≠ (.slice Ao13 t510.length co13 : Value).ownBlock ∧ some k_ ≠ (.slice Ao15 t514.length co15 : Value).ownBlock) (fun _ => False) rfl rfl ?aP (fun _ hk => hk.elim) ?aF ?aO ?aB ?aS ?aL ?_; (case aP => exact rfl); (case aB => exact (by repeat (first | (with_reducible first | exact HB.out | apply below_alloc | apply pw_below_drewN | apply below_drew1) | exact HB.out))); (case aF => exact (fun k_ hk => ⟨Kd.fresh' (Kd.R_lt (by (with_reducible repeat (first | apply Kd.R_alloc | apply Kd.R_drewN | apply Kd.R_drew)); exact HO_5.out)) k_ hk, Kd.fresh' (Kd.R_lt (by (with_reducible repeat (first | apply Kd.R_alloc | apply Kd.R_drewN | apply Kd.R_drew)); exact HO_7.out)) k_ hk⟩)); (case aO => exact (by (with_reducible repeat (first | apply Kd.R_alloc | apply Kd.R_drewN | apply Kd.R_drew)); exact HO530.out)); (case aS => exact (below_size (by repeat (first | (with_reducible first | exact HB.out | apply below_alloc | apply pw_below_drewN | apply below_drew1) | exact HB.out)))); (case aL => have := LMc23.out; omega); intro v532 w60 ho hb hg hat; rw [← Ny531.out] at ho; have n0_ := Aside0.mk (Kd.R_after (ok := (fun k_ => some k_ ≠ (.slice Ao15 t514.length co15 : Value).ownBlock)) (by (with_reducible repeat (first | apply Kd.R_alloc | apply Kd.R_drewN | apply Kd.R_drew)); exact HO_5.out) hg hat); have n1_ := Aside0.mk (Kd.R_after (ok := (fun k_ => some k_ ≠ (.slice Ao13 t510.length co13 : Value).ownBlock)) (by (with_reducible repeat (first | apply Kd.R_alloc | apply Kd.R_drewN | apply Kd.R_drew)); exact HO_7.out) hg hat); have n2_ := Aside0.mk (hb); have n3_ := Aside0.mk (ho); clear HO_5; clear HO_7; clear HB; clear HO530; have HO_5 := n0_; have HO_7 := n1_; have HB := n2_; have HO533 := n3_; clear n0_ n1_ n2_ n3_; clear ho hb hg hat; obtain ⟨Ao61, co61, eo61⟩ := Kd.R_slice HO533.out; subst eo61) | ((with_reducible refine gate_callee (f := 29) rfl ?_); refine goesL_ (some 81) rfl rfl Try.func29 (by kernel_rfl) rfl #[.slice Ao61 y531.length co61, .int .i64 (ji43)] rfl (by (try simp only [List.map_toArray, List.map_cons, List.map_nil]); first | done | (simp only [hji43]; rfl) | rfl | (simp only [List.length_drop, List.length_take]; rfl)) ?_; (with_reducible refine (trim_Mean.calls k1 _ _ y531 (ji43) t534 false _ ?side1 ?side2 A24.out).mono ?_); (case side1 => repeat (first | exact (Kd.R_reads' HO533.out).2.2 | (with_reducible refine Kd.C_alloc ?_ _) | (with_reducible refine Kd.C_drewN ?_ _) | (with_reducible refine Kd.C_drew ?_))); (case side2 => exact (Kd.R_reads' HO533.out).2.1); rintro e w62 ⟨rfl, hb⟩; refine ⟨_, rfl, ?_⟩; have n0_ := Aside0.mk (Kd.R_below (by (with_reducible repeat (first | apply Kd.R_alloc | apply Kd.R_drewN | apply Kd.R_drew)); exact HO_5.out) hb); have n1_ := Aside0.mk (Kd.R_below (by (with_reducible repeat (first | apply Kd.R_alloc | apply Kd.R_drewN | apply Kd.R_drew)); exact HO_7.out) hb); have n2_ := Aside0.mk (Kd.R_below (by (with_reducible repeat (first | apply Kd.R_alloc | apply Kd.R_drewN | apply Kd.R_drew)); exact HO533.out) hb); have n3_ := Aside0.mk (below_step (by repeat (first | (with_reducible first | exact HB.out | apply below_alloc | apply pw_below_drewN | apply below_drew1) | exact HB.out)) hb); clear HO_5; clear HO_7; clear HO533; clear HB; have HO_5 := n0_; have HO_7 := n1_; have HO533 := n2_; have HB := n3_; clear n0_ n1_ n2_ n3_; (try clear hb); (try clear hb2); (try clear hk); (try clear hi)) | ((with_reducible refine gate_callee (f := 26) rfl ?_); refine goesL_ (some 84) rfl rfl Try.func26 (by kernel_rfl) rfl #[] rfl (by (try simp only [List.map_toArray, List.map_cons, List.map_nil]); first | done | rfl | (simp only [List.length_drop, List.length_take]; rfl)) ?_; (with_reducible refine (quorumitelaw10_told.calls k1  true _ rfl A25.out).mono ?_); rintro e w63 ⟨rfl, hb⟩; refine ⟨_, rfl, ?_⟩; have n0_ := Aside0.mk (Kd.R_below (by (with_reducible repeat (first | apply Kd.R_alloc | apply Kd.R_drewN | apply Kd.R_drew)); exact HO_5.out) hb); have n1_ := Aside0.mk (Kd.R_below (by (with_reducible repeat (first | apply Kd.R_alloc | apply Kd.R_drewN | apply Kd.R_drew)); exact HO_7.out) hb); have n2_ := Aside0.mk (Kd.R_below (by (with_reducible repeat (first | apply Kd.R_alloc | apply Kd.R_drewN | apply Kd.R_drew)); exact HO533.out) hb); have n3_ := Aside0.mk (below_step (by repeat (first | (with_reducible first | exact HB.out | apply below_alloc | apply pw_below_drewN | apply below_drew1) | exact HB.out)) hb); clear HO_5; clear HO_7; clear HO533; clear HB; have HO_5 := n0_; have HO_7 := n1_; have HO533 := n2_; have HB := n3_; clear n0_ n1_ n2_ n3_; (try clear hb); (try clear hb2); (try clear hk); (try clear hi); have p537 : 0 ≤ ((ji43) : Int) := of_decide_eq_true (by first | (with_reducible assumption) | assumption); have q537 : (ji43) < (t514.length : Int) := of_decide_eq_true (by first | (with_reducible assumption) | assumption); obtain ⟨ad537, e537, hx537_0⟩ := Kd.at_int (Kd.R_reads' HO_7.out).2.2 (ji43) p537 q537; cases e537; replace p537 := eq_true p537; replace q537 := eq_true q537; have p538 : 0 ≤ ((ji47) : Int) := of_decide_eq_true (by first | (with_reducible assumption) | assumption); have q538 : (ji47) < (t514.length : Int) := of_decide_eq_true (by first | (with_reducible assumption) | assumption); obtain ⟨ad538, e538, hx538_0⟩ := Kd.at_int (Kd.R_reads' HO_7.out).2.2 (ji47) p538 q538; obtain rfl : ad537 = ad538 := (by injection e538); replace p538 := eq_true p538; replace q538 := eq_true q538; have p539 : 0 ≤ ((ji51) : Int) := of_decide_eq_true (by first | (with_reducible assumption) | assumption); have q539 : (ji51) < (t514.length : Int) := of_decide_eq_true (by first | (with_reducible assumption) | assumption); obtain ⟨ad539, e539, hx539_0⟩ := Kd.at_int (Kd.R_reads' HO_7.out).2.2 (ji51) p539 q539; obtain rfl : ad537 = ad539 := (by injection e539); replace p539 := eq_true p539; replace q539 := eq_true q539))
                                                go_ret
                                                exact ⟨by first | rfl | (simp [errW_none, errW_some] <;> rfl) | (simp only [← hji43, ← hji47, ← hji51]; first | rfl | (simp [errW_none, errW_some] <;> rfl)) | (simp [*, errW_none, errW_some] <;> rfl), by repeat (first | (with_reducible first | exact HB.out | apply below_alloc | apply pw_below_drewN | apply below_drew1) | exact HB.out)⟩
                                              · rw [if_neg c53] at H
                                                exact absurd H (by simp)
                                            · rw [if_neg c52] at H
                                              exact absurd H (by simp)
                                          · rw [if_neg c50] at H
                                            have c50b0 : (t521 == (rd t514 (ji47))) = false := beq_eq_false_iff_ne.mpr c50
                                            have c50b1 : (t521 != (rd t514 (ji47))) = true := bne_iff_ne.mpr c50
                                            exact absurd ((Option.some.inj H).trans HRT.out) (by decide)
                                        · rw [if_neg c49] at H
                                          exact absurd H (by simp)
                                      · rw [if_neg c48] at H
                                        exact absurd H (by simp)
                                    · rw [if_neg c46] at H
                                      have c46b0 : (t520 == (rd t514 (ji43))) = false := beq_eq_false_iff_ne.mpr c46
                                      have c46b1 : (t520 != (rd t514 (ji43))) = true := bne_iff_ne.mpr c46
                                      exact absurd ((Option.some.inj H).trans HRT.out) (by decide)
                                  · rw [if_neg c45] at H
                                    exact absurd H (by simp)
                                · rw [if_neg c44] at H
                                  exact absurd H (by simp)
                              · rw [if_neg c42] at H
                                have c42b0 : (t518 == (wrap64 (Int.tdiv x8_1 (wrap64 ((t514.length : Int) - (wrap64 (2 * (wrap64 (Int.tmod (IntKind.u64.wrap (a1)) (IntKind.u64.wrap (wrap64 (Int.tdiv (wrap64 ((t510.length : Int) + 1)) 2)))))))))))) = false := beq_eq_false_iff_ne.mpr c42
                                have c42b1 : (t518 != (wrap64 (Int.tdiv x8_1 (wrap64 ((t514.length : Int) - (wrap64 (2 * (wrap64 (Int.tmod (IntKind.u64.wrap (a1)) (IntKind.u64.wrap (wrap64 (Int.tdiv (wrap64 ((t510.length : Int) + 1)) 2)))))))))))) = true := bne_iff_ne.mpr c42
                                exact absurd ((Option.some.inj H).trans HRT.out) (by decide)
                        · replace c29 := Bool.eq_false_iff.mpr c29
                          subst c29
                          have H1 : (some false) = some r := by rw [if_neg (show ¬ (false = true) by decide)] at H; exact H
                          clear H
                          have H := H1
                          clear H1
                          exact absurd ((Option.some.inj H).trans HRT.out) (by decide)
                      · replace c28 := Bool.eq_false_iff.mpr c28
                        subst c28
                        have H1 : (some false) = some r := by rw [if_neg (show ¬ (false = true) by decide)] at H; exact H
                        clear H
                        have H := H1
                        clear H1
                        exact absurd ((Option.some.inj H).trans HRT.out) (by decide)
                    · replace c27 := Bool.eq_false_iff.mpr c27
                      subst c27
                      have H1 : (some false) = some r := by rw [if_neg (show ¬ (false = true) by decide)] at H; exact H
                      clear H
                      have H := H1
                      clear H1
                      exact absurd ((Option.some.inj H).trans HRT.out) (by decide)
                  · replace c26 := Bool.eq_false_iff.mpr c26
                    subst c26
                    have H1 : (some false) = some r := by rw [if_neg (show ¬ (false = true) by decide)] at H; exact H
                    clear H
                    have H := H1
                    clear H1
                    exact absurd ((Option.some.inj H).trans HRT.out) (by decide)
                · rw [if_neg c23] at H
                  exact absurd H (by simp)
              · rw [if_neg c22] at H
                exact absurd H (by simp)
      · rw [if_neg c11] at H
        have c11b0 : ((t514.length : Int) == (t510.length : Int)) = false := beq_eq_false_iff_ne.mpr c11
        have c11b1 : ((t514.length : Int) != (t510.length : Int)) = true := bne_iff_ne.mpr c11
        have c11b2 : (t514.length == t510.length) = false := by first | simpa using c11 | (simp at c11 ⊢; omega)
        obtain rfl := Option.some.inj H
        go_enter Try.func12, Try.ntmps12
        go_wp2_with (first | ((with_reducible refine gate_callee (f := 34) rfl ?_); refine goesL_ (some 20) rfl rfl Try.func34 (by kernel_rfl) rfl #[.slice A0 l0.length c0, .int .i64 30] rfl (by (try simp only [List.map_toArray, List.map_cons, List.map_nil]); first | done | rfl | (simp only [List.length_drop, List.length_take]; rfl)) ?_; (with_reducible refine (quorumitelaw10_fit.calls k _ _ l0 30 t510 _ ?side1 ?side2 A3.out).mono ?_); (case side1 => repeat (first | exact HR0.out | (with_reducible refine Kd.C_alloc ?_ _) | (with_reducible refine Kd.C_drewN ?_ _) | (with_reducible refine Kd.C_drew ?_))); (case side2 => exact HC0.out); rintro e w134 ⟨v511, rfl, ho0, hb⟩; refine ⟨_, rfl, ?_⟩; have n0_ := Aside0.mk (Kd.R_lower ho0 (below_size (by repeat (first | (with_reducible first | exact HB.out | apply below_alloc | apply pw_below_drewN | apply below_drew1) | exact HB.out)))); have n1_ := Aside0.mk (below_step (by repeat (first | (with_reducible first | exact HB.out | apply below_alloc | apply pw_below_drewN | apply below_drew1) | exact HB.out)) hb); clear HB; have HO512 := n0_; have HB := n1_; clear n0_ n1_; (try clear hb); (try clear hb2); (try clear hk); (try clear hi); (try clear ho0); obtain ⟨Ao135, co135, eo135⟩ := Kd.R_slice HO512.out; subst eo135) | ((with_reducible refine gate_callee (f := 23) rfl ?_); refine goesL_ (some 35) rfl rfl Try.func23 (by kernel_rfl) rfl #[.slice Ao135 t510.length co135] rfl (by (try simp only [List.map_toArray, List.map_cons, List.map_nil]); first | done | rfl | (simp only [List.length_drop, List.length_take]; rfl)) ?_; (with_reducible refine (order_Sort.calls k _ _ t510 t514 _ ?side1 ?side2 A10.out).mono ?_); (case side1 => repeat (first | exact (Kd.R_reads' HO512.out).2.2 | (with_reducible refine Kd.C_alloc ?_ _) | (with_reducible refine Kd.C_drewN ?_ _) | (with_reducible refine Kd.C_drew ?_))); (case side2 => exact (Kd.R_reads' HO512.out).2.1); rintro e w136 ⟨v515, rfl, ho0, hb⟩; refine ⟨_, rfl, ?_⟩; have n0_ := Aside0.mk (Kd.R_elder' (by (with_reducible repeat (first | apply Kd.R_alloc | apply Kd.R_drewN | apply Kd.R_drew)); exact HO512.out) (Kd.R_base ho0) hb); have n1_ := Aside0.mk (Kd.R_lower (Kd.R_new' ho0 (Kd.R_lt (by (with_reducible repeat (first | apply Kd.R_alloc | apply Kd.R_drewN | apply Kd.R_drew)); exact HO512.out))) (below_size (by repeat (first | (with_reducible first | exact HB.out | apply below_alloc | apply pw_below_drewN | apply below_drew1) | exact HB.out)))); have n2_ := Aside0.mk (below_step (by repeat (first | (with_reducible first | exact HB.out | apply below_alloc | apply pw_below_drewN | apply below_drew1) | exact HB.out)) hb); clear HO512; clear HB; have HO512 := n0_; have HO516 := n1_; have HB := n2_; clear n0_ n1_ n2_; (try clear hb); (try clear hb2); (try clear hk); (try clear hi); (try clear ho0); obtain ⟨Ao137, co137, eo137⟩ := Kd.R_slice HO516.out; subst eo137))
        go_ret
        exact ⟨by first | rfl | (simp [errW_none, errW_some] <;> rfl) | (simp [*, errW_none, errW_some] <;> rfl), by repeat (first | (with_reducible first | exact HB.out | apply below_alloc | apply pw_below_drewN | apply below_drew1) | exact HB.out)⟩

/-- THE ONE PURE STATEMENT of quorumitelaw10_TrimSpans: yours. -/
def quorumitelaw10_TrimSpans.Pure : Prop := ∀ (l0 : List Int) (a1 : Int), l0.length ≤ maxLen → l0.length * 8 ≤ 140737488351232 → (∀ x ∈ l0, (Lit.int .i64 x).wf = true) → (Lit.int .i64 a1).wf = true → ∃ k, quorumitelaw10_TrimSpans.f k l0 a1 = some true
theorem quorumitelaw10_TrimSpans.walk (P : quorumitelaw10_TrimSpans.Pure) (a0 : Option Addr) (len0 cap0 : Nat) (z0 : List Int) (a1 : Int) (w : World) (w0 : (a0 = none ∧ len0 = 0 ∧ cap0 = 0 ∧ z0 = []) ∨ ∃ x, a0 = some x ∧ len0 ≤ cap0 ∧ cap0 ≤ maxLen ∧ z0.length = cap0 ∧ (∀ i, i < z0.length → w.cell? (x.add i) = some (.int .i64 (z0.getD i 0))) ∧ ∀ n ∈ z0, (Lit.int .i64 n).wf = true) (y0 : len0 * 8 ≤ 140737488351232) (w1 : (Lit.int .i64 a1).wf = true) :
    Calls Try.prog 12 #[.slice a0 len0 cap0, .int .i64 a1] w fun e w' => e = .returned (.bool true) ∧ Below w.heap.size w w' := by
  obtain ⟨l0, rfl, hr0, hm0, hw0, hc0⟩ := ReadsInt.ofRowC w0
  obtain ⟨k, h⟩ := P l0 a1 hm0 y0 hw0 w1
  refine (quorumitelaw10_TrimSpans.calls k _ _ l0 a1 true w (Kd.C_of_reads (d := (0 : Int)) (h1 := fun _ => rfl) hr0) hc0 rfl h).mono ?_
  rintro e w' ⟨rfl, hd⟩
  exact ⟨rfl, hd⟩

end Go.Proofs.Ytjcjibghnpjegaa.Pr
