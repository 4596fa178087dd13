-- Made by a program of this session (wip: patch_print.py, pr.sh) out of the kit's print: functions over lists and the proof that the Go code comes to them.
import Derived.Test.YtjcjibghnpjegaaPr0
import Derived.Test.YtjcjibghnpjegaaPr3
import Derived.Test.YtjcjibghnpjegaaPr4
import Derived.Test.YtjcjibghnpjegaaPr6
import Derived.Test.YtjcjibghnpjegaaPr7
import Derived.Test.YtjcjibghnpjegaaPr8
import Derived.Test.YtjcjibghnpjegaaPr9
import Derived.Test.YtjcjibghnpjegaaPr10
import Derived.Test.YtjcjibghnpjegaaPr12
import Derived.Test.YtjcjibghnpjegaaPr13
namespace Go.Proofs.Ytjcjibghnpjegaa.Pr
open Go.RowKit Go.Proofs.YtjcjibghnpjegaaW.PrintWords Go.Proofs.YtjcjibghnpjegaaW.PrintLast Go.Proofs.YtjcjibghnpjegaaW.PrintMore
attribute [local go_sem] max2_int min2_int max_two min_two max_three min_three max_four min_four   -- for this text's walks alone
set_option linter.unusedVariables false
set_option linter.unusedSimpArgs false

/-! ### quorumitelaw9_OrderAsks: function 4 -/
mutual
def quorumitelaw9_OrderAsks.j0 : Nat → List Int → List Int → Int → Int → Bool → Option (Bool)
  | 0, _, _, _, _, _ => none
  | k + 1, x0, x1, x2, x3, x20 => if x20 = true then ((quorumitelaw9_told.f k).bind fun t232 => (some t232)) else ((quorumiteref9_Sort.f x0).bind fun t233 => ((order_At.f k x0 x3).bind fun bt236 => (if x3 ≥ 0 then (quorumitelaw9_OrderAsks.j1 k x0 x1 x2 x3 t233 bt236.1 bt236.2 (decide (x3 < (x0.length : Int)))) else (quorumitelaw9_OrderAsks.j1 k x0 x1 x2 x3 t233 bt236.1 bt236.2 false))))
def quorumitelaw9_OrderAsks.j1 : Nat → List Int → List Int → Int → Int → List Int → Int → Bool → Bool → Option (Bool)
  | 0, _, _, _, _, _, _, _, _ => none
  | k + 1, x0, x1, x2, x3, x9, x10, x11, x12 => (quorumitelaw9_told.f k).bind fun t238 => (if t238 = true then ((order_Sort.f k x0).bind fun t239 => ((quorumiteref9_SameList.f k t239 x9).bind fun t242 => (if t242 = true then ((order_Rank.f k x0 x2).bind fun t243 => ((quorumiteref9_Rank.f k x0 x2).bind fun t244 => (if t243 = t244 then (if (x11 == x12) = true then (if x12 = true then (if 0 ≤ (mn (mx x3 0) (mx (wrap64 ((x9.length : Int) - 1)) 0)) then (if (mn (mx x3 0) (mx (wrap64 ((x9.length : Int) - 1)) 0)) < (x9.length : Int) then (if x10 = (rd x9 (mn (mx x3 0) (mx (wrap64 ((x9.length : Int) - 1)) 0))) then ((order_Same.f k x0 x1).bind fun t246 => ((quorumiteref9_Sort.f x1).bind fun t247 => ((quorumiteref9_SameList.f k x9 t247).bind fun t250 => (if (t246 == t250) = true then ((order_Union.f k x0 x1).bind fun t251 => ((some (([] : List Int) : List Int)).bind fun y254 => (if y254.length + x0.length < 17592186044416 then ((some (y254 ++ x0 : List Int)).bind fun y257 => (if y257.length + x1.length < 17592186044416 then ((quorumiteref9_Sort.f (y257 ++ x1)).bind fun t263 => ((quorumiteref9_SameList.f k t251 t263).bind fun t266 => (some t266))) else (none))) else (none)))) else (some false))))) else (some false)) else (none)) else (none)) else (if x10 = 0 then ((order_Same.f k x0 x1).bind fun t267 => ((quorumiteref9_Sort.f x1).bind fun t268 => ((quorumiteref9_SameList.f k x9 t268).bind fun t271 => (if (t267 == t271) = true then ((order_Union.f k x0 x1).bind fun t272 => ((some (([] : List Int) : List Int)).bind fun y275 => (if y275.length + x0.length < 17592186044416 then ((some (y275 ++ x0 : List Int)).bind fun y278 => (if y278.length + x1.length < 17592186044416 then ((quorumiteref9_Sort.f (y278 ++ x1)).bind fun t284 => ((quorumiteref9_SameList.f k t272 t284).bind fun t287 => (some t287))) else (none))) else (none)))) else (some false))))) else (some false))) else (some false)) else (some false)))) else (some false)))) else (some false))
end
def quorumitelaw9_OrderAsks.f (k : Nat) (l0 : List Int) (l1 : List Int) (a2 : Int) (a3 : Int) : Option (Bool) := if (l0.length : Int) > 40 then (quorumitelaw9_OrderAsks.j0 k l0 l1 a2 a3 true) else (quorumitelaw9_OrderAsks.j0 k l0 l1 a2 a3 (decide ((l1.length : Int) > 40)))
theorem quorumitelaw9_OrderAsks.mono_l : ∀ k, (∀ y0 y1 y2 y3 y4, LeO (quorumitelaw9_OrderAsks.j0 k y0 y1 y2 y3 y4) (quorumitelaw9_OrderAsks.j0 (k + 1) y0 y1 y2 y3 y4)) ∧ (∀ y0 y1 y2 y3 y4 y5 y6 y7, LeO (quorumitelaw9_OrderAsks.j1 k y0 y1 y2 y3 y4 y5 y6 y7) (quorumitelaw9_OrderAsks.j1 (k + 1) y0 y1 y2 y3 y4 y5 y6 y7))
  | 0 => ⟨fun _ _ _ _ _ r h => by simp [quorumitelaw9_OrderAsks.j0] at h, fun _ _ _ _ _ _ _ _ r h => by simp [quorumitelaw9_OrderAsks.j1] at h⟩
  | k + 1 => by
    obtain ⟨ih0, ih1⟩ := quorumitelaw9_OrderAsks.mono_l k
    refine ⟨?_, ?_⟩
    · intro y0 y1 y2 y3 y4
      unfold quorumitelaw9_OrderAsks.j0
      repeat' first
      | (with_reducible exact ih0 _ _ _ _ _)
      | (with_reducible exact ih1 _ _ _ _ _ _ _ _)
      | (with_reducible exact order_At.mono _ _ _)
      | (with_reducible exact order_Rank.mono _ _ _)
      | (with_reducible exact order_Same.mono _ _ _)
      | (with_reducible exact order_Sort.mono _ _)
      | (with_reducible exact order_Union.mono _ _ _)
      | (with_reducible exact quorumitelaw9_told.mono _)
      | (with_reducible exact quorumiteref9_Rank.mono _ _ _)
      | (with_reducible exact quorumiteref9_SameList.mono _ _ _)
      | (with_reducible exact LeO.refl _)
      | (with_reducible exact LeO.none _)
      | (with_reducible refine LeO.ite ?_ ?_)
      | (with_reducible refine LeO.bind ?_ (fun _ => ?_))
      | exact ih0 _ _ _ _ _
      | exact ih1 _ _ _ _ _ _ _ _
      | exact order_At.mono _ _ _
      | exact order_Rank.mono _ _ _
      | exact order_Same.mono _ _ _
      | exact order_Sort.mono _ _
      | exact order_Union.mono _ _ _
      | exact quorumitelaw9_told.mono _
      | exact quorumiteref9_Rank.mono _ _ _
      | exact quorumiteref9_SameList.mono _ _ _
      | exact LeO.none _
      | refine LeO.ite ?_ ?_
      | refine LeO.bind ?_ (fun _ => ?_)
    · intro y0 y1 y2 y3 y4 y5 y6 y7
      unfold quorumitelaw9_OrderAsks.j1
      repeat' first
      | (with_reducible exact ih0 _ _ _ _ _)
      | (with_reducible exact ih1 _ _ _ _ _ _ _ _)
      | (with_reducible exact order_At.mono _ _ _)
      | (with_reducible exact order_Rank.mono _ _ _)
      | (with_reducible exact order_Same.mono _ _ _)
      | (with_reducible exact order_Sort.mono _ _)
      | (with_reducible exact order_Union.mono _ _ _)
      | (with_reducible exact quorumitelaw9_told.mono _)
      | (with_reducible exact quorumiteref9_Rank.mono _ _ _)
      | (with_reducible exact quorumiteref9_SameList.mono _ _ _)
      | (with_reducible exact LeO.refl _)
      | (with_reducible exact LeO.none _)
      | (with_reducible refine LeO.ite ?_ ?_)
      | (with_reducible refine LeO.bind ?_ (fun _ => ?_))
      | exact ih0 _ _ _ _ _
      | exact ih1 _ _ _ _ _ _ _ _
      | exact order_At.mono _ _ _
      | exact order_Rank.mono _ _ _
      | exact order_Same.mono _ _ _
      | exact order_Sort.mono _ _
      | exact order_Union.mono _ _ _
      | exact quorumitelaw9_told.mono _
      | exact quorumiteref9_Rank.mono _ _ _
      | exact quorumiteref9_SameList.mono _ _ _
      | exact LeO.none _
      | refine LeO.ite ?_ ?_
      | refine LeO.bind ?_ (fun _ => ?_)
theorem quorumitelaw9_OrderAsks.mono : ∀ a0 a1 a2 a3 k, LeO (quorumitelaw9_OrderAsks.f k a0 a1 a2 a3) (quorumitelaw9_OrderAsks.f (k + 1) a0 a1 a2 a3) := by
  intro a0 a1 a2 a3 k
  obtain ⟨ih0, ih1⟩ := quorumitelaw9_OrderAsks.mono_l k
  unfold quorumitelaw9_OrderAsks.f
  repeat' first
      | (with_reducible exact ih0 _ _ _ _ _)
      | (with_reducible exact ih1 _ _ _ _ _ _ _ _)
      | (with_reducible exact order_At.mono _ _ _)
      | (with_reducible exact order_Rank.mono _ _ _)
      | (with_reducible exact order_Same.mono _ _ _)
      | (with_reducible exact order_Sort.mono _ _)
      | (with_reducible exact order_Union.mono _ _ _)
      | (with_reducible exact quorumitelaw9_told.mono _)
      | (with_reducible exact quorumiteref9_Rank.mono _ _ _)
      | (with_reducible exact quorumiteref9_SameList.mono _ _ _)
      | (with_reducible exact LeO.refl _)
      | (with_reducible exact LeO.none _)
      | (with_reducible refine LeO.ite ?_ ?_)
      | (with_reducible refine LeO.bind ?_ (fun _ => ?_))
      | exact ih0 _ _ _ _ _
      | exact ih1 _ _ _ _ _ _ _ _
      | exact order_At.mono _ _ _
      | exact order_Rank.mono _ _ _
      | exact order_Same.mono _ _ _
      | exact order_Sort.mono _ _
      | exact order_Union.mono _ _ _
      | exact quorumitelaw9_told.mono _
      | exact quorumiteref9_Rank.mono _ _ _
      | exact quorumiteref9_SameList.mono _ _ _
      | exact LeO.none _
      | refine LeO.ite ?_ ?_
      | refine LeO.bind ?_ (fun _ => ?_)
set_option maxHeartbeats 8000000 in
set_option maxRecDepth 100000 in
theorem quorumitelaw9_OrderAsks.calls (k : Nat) (A0 : Option Addr) (c0 : Nat) (l0 : List Int) (A1 : Option Addr) (c1 : Nat) (l1 : List Int) (a2 : Int) (a3 : Int) (r : Bool) (w : World) (hr0 : Kd.C (Kd.int .i64) w A0 l0.length l0) (hc0 : l0.length ≤ c0) (hr1 : Kd.C (Kd.int .i64) w A1 l1.length l1) (hc1 : l1.length ≤ c1) (hrt : r = true) (h : quorumitelaw9_OrderAsks.f k l0 l1 a2 a3 = some r) :
    Calls Try.prog 4 #[.slice A0 l0.length c0, .slice A1 l1.length c1, .int .i64 a2, .int .i64 a3] w fun e w' => e = .returned (.bool r) ∧ Below w.heap.size w w' := by
  have HRT := Aside0.mk hrt
  clear hrt
  have HR0 := Aside0.mk hr0
  have HC0 := Aside0.mk hc0
  clear hr0 hc0
  have HR1 := Aside0.mk hr1
  have HC1 := Aside0.mk hc1
  clear hr1 hc1
  have HB := Aside0.mk (Below.refl w.heap.size w)
  have H : (if (l0.length : Int) > 40 then (quorumitelaw9_OrderAsks.j0 k l0 l1 a2 a3 true) else (quorumitelaw9_OrderAsks.j0 k l0 l1 a2 a3 (decide ((l1.length : Int) > 40)))) = some r := h
  clear h
  have HC5 := Aside0.mk H
  clear H
  go_enter Try.func4, Try.ntmps4
  go_upto_region 1 with (fail)
  go_cut [20] (fun v20 wc => ∃ (kq : Nat) (x20_4 : Bool), v20 = .bool x20_4 ∧ Aside0 (quorumitelaw9_OrderAsks.j0 kq l0 l1 a2 a3 x20_4 = some r) ∧ Aside0 (kq ≤ k) ∧ Aside0 (Below w.heap.size w wc))
  case first =>
    have H := HC5.out
    clear HC5
    by_cases c6 : (l0.length : Int) > 40
    · rw [if_pos c6] at H
      have c6b0 : decide (40 < (l0.length : Int)) = true := decide_eq_true c6
      have c6b1 : decide (40 < l0.length) = true := decide_eq_true (by omega)
      clear c6
      (first | rw [c6b0] | (simp only [i64_w, i32_w]; rw [c6b0]) | skip)
      have H' := Aside0.mk H
      clear H
      go_wp2
      go_meet
      case rel => exact ⟨_, (true), (by first | rfl | (simp; done) | (simp [*]; done)), H', ⟨by first | omega | exact Nat.le_refl _⟩, ⟨by repeat (first | (with_reducible first | exact HB.out | apply below_alloc | apply pw_below_drewN | apply below_drew1) | exact HB.out)⟩⟩
    · rw [if_neg c6] at H
      have c6b0 : decide (40 < (l0.length : Int)) = false := decide_eq_false c6
      have c6b1 : decide (40 < l0.length) = false := decide_eq_false (by omega)
      clear c6
      (first | rw [c6b0] | (simp only [i64_w, i32_w]; rw [c6b0]) | skip)
      have H' := Aside0.mk H
      clear H
      go_wp2
      go_meet
      case rel => exact ⟨_, (decide ((l1.length : Int) > 40)), (by first | rfl | (simp; done) | (simp [*]; done)), H', ⟨by first | omega | exact Nat.le_refl _⟩, ⟨by repeat (first | (with_reducible first | exact HB.out | apply below_alloc | apply pw_below_drewN | apply below_drew1) | exact HB.out)⟩⟩
  case rest =>
    clear HC5
    try clear c1
    try clear p2
    try clear c4
    try clear c6
    try clear c6b0
    try clear c6b1
    obtain ⟨kq, x20_4, rfl, HA, HJ4, HB⟩ := hcut
    cases kq with
    | zero => exact absurd HA.out (by simp [quorumitelaw9_OrderAsks.j0])
    | succ kj4 =>
      have H := HA.out
      clear HA
      simp only [quorumitelaw9_OrderAsks.j0] at H
      by_cases c7 : x20_4 = true
      · subst c7
        have H1 : ((quorumitelaw9_told.f kj4).bind fun t232 => (some t232)) = some r := by rw [if_pos rfl] at H; exact H
        clear H
        have H := H1
        clear H1
        replace H := Option.bind_eq_some_iff.mp H
        obtain ⟨t232, A80, H⟩ := H
        replace H : (some t232) = some r := H
        have A8 := Aside0.mk A80
        clear A80
        obtain rfl := Option.some.inj H
        (try simp only [@List.append_eq Oper, @List.cons_append Oper, @List.nil_append Oper] at *)
        go_wp2_with (first | ((with_reducible refine gate_callee (f := 17) rfl ?_); refine goesL_ (some 21) rfl rfl Try.func17 (by kernel_rfl) rfl #[] rfl (by (try simp only [List.map_toArray, List.map_cons, List.map_nil]); first | done | rfl | (simp only [List.length_drop, List.length_take]; rfl)) ?_; (with_reducible refine (quorumitelaw9_told.calls kj4  t232 _ A8.out).mono ?_); rintro e w9 ⟨rfl, hb⟩; refine ⟨_, rfl, ?_⟩; have n0_ := Aside0.mk (below_step (by repeat (first | (with_reducible first | exact HB.out | apply below_alloc | apply pw_below_drewN | apply below_drew1) | exact HB.out)) hb); clear HB; have HB := n0_; clear n0_; (try clear hb); (try clear hb2); (try clear hk); (try clear hi)))
        go_ret
        exact ⟨by first | rfl | (simp [errW_none, errW_some] <;> rfl) | (simp [*, errW_none, errW_some] <;> rfl), by repeat (first | (with_reducible first | exact HB.out | apply below_alloc | apply pw_below_drewN | apply below_drew1) | exact HB.out)⟩
      · replace c7 := Bool.eq_false_iff.mpr c7
        subst c7
        have H1 : ((quorumiteref9_Sort.f l0).bind fun t233 => ((order_At.f kj4 l0 a3).bind fun bt236 => (if a3 ≥ 0 then (quorumitelaw9_OrderAsks.j1 kj4 l0 l1 a2 a3 t233 bt236.1 bt236.2 (decide (a3 < (l0.length : Int)))) else (quorumitelaw9_OrderAsks.j1 kj4 l0 l1 a2 a3 t233 bt236.1 bt236.2 false)))) = some r := by rw [if_neg (show ¬ (false = true) by decide)] at H; exact H
        clear H
        have H := H1
        clear H1
        replace H := Option.bind_eq_some_iff.mp H
        obtain ⟨t233, A100, H⟩ := H
        replace H : ((order_At.f kj4 l0 a3).bind fun bt236 => (if a3 ≥ 0 then (quorumitelaw9_OrderAsks.j1 kj4 l0 l1 a2 a3 t233 bt236.1 bt236.2 (decide (a3 < (l0.length : Int)))) else (quorumitelaw9_OrderAsks.j1 kj4 l0 l1 a2 a3 t233 bt236.1 bt236.2 false))) = some r := H
        have A10 := Aside0.mk A100
        clear A100
        replace H := Option.bind_eq_some_iff.mp H
        obtain ⟨⟨t236, t237⟩, A110, H⟩ := H
        replace H : (if a3 ≥ 0 then (quorumitelaw9_OrderAsks.j1 kj4 l0 l1 a2 a3 t233 t236 t237 (decide (a3 < (l0.length : Int)))) else (quorumitelaw9_OrderAsks.j1 kj4 l0 l1 a2 a3 t233 t236 t237 false)) = some r := H
        have A11 := Aside0.mk A110
        clear A110
        have HC12 := Aside0.mk H
        clear H
        go_upto_region 5 with (first | ((with_reducible refine gate_callee (f := 20) rfl ?_); refine goesL_ (some 23) rfl rfl Try.func20 (by kernel_rfl) rfl #[.slice A0 l0.length c0] rfl (by (try simp only [List.map_toArray, List.map_cons, List.map_nil]); first | done | rfl | (simp only [List.length_drop, List.length_take]; rfl)) ?_; (with_reducible refine (quorumiteref9_Sort.calls _ _ l0 t233 _ ?side1 ?side2 A10.out).mono ?_); (case side1 => repeat (first | exact (Kd.C_below HR0.out HB.out) | (with_reducible refine Kd.C_alloc ?_ _) | (with_reducible refine Kd.C_drewN ?_ _) | (with_reducible refine Kd.C_drew ?_))); (case side2 => exact HC0.out); rintro e w13 ⟨v234, rfl, ho0, hb⟩; refine ⟨_, rfl, ?_⟩; have n0_ := Aside0.mk (Kd.R_lower ho0 (below_size (by repeat (first | (with_reducible first | exact HB.out | apply below_alloc | apply pw_below_drewN | apply below_drew1) | exact HB.out)))); have n1_ := Aside0.mk (below_step (by repeat (first | (with_reducible first | exact HB.out | apply below_alloc | apply pw_below_drewN | apply below_drew1) | exact HB.out)) hb); clear HB; have HO235 := n0_; have HB := n1_; clear n0_ n1_; (try clear hb); (try clear hb2); (try clear hk); (try clear hi); (try clear ho0)) | ((with_reducible refine gate_callee (f := 21) rfl ?_); refine goesL_ (some 27) rfl rfl Try.func21 (by kernel_rfl) rfl #[.slice A0 l0.length c0, .int .i64 a3] rfl (by (try simp only [List.map_toArray, List.map_cons, List.map_nil]); first | done | rfl | (simp only [List.length_drop, List.length_take]; rfl)) ?_; (with_reducible refine (order_At.calls kj4 _ _ l0 a3 t236 t237 _ ?side1 ?side2 A11.out).mono ?_); (case side1 => repeat (first | exact (Kd.C_below HR0.out HB.out) | (with_reducible refine Kd.C_alloc ?_ _) | (with_reducible refine Kd.C_drewN ?_ _) | (with_reducible refine Kd.C_drew ?_))); (case side2 => exact HC0.out); rintro e w14 ⟨rfl, hb⟩; refine ⟨_, rfl, ?_⟩; have n0_ := Aside0.mk (Kd.R_below (by (with_reducible repeat (first | apply Kd.R_alloc | apply Kd.R_drewN | apply Kd.R_drew)); exact HO235.out) hb); have n1_ := Aside0.mk (below_step (by repeat (first | (with_reducible first | exact HB.out | apply below_alloc | apply pw_below_drewN | apply below_drew1) | exact HB.out)) hb); clear HO235; clear HB; have HO235 := n0_; have HB := n1_; clear n0_ n1_; (try clear hb); (try clear hb2); (try clear hk); (try clear hi)))
        (try simp only [Act.put, List.setIfInBounds_toArray, List.set_cons_zero, List.set_cons_succ])
        go_cut [12] (fun v12 wc => ∃ (kq : Nat) (x12_11 : Bool), v12 = .bool x12_11 ∧ Aside0 (quorumitelaw9_OrderAsks.j1 kq l0 l1 a2 a3 t233 t236 t237 x12_11 = some r) ∧ Aside0 (kq ≤ kj4) ∧ Aside0 (Kd.R (Kd.int .i64) 2 wc w.heap.size (fun _ => True) v234 t233) ∧ Aside0 (Below w.heap.size w wc))
        case first =>
          have H := HC12.out
          clear HC12
          by_cases c15 : a3 ≥ 0
          · rw [if_pos c15] at H
            have c15b0 : decide (0 ≤ a3) = true := decide_eq_true c15
            clear c15
            (first | rw [c15b0] | (simp only [i64_w, i32_w]; rw [c15b0]) | skip)
            have H' := Aside0.mk H
            clear H
            go_wp2
            go_meet
            case rel => exact ⟨_, (decide (a3 < (l0.length : Int))), (by first | rfl | (simp; done) | (simp [*]; done)), H', ⟨by have := HJ4.out; first | omega | exact Nat.le_refl _⟩, ⟨by (with_reducible repeat (first | apply Kd.R_alloc | apply Kd.R_drewN | apply Kd.R_drew)); exact HO235.out⟩, ⟨by repeat (first | (with_reducible first | exact HB.out | apply below_alloc | apply pw_below_drewN | apply below_drew1) | exact HB.out)⟩⟩
          · rw [if_neg c15] at H
            have c15b0 : decide (0 ≤ a3) = false := decide_eq_false c15
            clear c15
            (first | rw [c15b0] | (simp only [i64_w, i32_w]; rw [c15b0]) | skip)
            have H' := Aside0.mk H
            clear H
            go_wp2
            go_meet
            case rel => exact ⟨_, (false), (by first | rfl | (simp; done) | (simp [*]; done)), H', ⟨by have := HJ4.out; first | omega | exact Nat.le_refl _⟩, ⟨by (with_reducible repeat (first | apply Kd.R_alloc | apply Kd.R_drewN | apply Kd.R_drew)); exact HO235.out⟩, ⟨by repeat (first | (with_reducible first | exact HB.out | apply below_alloc | apply pw_below_drewN | apply below_drew1) | exact HB.out)⟩⟩
        case rest =>
          clear HC12
          try clear c1
          try clear c2
          try clear p2
          try clear c4
          try clear c6
          try clear c6b0
          try clear c6b1
          try clear c7
          try clear c15
          try clear c15b0
          try clear p2
          obtain ⟨kq, x12_11, rfl, HA, HJ11, HO_9, HB⟩ := hcut
          cases kq with
          | zero => exact absurd HA.out (by simp [quorumitelaw9_OrderAsks.j1])
          | succ kj11 =>
            have H := HA.out
            clear HA
            simp only [quorumitelaw9_OrderAsks.j1] at H
            replace H := Option.bind_eq_some_iff.mp H
            obtain ⟨t238, A160, H⟩ := H
            replace H : (if t238 = true then ((order_Sort.f kj11 l0).bind fun t239 => ((quorumiteref9_SameList.f kj11 t239 t233).bind fun t242 => (if t242 = true then ((order_Rank.f kj11 l0 a2).bind fun t243 => ((quorumiteref9_Rank.f kj11 l0 a2).bind fun t244 => (if t243 = t244 then (if (t237 == x12_11) = true then (if x12_11 = true then (if 0 ≤ (mn (mx a3 0) (mx (wrap64 ((t233.length : Int) - 1)) 0)) then (if (mn (mx a3 0) (mx (wrap64 ((t233.length : Int) - 1)) 0)) < (t233.length : Int) then (if t236 = (rd t233 (mn (mx a3 0) (mx (wrap64 ((t233.length : Int) - 1)) 0))) then ((order_Same.f kj11 l0 l1).bind fun t246 => ((quorumiteref9_Sort.f l1).bind fun t247 => ((quorumiteref9_SameList.f kj11 t233 t247).bind fun t250 => (if (t246 == t250) = true then ((order_Union.f kj11 l0 l1).bind fun t251 => ((some (([] : List Int) : List Int)).bind fun y254 => (if y254.length + l0.length < 17592186044416 then ((some (y254 ++ l0 : List Int)).bind fun y257 => (if y257.length + l1.length < 17592186044416 then ((quorumiteref9_Sort.f (y257 ++ l1)).bind fun t263 => ((quorumiteref9_SameList.f kj11 t251 t263).bind fun t266 => (some t266))) else (none))) else (none)))) else (some false))))) else (some false)) else (none)) else (none)) else (if t236 = 0 then ((order_Same.f kj11 l0 l1).bind fun t267 => ((quorumiteref9_Sort.f l1).bind fun t268 => ((quorumiteref9_SameList.f kj11 t233 t268).bind fun t271 => (if (t267 == t271) = true then ((order_Union.f kj11 l0 l1).bind fun t272 => ((some (([] : List Int) : List Int)).bind fun y275 => (if y275.length + l0.length < 17592186044416 then ((some (y275 ++ l0 : List Int)).bind fun y278 => (if y278.length + l1.length < 17592186044416 then ((quorumiteref9_Sort.f (y278 ++ l1)).bind fun t284 => ((quorumiteref9_SameList.f kj11 t272 t284).bind fun t287 => (some t287))) else (none))) else (none)))) else (some false))))) else (some false))) else (some false)) else (some false)))) else (some false)))) else (some false)) = some r := H
            have A16 := Aside0.mk A160
            clear A160
            by_cases c17 : t238 = true
            · subst c17
              have H1 : ((order_Sort.f kj11 l0).bind fun t239 => ((quorumiteref9_SameList.f kj11 t239 t233).bind fun t242 => (if t242 = true then ((order_Rank.f kj11 l0 a2).bind fun t243 => ((quorumiteref9_Rank.f kj11 l0 a2).bind fun t244 => (if t243 = t244 then (if (t237 == x12_11) = true then (if x12_11 = true then (if 0 ≤ (mn (mx a3 0) (mx (wrap64 ((t233.length : Int) - 1)) 0)) then (if (mn (mx a3 0) (mx (wrap64 ((t233.length : Int) - 1)) 0)) < (t233.length : Int) then (if t236 = (rd t233 (mn (mx a3 0) (mx (wrap64 ((t233.length : Int) - 1)) 0))) then ((order_Same.f kj11 l0 l1).bind fun t246 => ((quorumiteref9_Sort.f l1).bind fun t247 => ((quorumiteref9_SameList.f kj11 t233 t247).bind fun t250 => (if (t246 == t250) = true then ((order_Union.f kj11 l0 l1).bind fun t251 => ((some (([] : List Int) : List Int)).bind fun y254 => (if y254.length + l0.length < 17592186044416 then ((some (y254 ++ l0 : List Int)).bind fun y257 => (if y257.length + l1.length < 17592186044416 then ((quorumiteref9_Sort.f (y257 ++ l1)).bind fun t263 => ((quorumiteref9_SameList.f kj11 t251 t263).bind fun t266 => (some t266))) else (none))) else (none)))) else (some false))))) else (some false)) else (none)) else (none)) else (if t236 = 0 then ((order_Same.f kj11 l0 l1).bind fun t267 => ((quorumiteref9_Sort.f l1).bind fun t268 => ((quorumiteref9_SameList.f kj11 t233 t268).bind fun t271 => (if (t267 == t271) = true then ((order_Union.f kj11 l0 l1).bind fun t272 => ((some (([] : List Int) : List Int)).bind fun y275 => (if y275.length + l0.length < 17592186044416 then ((some (y275 ++ l0 : List Int)).bind fun y278 => (if y278.length + l1.length < 17592186044416 then ((quorumiteref9_Sort.f (y278 ++ l1)).bind fun t284 => ((quorumiteref9_SameList.f kj11 t272 t284).bind fun t287 => (some t287))) else (none))) else (none)))) else (some false))))) else (some false))) else (some false)) else (some false)))) else (some false)))) = some r := by rw [if_pos rfl] at H; exact H
              clear H
              have H := H1
              clear H1
              replace H := Option.bind_eq_some_iff.mp H
              obtain ⟨t239, A180, H⟩ := H
              replace H : ((quorumiteref9_SameList.f kj11 t239 t233).bind fun t242 => (if t242 = true then ((order_Rank.f kj11 l0 a2).bind fun t243 => ((quorumiteref9_Rank.f kj11 l0 a2).bind fun t244 => (if t243 = t244 then (if (t237 == x12_11) = true then (if x12_11 = true then (if 0 ≤ (mn (mx a3 0) (mx (wrap64 ((t233.length : Int) - 1)) 0)) then (if (mn (mx a3 0) (mx (wrap64 ((t233.length : Int) - 1)) 0)) < (t233.length : Int) then (if t236 = (rd t233 (mn (mx a3 0) (mx (wrap64 ((t233.length : Int) - 1)) 0))) then ((order_Same.f kj11 l0 l1).bind fun t246 => ((quorumiteref9_Sort.f l1).bind fun t247 => ((quorumiteref9_SameList.f kj11 t233 t247).bind fun t250 => (if (t246 == t250) = true then ((order_Union.f kj11 l0 l1).bind fun t251 => ((some (([] : List Int) : List Int)).bind fun y254 => (if y254.length + l0.length < 17592186044416 then ((some (y254 ++ l0 : List Int)).bind fun y257 => (if y257.length + l1.length < 17592186044416 then ((quorumiteref9_Sort.f (y257 ++ l1)).bind fun t263 => ((quorumiteref9_SameList.f kj11 t251 t263).bind fun t266 => (some t266))) else (none))) else (none)))) else (some false))))) else (some false)) else (none)) else (none)) else (if t236 = 0 then ((order_Same.f kj11 l0 l1).bind fun t267 => ((quorumiteref9_Sort.f l1).bind fun t268 => ((quorumiteref9_SameList.f kj11 t233 t268).bind fun t271 => (if (t267 == t271) = true then ((order_Union.f kj11 l0 l1).bind fun t272 => ((some (([] : List Int) : List Int)).bind fun y275 => (if y275.length + l0.length < 17592186044416 then ((some (y275 ++ l0 : List Int)).bind fun y278 => (if y278.length + l1.length < 17592186044416 then ((quorumiteref9_Sort.f (y278 ++ l1)).bind fun t284 => ((quorumiteref9_SameList.f kj11 t272 t284).bind fun t287 => (some t287))) else (none))) else (none)))) else (some false))))) else (some false))) else (some false)) else (some false)))) else (some false))) = some r := H
              have A18 := Aside0.mk A180
              clear A180
              replace H := Option.bind_eq_some_iff.mp H
              obtain ⟨t242, A190, H⟩ := H
              replace H : (if t242 = true then ((order_Rank.f kj11 l0 a2).bind fun t243 => ((quorumiteref9_Rank.f kj11 l0 a2).bind fun t244 => (if t243 = t244 then (if (t237 == x12_11) = true then (if x12_11 = true then (if 0 ≤ (mn (mx a3 0) (mx (wrap64 ((t233.length : Int) - 1)) 0)) then (if (mn (mx a3 0) (mx (wrap64 ((t233.length : Int) - 1)) 0)) < (t233.length : Int) then (if t236 = (rd t233 (mn (mx a3 0) (mx (wrap64 ((t233.length : Int) - 1)) 0))) then ((order_Same.f kj11 l0 l1).bind fun t246 => ((quorumiteref9_Sort.f l1).bind fun t247 => ((quorumiteref9_SameList.f kj11 t233 t247).bind fun t250 => (if (t246 == t250) = true then ((order_Union.f kj11 l0 l1).bind fun t251 => ((some (([] : List Int) : List Int)).bind fun y254 => (if y254.length + l0.length < 17592186044416 then ((some (y254 ++ l0 : List Int)).bind fun y257 => (if y257.length + l1.length < 17592186044416 then ((quorumiteref9_Sort.f (y257 ++ l1)).bind fun t263 => ((quorumiteref9_SameList.f kj11 t251 t263).bind fun t266 => (some t266))) else (none))) else (none)))) else (some false))))) else (some false)) else (none)) else (none)) else (if t236 = 0 then ((order_Same.f kj11 l0 l1).bind fun t267 => ((quorumiteref9_Sort.f l1).bind fun t268 => ((quorumiteref9_SameList.f kj11 t233 t268).bind fun t271 => (if (t267 == t271) = true then ((order_Union.f kj11 l0 l1).bind fun t272 => ((some (([] : List Int) : List Int)).bind fun y275 => (if y275.length + l0.length < 17592186044416 then ((some (y275 ++ l0 : List Int)).bind fun y278 => (if y278.length + l1.length < 17592186044416 then ((quorumiteref9_Sort.f (y278 ++ l1)).bind fun t284 => ((quorumiteref9_SameList.f kj11 t272 t284).bind fun t287 => (some t287))) else (none))) else (none)))) else (some false))))) else (some false))) else (some false)) else (some false)))) else (some false)) = some r := H
              have A19 := Aside0.mk A190
              clear A190
              by_cases c20 : t242 = true
              · subst c20
                have H1 : ((order_Rank.f kj11 l0 a2).bind fun t243 => ((quorumiteref9_Rank.f kj11 l0 a2).bind fun t244 => (if t243 = t244 then (if (t237 == x12_11) = true then (if x12_11 = true then (if 0 ≤ (mn (mx a3 0) (mx (wrap64 ((t233.length : Int) - 1)) 0)) then (if (mn (mx a3 0) (mx (wrap64 ((t233.length : Int) - 1)) 0)) < (t233.length : Int) then (if t236 = (rd t233 (mn (mx a3 0) (mx (wrap64 ((t233.length : Int) - 1)) 0))) then ((order_Same.f kj11 l0 l1).bind fun t246 => ((quorumiteref9_Sort.f l1).bind fun t247 => ((quorumiteref9_SameList.f kj11 t233 t247).bind fun t250 => (if (t246 == t250) = true then ((order_Union.f kj11 l0 l1).bind fun t251 => ((some (([] : List Int) : List Int)).bind fun y254 => (if y254.length + l0.length < 17592186044416 then ((some (y254 ++ l0 : List Int)).bind fun y257 => (if y257.length + l1.length < 17592186044416 then ((quorumiteref9_Sort.f (y257 ++ l1)).bind fun t263 => ((quorumiteref9_SameList.f kj11 t251 t263).bind fun t266 => (some t266))) else (none))) else (none)))) else (some false))))) else (some false)) else (none)) else (none)) else (if t236 = 0 then ((order_Same.f kj11 l0 l1).bind fun t267 => ((quorumiteref9_Sort.f l1).bind fun t268 => ((quorumiteref9_SameList.f kj11 t233 t268).bind fun t271 => (if (t267 == t271) = true then ((order_Union.f kj11 l0 l1).bind fun t272 => ((some (([] : List Int) : List Int)).bind fun y275 => (if y275.length + l0.length < 17592186044416 then ((some (y275 ++ l0 : List Int)).bind fun y278 => (if y278.length + l1.length < 17592186044416 then ((quorumiteref9_Sort.f (y278 ++ l1)).bind fun t284 => ((quorumiteref9_SameList.f kj11 t272 t284).bind fun t287 => (some t287))) else (none))) else (none)))) else (some false))))) else (some false))) else (some false)) else (some false)))) = some r := by rw [if_pos rfl] at H; exact H
                clear H
                have H := H1
                clear H1
                replace H := Option.bind_eq_some_iff.mp H
                obtain ⟨t243, A210, H⟩ := H
                replace H : ((quorumiteref9_Rank.f kj11 l0 a2).bind fun t244 => (if t243 = t244 then (if (t237 == x12_11) = true then (if x12_11 = true then (if 0 ≤ (mn (mx a3 0) (mx (wrap64 ((t233.length : Int) - 1)) 0)) then (if (mn (mx a3 0) (mx (wrap64 ((t233.length : Int) - 1)) 0)) < (t233.length : Int) then (if t236 = (rd t233 (mn (mx a3 0) (mx (wrap64 ((t233.length : Int) - 1)) 0))) then ((order_Same.f kj11 l0 l1).bind fun t246 => ((quorumiteref9_Sort.f l1).bind fun t247 => ((quorumiteref9_SameList.f kj11 t233 t247).bind fun t250 => (if (t246 == t250) = true then ((order_Union.f kj11 l0 l1).bind fun t251 => ((some (([] : List Int) : List Int)).bind fun y254 => (if y254.length + l0.length < 17592186044416 then ((some (y254 ++ l0 : List Int)).bind fun y257 => (if y257.length + l1.length < 17592186044416 then ((quorumiteref9_Sort.f (y257 ++ l1)).bind fun t263 => ((quorumiteref9_SameList.f kj11 t251 t263).bind fun t266 => (some t266))) else (none))) else (none)))) else (some false))))) else (some false)) else (none)) else (none)) else (if t236 = 0 then ((order_Same.f kj11 l0 l1).bind fun t267 => ((quorumiteref9_Sort.f l1).bind fun t268 => ((quorumiteref9_SameList.f kj11 t233 t268).bind fun t271 => (if (t267 == t271) = true then ((order_Union.f kj11 l0 l1).bind fun t272 => ((some (([] : List Int) : List Int)).bind fun y275 => (if y275.length + l0.length < 17592186044416 then ((some (y275 ++ l0 : List Int)).bind fun y278 => (if y278.length + l1.length < 17592186044416 then ((quorumiteref9_Sort.f (y278 ++ l1)).bind fun t284 => ((quorumiteref9_SameList.f kj11 t272 t284).bind fun t287 => (some t287))) else (none))) else (none)))) else (some false))))) else (some false))) else (some false)) else (some false))) = some r := H
                have A21 := Aside0.mk A210
                clear A210
                replace H := Option.bind_eq_some_iff.mp H
                obtain ⟨t244, A220, H⟩ := H
                replace H : (if t243 = t244 then (if (t237 == x12_11) = true then (if x12_11 = true then (if 0 ≤ (mn (mx a3 0) (mx (wrap64 ((t233.length : Int) - 1)) 0)) then (if (mn (mx a3 0) (mx (wrap64 ((t233.length : Int) - 1)) 0)) < (t233.length : Int) then (if t236 = (rd t233 (mn (mx a3 0) (mx (wrap64 ((t233.length : Int) - 1)) 0))) then ((order_Same.f kj11 l0 l1).bind fun t246 => ((quorumiteref9_Sort.f l1).bind fun t247 => ((quorumiteref9_SameList.f kj11 t233 t247).bind fun t250 => (if (t246 == t250) = true then ((order_Union.f kj11 l0 l1).bind fun t251 => ((some (([] : List Int) : List Int)).bind fun y254 => (if y254.length + l0.length < 17592186044416 then ((some (y254 ++ l0 : List Int)).bind fun y257 => (if y257.length + l1.length < 17592186044416 then ((quorumiteref9_Sort.f (y257 ++ l1)).bind fun t263 => ((quorumiteref9_SameList.f kj11 t251 t263).bind fun t266 => (some t266))) else (none))) else (none)))) else (some false))))) else (some false)) else (none)) else (none)) else (if t236 = 0 then ((order_Same.f kj11 l0 l1).bind fun t267 => ((quorumiteref9_Sort.f l1).bind fun t268 => ((quorumiteref9_SameList.f kj11 t233 t268).bind fun t271 => (if (t267 == t271) = true then ((order_Union.f kj11 l0 l1).bind fun t272 => ((some (([] : List Int) : List Int)).bind fun y275 => (if y275.length + l0.length < 17592186044416 then ((some (y275 ++ l0 : List Int)).bind fun y278 => (if y278.length + l1.length < 17592186044416 then ((quorumiteref9_Sort.f (y278 ++ l1)).bind fun t284 => ((quorumiteref9_SameList.f kj11 t272 t284).bind fun t287 => (some t287))) else (none))) else (none)))) else (some false))))) else (some false))) else (some false)) else (some false)) = some r := H
                have A22 := Aside0.mk A220
                clear A220
                by_cases c23 : t243 = t244
                · rw [if_pos c23] at H
                  have c23b0 : (t243 == t244) = true := beq_iff_eq.mpr c23
                  have c23b1 : (t243 != t244) = false := bne_eq_false_iff_eq.mpr c23
                  clear c23
                  by_cases c24 : (t237 == x12_11) = true
                  · rw [if_pos c24] at H
                    have c24b0 : (t237 == x12_11) = true := c24
                    (try (have c24b1 : decide (t237 = x12_11) = true := by simpa using c24))
                    (try (have c24b2 : (t237 == x12_11) = true := by simpa using c24))
                    clear c24
                    by_cases c25 : x12_11 = true
                    · subst c25
                      have H1 : (if 0 ≤ (mn (mx a3 0) (mx (wrap64 ((t233.length : Int) - 1)) 0)) then (if (mn (mx a3 0) (mx (wrap64 ((t233.length : Int) - 1)) 0)) < (t233.length : Int) then (if t236 = (rd t233 (mn (mx a3 0) (mx (wrap64 ((t233.length : Int) - 1)) 0))) then ((order_Same.f kj11 l0 l1).bind fun t246 => ((quorumiteref9_Sort.f l1).bind fun t247 => ((quorumiteref9_SameList.f kj11 t233 t247).bind fun t250 => (if (t246 == t250) = true then ((order_Union.f kj11 l0 l1).bind fun t251 => ((some (([] : List Int) : List Int)).bind fun y254 => (if y254.length + l0.length < 17592186044416 then ((some (y254 ++ l0 : List Int)).bind fun y257 => (if y257.length + l1.length < 17592186044416 then ((quorumiteref9_Sort.f (y257 ++ l1)).bind fun t263 => ((quorumiteref9_SameList.f kj11 t251 t263).bind fun t266 => (some t266))) else (none))) else (none)))) else (some false))))) else (some false)) else (none)) else (none)) = some r := by rw [if_pos rfl] at H; exact H
                      clear H
                      have H := H1
                      clear H1
                      obtain ⟨ji26, hji26⟩ : ∃ j_ : Int, (mx a3 0) = j_ := ⟨_, rfl⟩
                      replace H : (if 0 ≤ (mn (ji26) (mx (wrap64 ((t233.length : Int) - 1)) 0)) then (if (mn (ji26) (mx (wrap64 ((t233.length : Int) - 1)) 0)) < (t233.length : Int) then (if t236 = (rd t233 (mn (ji26) (mx (wrap64 ((t233.length : Int) - 1)) 0))) then ((order_Same.f kj11 l0 l1).bind fun t246 => ((quorumiteref9_Sort.f l1).bind fun t247 => ((quorumiteref9_SameList.f kj11 t233 t247).bind fun t250 => (if (t246 == t250) = true then ((order_Union.f kj11 l0 l1).bind fun t251 => ((some (([] : List Int) : List Int)).bind fun y254 => (if y254.length + l0.length < 17592186044416 then ((some (y254 ++ l0 : List Int)).bind fun y257 => (if y257.length + l1.length < 17592186044416 then ((quorumiteref9_Sort.f (y257 ++ l1)).bind fun t263 => ((quorumiteref9_SameList.f kj11 t251 t263).bind fun t266 => (some t266))) else (none))) else (none)))) else (some false))))) else (some false)) else (none)) else (none)) = some r := by first | (rw [hji26] at H; exact H) | (simp only [hji26] at H ⊢; exact H)
                      (try rw [hji26] at A16)
                      (try rw [hji26] at A18)
                      (try rw [hji26] at A19)
                      (try rw [hji26] at A21)
                      (try rw [hji26] at A22)
                      have hji26_ : (if a3 < 0 then 0 else a3) = ji26 := hji26
                      obtain ⟨ji27, hji27⟩ : ∃ j_ : Int, (mx (wrap64 ((t233.length : Int) - 1)) 0) = j_ := ⟨_, rfl⟩
                      replace H : (if 0 ≤ (mn (ji26) (ji27)) then (if (mn (ji26) (ji27)) < (t233.length : Int) then (if t236 = (rd t233 (mn (ji26) (ji27))) then ((order_Same.f kj11 l0 l1).bind fun t246 => ((quorumiteref9_Sort.f l1).bind fun t247 => ((quorumiteref9_SameList.f kj11 t233 t247).bind fun t250 => (if (t246 == t250) = true then ((order_Union.f kj11 l0 l1).bind fun t251 => ((some (([] : List Int) : List Int)).bind fun y254 => (if y254.length + l0.length < 17592186044416 then ((some (y254 ++ l0 : List Int)).bind fun y257 => (if y257.length + l1.length < 17592186044416 then ((quorumiteref9_Sort.f (y257 ++ l1)).bind fun t263 => ((quorumiteref9_SameList.f kj11 t251 t263).bind fun t266 => (some t266))) else (none))) else (none)))) else (some false))))) else (some false)) else (none)) else (none)) = some r := by first | (rw [hji27] at H; exact H) | (simp only [hji27] at H ⊢; exact H)
                      (try rw [hji27] at A16)
                      (try rw [hji27] at A18)
                      (try rw [hji27] at A19)
                      (try rw [hji27] at A21)
                      (try rw [hji27] at A22)
                      have hji27_ : (if (wrap64 ((t233.length : Int) - 1)) < 0 then 0 else (wrap64 ((t233.length : Int) - 1))) = ji27 := hji27
                      obtain ⟨ji28, hji28⟩ : ∃ j_ : Int, (mn (ji26) (ji27)) = j_ := ⟨_, rfl⟩
                      replace H : (if 0 ≤ (ji28) then (if (ji28) < (t233.length : Int) then (if t236 = (rd t233 (ji28)) then ((order_Same.f kj11 l0 l1).bind fun t246 => ((quorumiteref9_Sort.f l1).bind fun t247 => ((quorumiteref9_SameList.f kj11 t233 t247).bind fun t250 => (if (t246 == t250) = true then ((order_Union.f kj11 l0 l1).bind fun t251 => ((some (([] : List Int) : List Int)).bind fun y254 => (if y254.length + l0.length < 17592186044416 then ((some (y254 ++ l0 : List Int)).bind fun y257 => (if y257.length + l1.length < 17592186044416 then ((quorumiteref9_Sort.f (y257 ++ l1)).bind fun t263 => ((quorumiteref9_SameList.f kj11 t251 t263).bind fun t266 => (some t266))) else (none))) else (none)))) else (some false))))) else (some false)) else (none)) else (none)) = some r := by first | (rw [hji28] at H; exact H) | (simp only [hji28] at H ⊢; exact H)
                      (try rw [hji28] at A16)
                      (try rw [hji28] at A18)
                      (try rw [hji28] at A19)
                      (try rw [hji28] at A21)
                      (try rw [hji28] at A22)
                      have hji28_ : (if (ji27) < (ji26) then (ji27) else (ji26)) = ji28 := hji28
                      by_cases c29 : 0 ≤ (ji28)
                      · rw [if_pos c29] at H
                        have c29b0 : decide (0 ≤ (ji28)) = true := decide_eq_true c29
                        clear c29
                        by_cases c30 : (ji28) < (t233.length : Int)
                        · rw [if_pos c30] at H
                          have c30b0 : decide ((ji28) < (t233.length : Int)) = true := decide_eq_true c30
                          clear c30
                          by_cases c31 : t236 = (rd t233 (ji28))
                          · rw [if_pos c31] at H
                            have c31b0 : (t236 == (rd t233 (ji28))) = true := beq_iff_eq.mpr c31
                            have c31b1 : (t236 != (rd t233 (ji28))) = false := bne_eq_false_iff_eq.mpr c31
                            clear c31
                            replace H := Option.bind_eq_some_iff.mp H
                            obtain ⟨t246, A320, H⟩ := H
                            replace H : ((quorumiteref9_Sort.f l1).bind fun t247 => ((quorumiteref9_SameList.f kj11 t233 t247).bind fun t250 => (if (t246 == t250) = true then ((order_Union.f kj11 l0 l1).bind fun t251 => ((some (([] : List Int) : List Int)).bind fun y254 => (if y254.length + l0.length < 17592186044416 then ((some (y254 ++ l0 : List Int)).bind fun y257 => (if y257.length + l1.length < 17592186044416 then ((quorumiteref9_Sort.f (y257 ++ l1)).bind fun t263 => ((quorumiteref9_SameList.f kj11 t251 t263).bind fun t266 => (some t266))) else (none))) else (none)))) else (some false)))) = some r := H
                            have A32 := Aside0.mk A320
                            clear A320
                            replace H := Option.bind_eq_some_iff.mp H
                            obtain ⟨t247, A330, H⟩ := H
                            replace H : ((quorumiteref9_SameList.f kj11 t233 t247).bind fun t250 => (if (t246 == t250) = true then ((order_Union.f kj11 l0 l1).bind fun t251 => ((some (([] : List Int) : List Int)).bind fun y254 => (if y254.length + l0.length < 17592186044416 then ((some (y254 ++ l0 : List Int)).bind fun y257 => (if y257.length + l1.length < 17592186044416 then ((quorumiteref9_Sort.f (y257 ++ l1)).bind fun t263 => ((quorumiteref9_SameList.f kj11 t251 t263).bind fun t266 => (some t266))) else (none))) else (none)))) else (some false))) = some r := H
                            have A33 := Aside0.mk A330
                            clear A330
                            replace H := Option.bind_eq_some_iff.mp H
                            obtain ⟨t250, A340, H⟩ := H
                            replace H : (if (t246 == t250) = true then ((order_Union.f kj11 l0 l1).bind fun t251 => ((some (([] : List Int) : List Int)).bind fun y254 => (if y254.length + l0.length < 17592186044416 then ((some (y254 ++ l0 : List Int)).bind fun y257 => (if y257.length + l1.length < 17592186044416 then ((quorumiteref9_Sort.f (y257 ++ l1)).bind fun t263 => ((quorumiteref9_SameList.f kj11 t251 t263).bind fun t266 => (some t266))) else (none))) else (none)))) else (some false)) = some r := H
                            have A34 := Aside0.mk A340
                            clear A340
                            by_cases c35 : (t246 == t250) = true
                            · rw [if_pos c35] at H
                              have c35b0 : (t246 == t250) = true := c35
                              (try (have c35b1 : decide (t246 = t250) = true := by simpa using c35))
                              (try (have c35b2 : (t246 == t250) = true := by simpa using c35))
                              clear c35
                              replace H := Option.bind_eq_some_iff.mp H
                              obtain ⟨t251, A360, H⟩ := H
                              replace H : ((some (([] : List Int) : List Int)).bind fun y254 => (if y254.length + l0.length < 17592186044416 then ((some (y254 ++ l0 : List Int)).bind fun y257 => (if y257.length + l1.length < 17592186044416 then ((quorumiteref9_Sort.f (y257 ++ l1)).bind fun t263 => ((quorumiteref9_SameList.f kj11 t251 t263).bind fun t266 => (some t266))) else (none))) else (none))) = some r := H
                              have A36 := Aside0.mk A360
                              clear A360
                              obtain ⟨y254, hy254⟩ : ∃ y_ : List Int, y_ = (([] : List Int)) := ⟨_, rfl⟩
                              replace H : (if y254.length + l0.length < 17592186044416 then ((some (y254 ++ l0 : List Int)).bind fun y257 => (if y257.length + l1.length < 17592186044416 then ((quorumiteref9_Sort.f (y257 ++ l1)).bind fun t263 => ((quorumiteref9_SameList.f kj11 t251 t263).bind fun t266 => (some t266))) else (none))) else (none)) = some r := by first | (rw [hy254]; with_reducible exact H) | (have H2_ := (Option.bind_some _ _).symm.trans H; rw [hy254]; with_reducible exact H2_) | (have H2_ := (Option.bind_some _ _).symm.trans H; with_reducible exact H2_) | with_reducible exact H | (rw [hy254]; exact H) | exact H
                              have Ny254 := Aside0.mk hy254
                              clear hy254
                              by_cases c37 : y254.length + l0.length < 17592186044416
                              · rw [if_pos c37] at H
                                have LMc37 := Aside0.mk c37
                                clear c37
                                obtain ⟨y257, hy257⟩ : ∃ y_ : List Int, y_ = (y254 ++ l0) := ⟨_, rfl⟩
                                replace H : (if y257.length + l1.length < 17592186044416 then ((quorumiteref9_Sort.f (y257 ++ l1)).bind fun t263 => ((quorumiteref9_SameList.f kj11 t251 t263).bind fun t266 => (some t266))) else (none)) = some r := by first | (rw [hy257]; with_reducible exact H) | (have H2_ := (Option.bind_some _ _).symm.trans H; rw [hy257]; with_reducible exact H2_) | (have H2_ := (Option.bind_some _ _).symm.trans H; with_reducible exact H2_) | with_reducible exact H | (rw [hy257]; exact H) | exact H
                                have Ny257 := Aside0.mk hy257
                                clear hy257
                                by_cases c38 : y257.length + l1.length < 17592186044416
                                · rw [if_pos c38] at H
                                  have LMc38 := Aside0.mk c38
                                  clear c38
                                  obtain ⟨y260, hy260⟩ : ∃ y_ : List Int, y_ = (y257 ++ l1) := ⟨_, rfl⟩
                                  replace H : ((quorumiteref9_Sort.f y260).bind fun t263 => ((quorumiteref9_SameList.f kj11 t251 t263).bind fun t266 => (some t266))) = some r := by first | (rw [hy260]; with_reducible exact H) | (have H2_ := (Option.bind_some _ _).symm.trans H; rw [hy260]; with_reducible exact H2_) | (have H2_ := (Option.bind_some _ _).symm.trans H; with_reducible exact H2_) | with_reducible exact H | (rw [hy260]; exact H) | exact H
                                  have Ny260 := Aside0.mk hy260
                                  clear hy260
                                  replace H := Option.bind_eq_some_iff.mp H
                                  obtain ⟨t263, A390, H⟩ := H
                                  replace H : ((quorumiteref9_SameList.f kj11 t251 t263).bind fun t266 => (some t266)) = some r := H
                                  have A39 := Aside0.mk A390
                                  clear A390
                                  replace H := Option.bind_eq_some_iff.mp H
                                  obtain ⟨t266, A400, H⟩ := H
                                  replace H : (some t266) = some r := H
                                  have A40 := Aside0.mk A400
                                  clear A400
                                  obtain rfl := Option.some.inj H
                                  (try simp only [@List.append_eq Oper, @List.cons_append Oper, @List.nil_append Oper] at *)
                                  go_wp2_with (first | ((with_reducible refine gate_callee (f := 17) rfl ?_); refine goesL_ (some 38) rfl rfl Try.func17 (by kernel_rfl) rfl #[] rfl (by (try simp only [List.map_toArray, List.map_cons, List.map_nil]); first | done | rfl | (simp only [List.length_drop, List.length_take]; rfl)) ?_; (with_reducible refine (quorumitelaw9_told.calls kj11  true _ A16.out).mono ?_); rintro e w41 ⟨rfl, hb⟩; refine ⟨_, rfl, ?_⟩; have n0_ := Aside0.mk (Kd.R_below (by (with_reducible repeat (first | apply Kd.R_alloc | apply Kd.R_drewN | apply Kd.R_drew)); exact HO_9.out) hb); have n1_ := Aside0.mk (below_step (by repeat (first | (with_reducible first | exact HB.out | apply below_alloc | apply pw_below_drewN | apply below_drew1) | exact HB.out)) hb); clear HO_9; clear HB; have HO_9 := n0_; have HB := n1_; clear n0_ n1_; (try clear hb); (try clear hb2); (try clear hk); (try clear hi)) | (go_at_call 23; (with_reducible refine (order_Sort.calls kj11 _ _ l0 t239 _ ?side1 ?side2 A18.out).mono ?_); (case side1 => repeat (first | exact (Kd.C_below HR0.out HB.out) | (with_reducible refine Kd.C_alloc ?_ _) | (with_reducible refine Kd.C_drewN ?_ _) | (with_reducible refine Kd.C_drew ?_))); (case side2 => exact HC0.out); rintro e w42 ⟨v240, rfl, ho0, hb⟩; have n0_ := Aside0.mk (Kd.R_elder' (by (with_reducible repeat (first | apply Kd.R_alloc | apply Kd.R_drewN | apply Kd.R_drew)); exact HO_9.out) (Kd.R_base ho0) hb); have n1_ := Aside0.mk (Kd.R_lower (Kd.R_new' ho0 (Kd.R_lt (by (with_reducible repeat (first | apply Kd.R_alloc | apply Kd.R_drewN | apply Kd.R_drew)); exact HO_9.out))) (below_size (by repeat (first | (with_reducible first | exact HB.out | apply below_alloc | apply pw_below_drewN | apply below_drew1) | exact HB.out)))); have n2_ := Aside0.mk (below_step (by repeat (first | (with_reducible first | exact HB.out | apply below_alloc | apply pw_below_drewN | apply below_drew1) | exact HB.out)) hb); clear HO_9; clear HB; have HO_9 := n0_; have HO241 := n1_; have HB := n2_; clear n0_ n1_ n2_; (try clear hb); (try clear hb2); (try clear hk); (try clear hi); (try clear ho0); obtain ⟨Ao43, co43, eo43⟩ := Kd.R_slice HO241.out; subst eo43; obtain ⟨Ao44, co44, eo44⟩ := Kd.R_slice HO_9.out; subst eo44) | (go_at_call 22; (with_reducible refine (quorumiteref9_SameList.calls kj11 _ _ t239 _ _ t233 true _ ?side1 ?side2 ?side3 ?side4 A19.out).mono ?_); (case side1 => repeat (first | exact (Kd.R_reads' HO241.out).2.2 | (with_reducible refine Kd.C_alloc ?_ _) | (with_reducible refine Kd.C_drewN ?_ _) | (with_reducible refine Kd.C_drew ?_))); (case side2 => exact (Kd.R_reads' HO241.out).2.1); (case side3 => repeat (first | exact (Kd.R_reads' HO_9.out).2.2 | (with_reducible refine Kd.C_alloc ?_ _) | (with_reducible refine Kd.C_drewN ?_ _) | (with_reducible refine Kd.C_drew ?_))); (case side4 => exact (Kd.R_reads' HO_9.out).2.1); rintro e w' ⟨rfl, ⟨nd, rfl⟩⟩) | (go_at_call 24; (with_reducible refine (order_Rank.calls kj11 _ _ l0 a2 t243 _ ?side1 ?side2 A21.out).mono ?_); (case side1 => repeat (first | exact (Kd.C_below HR0.out (by repeat (first | (with_reducible first | exact HB.out | apply below_alloc | apply pw_below_drewN | apply below_drew1) | exact HB.out))) | (with_reducible refine Kd.C_alloc ?_ _) | (with_reducible refine Kd.C_drewN ?_ _) | (with_reducible refine Kd.C_drew ?_))); (case side2 => exact HC0.out); rintro e w' ⟨rfl, ⟨nd, rfl⟩⟩) | (go_at_call 25; (with_reducible refine (quorumiteref9_Rank.calls kj11 _ _ l0 a2 t244 _ ?side1 ?side2 A22.out).mono ?_); (case side1 => repeat (first | exact (Kd.C_below HR0.out (by repeat (first | (with_reducible first | exact HB.out | apply below_alloc | apply pw_below_drewN | apply below_drew1) | exact HB.out))) | (with_reducible refine Kd.C_alloc ?_ _) | (with_reducible refine Kd.C_drewN ?_ _) | (with_reducible refine Kd.C_drew ?_))); (case side2 => exact HC0.out); rintro e w' ⟨rfl, ⟨nd, rfl⟩⟩; have p245 : 0 ≤ ((ji28) : Int) := of_decide_eq_true (by first | (with_reducible assumption) | assumption); have q245 : (ji28) < (t233.length : Int) := of_decide_eq_true (by first | (with_reducible assumption) | assumption); obtain ⟨ad245, e245, hx245_0⟩ := Kd.at_int (Kd.R_reads' HO_9.out).2.2 (ji28) p245 q245; cases e245; replace p245 := eq_true p245; replace q245 := eq_true q245) | (go_at_call 19; (with_reducible refine (order_Same.calls kj11 _ _ l0 _ _ l1 t246 _ ?side1 ?side2 ?side3 ?side4 A32.out).mono ?_); (case side1 => repeat (first | exact (Kd.C_below HR0.out (by repeat (first | (with_reducible first | exact HB.out | apply below_alloc | apply pw_below_drewN | apply below_drew1) | exact HB.out))) | (with_reducible refine Kd.C_alloc ?_ _) | (with_reducible refine Kd.C_drewN ?_ _) | (with_reducible refine Kd.C_drew ?_))); (case side2 => exact HC0.out); (case side3 => repeat (first | exact (Kd.C_below HR1.out (by repeat (first | (with_reducible first | exact HB.out | apply below_alloc | apply pw_below_drewN | apply below_drew1) | exact HB.out))) | (with_reducible refine Kd.C_alloc ?_ _) | (with_reducible refine Kd.C_drewN ?_ _) | (with_reducible refine Kd.C_drew ?_))); (case side4 => exact HC1.out); rintro e w45 ⟨rfl, hb⟩; have n0_ := Aside0.mk (Kd.R_below (by (with_reducible repeat (first | apply Kd.R_alloc | apply Kd.R_drewN | apply Kd.R_drew)); exact HO_9.out) hb); have n1_ := Aside0.mk (Kd.R_below (by (with_reducible repeat (first | apply Kd.R_alloc | apply Kd.R_drewN | apply Kd.R_drew)); exact HO241.out) hb); have n2_ := Aside0.mk (below_step (by repeat (first | (with_reducible first | exact HB.out | apply below_alloc | apply pw_below_drewN | apply below_drew1) | exact HB.out)) hb); clear HO_9; clear HO241; clear HB; have HO_9 := n0_; have HO241 := n1_; have HB := n2_; clear n0_ n1_ n2_; (try clear hb); (try clear hb2); (try clear hk); (try clear hi)) | (go_at_call 20; (with_reducible refine (quorumiteref9_Sort.calls _ _ l1 t247 _ ?side1 ?side2 A33.out).mono ?_); (case side1 => repeat (first | exact (Kd.C_below HR1.out HB.out) | (with_reducible refine Kd.C_alloc ?_ _) | (with_reducible refine Kd.C_drewN ?_ _) | (with_reducible refine Kd.C_drew ?_))); (case side2 => exact HC1.out); rintro e w46 ⟨v248, rfl, ho0, hb⟩; have n0_ := Aside0.mk (Kd.R_elder' (by (with_reducible repeat (first | apply Kd.R_alloc | apply Kd.R_drewN | apply Kd.R_drew)); exact HO_9.out) (Kd.R_base ho0) hb); have n1_ := Aside0.mk (Kd.R_elder' (by (with_reducible repeat (first | apply Kd.R_alloc | apply Kd.R_drewN | apply Kd.R_drew)); exact HO241.out) (Kd.R_base ho0) hb); have n2_ := Aside0.mk (Kd.R_lower (Kd.R_new' (Kd.R_new' ho0 (Kd.R_lt (by (with_reducible repeat (first | apply Kd.R_alloc | apply Kd.R_drewN | apply Kd.R_drew)); exact HO_9.out))) (Kd.R_lt (by (with_reducible repeat (first | apply Kd.R_alloc | apply Kd.R_drewN | apply Kd.R_drew)); exact HO241.out))) (below_size (by repeat (first | (with_reducible first | exact HB.out | apply below_alloc | apply pw_below_drewN | apply below_drew1) | exact HB.out)))); have n3_ := Aside0.mk (below_step (by repeat (first | (with_reducible first | exact HB.out | apply below_alloc | apply pw_below_drewN | apply below_drew1) | exact HB.out)) hb); clear HO_9; clear HO241; clear HB; have HO_9 := n0_; have HO241 := n1_; have HO249 := n2_; have HB := n3_; clear n0_ n1_ n2_ n3_; (try clear hb); (try clear hb2); (try clear hk); (try clear hi); (try clear ho0); obtain ⟨Ao47, co47, eo47⟩ := Kd.R_slice HO249.out; subst eo47) | (go_at_call 22; (with_reducible refine (quorumiteref9_SameList.calls kj11 _ _ t233 _ _ t247 t250 _ ?side1 ?side2 ?side3 ?side4 A34.out).mono ?_); (case side1 => repeat (first | exact (Kd.R_reads' HO_9.out).2.2 | (with_reducible refine Kd.C_alloc ?_ _) | (with_reducible refine Kd.C_drewN ?_ _) | (with_reducible refine Kd.C_drew ?_))); (case side2 => exact (Kd.R_reads' HO_9.out).2.1); (case side3 => repeat (first | exact (Kd.R_reads' HO249.out).2.2 | (with_reducible refine Kd.C_alloc ?_ _) | (with_reducible refine Kd.C_drewN ?_ _) | (with_reducible refine Kd.C_drew ?_))); (case side4 => exact (Kd.R_reads' HO249.out).2.1); rintro e w' ⟨rfl, ⟨nd, rfl⟩⟩) | (go_at_call 18; (with_reducible refine (order_Union.calls kj11 _ _ l0 _ _ l1 t251 _ ?side1 ?side2 ?side3 ?side4 A36.out).mono ?_); (case side1 => repeat (first | exact (Kd.C_below HR0.out (by repeat (first | (with_reducible first | exact HB.out | apply below_alloc | apply pw_below_drewN | apply below_drew1) | exact HB.out))) | (with_reducible refine Kd.C_alloc ?_ _) | (with_reducible refine Kd.C_drewN ?_ _) | (with_reducible refine Kd.C_drew ?_))); (case side2 => exact HC0.out); (case side3 => repeat (first | exact (Kd.C_below HR1.out (by repeat (first | (with_reducible first | exact HB.out | apply below_alloc | apply pw_below_drewN | apply below_drew1) | exact HB.out))) | (with_reducible refine Kd.C_alloc ?_ _) | (with_reducible refine Kd.C_drewN ?_ _) | (with_reducible refine Kd.C_drew ?_))); (case side4 => exact HC1.out); rintro e w48 ⟨v252, rfl, ho0, hb⟩; have n0_ := Aside0.mk (Kd.R_elder' (by (with_reducible repeat (first | apply Kd.R_alloc | apply Kd.R_drewN | apply Kd.R_drew)); exact HO_9.out) (Kd.R_base ho0) hb); have n1_ := Aside0.mk (Kd.R_elder' (by (with_reducible repeat (first | apply Kd.R_alloc | apply Kd.R_drewN | apply Kd.R_drew)); exact HO241.out) (Kd.R_base ho0) hb); have n2_ := Aside0.mk (Kd.R_elder' (by (with_reducible repeat (first | apply Kd.R_alloc | apply Kd.R_drewN | apply Kd.R_drew)); exact HO249.out) (Kd.R_base ho0) hb); have n3_ := Aside0.mk (Kd.R_lower (Kd.R_new' (Kd.R_new' (Kd.R_new' ho0 (Kd.R_lt (by (with_reducible repeat (first | apply Kd.R_alloc | apply Kd.R_drewN | apply Kd.R_drew)); exact HO_9.out))) (Kd.R_lt (by (with_reducible repeat (first | apply Kd.R_alloc | apply Kd.R_drewN | apply Kd.R_drew)); exact HO241.out))) (Kd.R_lt (by (with_reducible repeat (first | apply Kd.R_alloc | apply Kd.R_drewN | apply Kd.R_drew)); exact HO249.out))) (below_size (by repeat (first | (with_reducible first | exact HB.out | apply below_alloc | apply pw_below_drewN | apply below_drew1) | exact HB.out)))); have n4_ := Aside0.mk (below_step (by repeat (first | (with_reducible first | exact HB.out | apply below_alloc | apply pw_below_drewN | apply below_drew1) | exact HB.out)) hb); clear HO_9; clear HO241; clear HO249; clear HB; have HO_9 := n0_; have HO241 := n1_; have HO249 := n2_; have HO253 := n3_; have HB := n4_; clear n0_ n1_ n2_ n3_ n4_; (try clear hb); (try clear hb2); (try clear hk); (try clear hi); (try clear ho0)) | ((with_reducible refine gate_dst (N := 98) rfl ?_); (try (refine gate_guard (by rfl) ?_; dsimp only)); refine Kd.R_lit (Kd.int .i64) _ 2 ?hg (N := 98) ?hd (xs := ([] : List Int)) (inner := []) (ok := fun _ => True) (okp := fun _ => True) ?hr ?hp (fun _ hk => hk) trivial (Below.refl _ _) (Nat.le_refl _) (by simp) ?_; (case hd => rfl); (case hg => rfl); (case hr => first | (go_simp; done) | (go_simp; rfl)); (case hp => exact (Reps.none _ _)); intro v255 w49 ho50 hb hg_ hnew_; clear hg_ hnew_; (first | rw [← Ny254.out] at ho50 | (simp only [Int.reduceToNat] at ho50; rw [← Ny254.out] at ho50)); have n0_ := Aside0.mk (Kd.R_elder' (by (with_reducible repeat (first | apply Kd.R_alloc | apply Kd.R_drewN | apply Kd.R_drew)); exact HO_9.out) (Kd.R_base ho50) hb); have n1_ := Aside0.mk (Kd.R_elder' (by (with_reducible repeat (first | apply Kd.R_alloc | apply Kd.R_drewN | apply Kd.R_drew)); exact HO241.out) (Kd.R_base ho50) hb); have n2_ := Aside0.mk (Kd.R_elder' (by (with_reducible repeat (first | apply Kd.R_alloc | apply Kd.R_drewN | apply Kd.R_drew)); exact HO249.out) (Kd.R_base ho50) hb); have n3_ := Aside0.mk (Kd.R_elder' (by (with_reducible repeat (first | apply Kd.R_alloc | apply Kd.R_drewN | apply Kd.R_drew)); exact HO253.out) (Kd.R_base ho50) hb); have n4_ := Aside0.mk (Kd.R_lower (Kd.R_new' (Kd.R_new' (Kd.R_new' (Kd.R_new' ho50 (Kd.R_lt (by (with_reducible repeat (first | apply Kd.R_alloc | apply Kd.R_drewN | apply Kd.R_drew)); exact HO_9.out))) (Kd.R_lt (by (with_reducible repeat (first | apply Kd.R_alloc | apply Kd.R_drewN | apply Kd.R_drew)); exact HO241.out))) (Kd.R_lt (by (with_reducible repeat (first | apply Kd.R_alloc | apply Kd.R_drewN | apply Kd.R_drew)); exact HO249.out))) (Kd.R_lt (by (with_reducible repeat (first | apply Kd.R_alloc | apply Kd.R_drewN | apply Kd.R_drew)); exact HO253.out))) (below_size (by repeat (first | (with_reducible first | exact HB.out | apply below_alloc | apply pw_below_drewN | apply below_drew1) | exact HB.out)))); have n5_ := Aside0.mk (below_step (by repeat (first | (with_reducible first | exact HB.out | apply below_alloc | apply pw_below_drewN | apply below_drew1) | exact HB.out)) hb); clear HO_9; clear HO241; clear HO249; clear HO253; clear HB; have HO_9 := n0_; have HO241 := n1_; have HO249 := n2_; have HO253 := n3_; have HO256 := n4_; have HB := n5_; clear n0_ n1_ n2_ n3_ n4_ n5_; clear hb ho50) | ((with_reducible refine gate_builtin (b := .append) (xs := #[.tmp 98, .tmp 99]) rfl ?_); (try (refine gate_guard (by rfl) ?_; dsimp only)); at_builtin; refine Kd.R_append_rows (Kd.int .i64) (w0 := w) w.heap.size rfl (.tmp 98) (.tmp 99) 22 2 (.int .i64 0) 8 rfl Try.underlying22 info2 rfl (by decide) (by omega) v255 y254 l0 _ _ _ (fun k_ => some k_ ≠ (.slice (some ad245) t233.length co44 : Value).ownBlock ∧ some k_ ≠ (.slice Ao43 t239.length co43 : Value).ownBlock ∧ some k_ ≠ (.slice Ao47 t247.length co47 : Value).ownBlock ∧ some k_ ≠ (v252 : Value).ownBlock) (fun _ => False) rfl rfl ?aO ?aR (fun _ _ h => h) (fun _ h => h.elim) ?aF ?aB ?aS ?aL ?_; (case aR => repeat (first | exact (Kd.C_below HR0.out HB.out) | (with_reducible refine Kd.C_alloc ?_ _) | (with_reducible refine Kd.C_drewN ?_ _) | (with_reducible refine Kd.C_drew ?_))); (case aB => exact (by repeat (first | (with_reducible first | exact HB.out | apply below_alloc | apply pw_below_drewN | apply below_drew1) | exact HB.out))); (case aF => exact (fun k_ hk => ⟨Kd.fresh' (Kd.R_lt (by (with_reducible repeat (first | apply Kd.R_alloc | apply Kd.R_drewN | apply Kd.R_drew)); exact HO_9.out)) k_ hk, Kd.fresh' (Kd.R_lt (by (with_reducible repeat (first | apply Kd.R_alloc | apply Kd.R_drewN | apply Kd.R_drew)); exact HO241.out)) k_ hk, Kd.fresh' (Kd.R_lt (by (with_reducible repeat (first | apply Kd.R_alloc | apply Kd.R_drewN | apply Kd.R_drew)); exact HO249.out)) k_ hk, Kd.fresh' (Kd.R_lt (by (with_reducible repeat (first | apply Kd.R_alloc | apply Kd.R_drewN | apply Kd.R_drew)); exact HO253.out)) k_ hk⟩)); (case aO => exact (by (with_reducible repeat (first | apply Kd.R_alloc | apply Kd.R_drewN | apply Kd.R_drew)); exact Kd.R_mono HO256.out (fun _ hk => ⟨hk.1.1.1.2, ⟨hk.1.1.2, ⟨hk.1.2, hk.2⟩⟩⟩))); (case aS => exact (below_size (by repeat (first | (with_reducible first | exact HB.out | apply below_alloc | apply pw_below_drewN | apply below_drew1) | exact HB.out)))); (case aL => have := LMc37.out; omega); intro v258 w51 ho hb hg hat; rw [← Ny257.out] at ho; have n0_ := Aside0.mk (Kd.R_after (ok := (fun k_ => some k_ ≠ (.slice Ao43 t239.length co43 : Value).ownBlock ∧ some k_ ≠ (.slice Ao47 t247.length co47 : Value).ownBlock ∧ some k_ ≠ (v252 : Value).ownBlock)) (by (with_reducible repeat (first | apply Kd.R_alloc | apply Kd.R_drewN | apply Kd.R_drew)); exact Kd.R_mono HO_9.out (fun _ hk => ⟨⟨hk.1.1.1.2, ⟨hk.1.1.2, hk.1.2⟩⟩, hk.2⟩)) hg hat); have n1_ := Aside0.mk (Kd.R_after (ok := (fun k_ => some k_ ≠ (.slice (some ad245) t233.length co44 : Value).ownBlock ∧ some k_ ≠ (.slice Ao47 t247.length co47 : Value).ownBlock ∧ some k_ ≠ (v252 : Value).ownBlock)) (by (with_reducible repeat (first | apply Kd.R_alloc | apply Kd.R_drewN | apply Kd.R_drew)); exact Kd.R_mono HO241.out (fun _ hk => ⟨⟨hk.1.1.1.2, ⟨hk.1.1.2, hk.1.2⟩⟩, hk.2⟩)) hg hat); have n2_ := Aside0.mk (Kd.R_after (ok := (fun k_ => some k_ ≠ (.slice (some ad245) t233.length co44 : Value).ownBlock ∧ some k_ ≠ (.slice Ao43 t239.length co43 : Value).ownBlock ∧ some k_ ≠ (v252 : Value).ownBlock)) (by (with_reducible repeat (first | apply Kd.R_alloc | apply Kd.R_drewN | apply Kd.R_drew)); exact Kd.R_mono HO249.out (fun _ hk => ⟨⟨hk.1.1.1.2, ⟨hk.1.1.2, hk.1.2⟩⟩, hk.2⟩)) hg hat); have n3_ := Aside0.mk (Kd.R_after (ok := (fun k_ => some k_ ≠ (.slice (some ad245) t233.length co44 : Value).ownBlock ∧ some k_ ≠ (.slice Ao43 t239.length co43 : Value).ownBlock ∧ some k_ ≠ (.slice Ao47 t247.length co47 : Value).ownBlock)) (by (with_reducible repeat (first | apply Kd.R_alloc | apply Kd.R_drewN | apply Kd.R_drew)); exact Kd.R_mono HO253.out (fun _ hk => ⟨⟨hk.1.1.1.2, ⟨hk.1.1.2, hk.1.2⟩⟩, hk.2⟩)) hg hat); have n4_ := Aside0.mk (hb); have n5_ := Aside0.mk (ho); clear HO_9; clear HO241; clear HO249; clear HO253; clear HB; clear HO256; have HO_9 := n0_; have HO241 := n1_; have HO249 := n2_; have HO253 := n3_; have HB := n4_; have HO259 := n5_; clear n0_ n1_ n2_ n3_ n4_ n5_; clear ho hb hg hat) | ((with_reducible refine gate_builtin (b := .append) (xs := #[.tmp 100, .tmp 101]) rfl ?_); (try (refine gate_guard (by rfl) ?_; dsimp only)); at_builtin; refine Kd.R_append_rows (Kd.int .i64) (w0 := w) w.heap.size rfl (.tmp 100) (.tmp 101) 22 2 (.int .i64 0) 8 rfl Try.underlying22 info2 rfl (by decide) (by omega) v258 y257 l1 _ _ _ (fun k_ => some k_ ≠ (.slice (some ad245) t233.length co44 : Value).ownBlock ∧ some k_ ≠ (.slice Ao43 t239.length co43 : Value).ownBlock ∧ some k_ ≠ (.slice Ao47 t247.length co47 : Value).ownBlock ∧ some k_ ≠ (v252 : Value).ownBlock) (fun _ => False) rfl rfl ?aO ?aR (fun _ _ h => h) (fun _ h => h.elim) ?aF ?aB ?aS ?aL ?_; (case aR => repeat (first | exact (Kd.C_below HR1.out HB.out) | (with_reducible refine Kd.C_alloc ?_ _) | (with_reducible refine Kd.C_drewN ?_ _) | (with_reducible refine Kd.C_drew ?_))); (case aB => exact (by repeat (first | (with_reducible first | exact HB.out | apply below_alloc | apply pw_below_drewN | apply below_drew1) | exact HB.out))); (case aF => exact (fun k_ hk => ⟨Kd.fresh' (Kd.R_lt (by (with_reducible repeat (first | apply Kd.R_alloc | apply Kd.R_drewN | apply Kd.R_drew)); exact HO_9.out)) k_ hk, Kd.fresh' (Kd.R_lt (by (with_reducible repeat (first | apply Kd.R_alloc | apply Kd.R_drewN | apply Kd.R_drew)); exact HO241.out)) k_ hk, Kd.fresh' (Kd.R_lt (by (with_reducible repeat (first | apply Kd.R_alloc | apply Kd.R_drewN | apply Kd.R_drew)); exact HO249.out)) k_ hk, Kd.fresh' (Kd.R_lt (by (with_reducible repeat (first | apply Kd.R_alloc | apply Kd.R_drewN | apply Kd.R_drew)); exact HO253.out)) k_ hk⟩)); (case aO => exact (by (with_reducible repeat (first | apply Kd.R_alloc | apply Kd.R_drewN | apply Kd.R_drew)); exact HO259.out)); (case aS => exact (below_size (by repeat (first | (with_reducible first | exact HB.out | apply below_alloc | apply pw_below_drewN | apply below_drew1) | exact HB.out)))); (case aL => have := LMc38.out; omega); intro v261 w52 ho hb hg hat; rw [← Ny260.out] at ho; have n0_ := Aside0.mk (Kd.R_after (ok := (fun k_ => some k_ ≠ (.slice Ao43 t239.length co43 : Value).ownBlock ∧ some k_ ≠ (.slice Ao47 t247.length co47 : Value).ownBlock ∧ some k_ ≠ (v252 : Value).ownBlock)) (by (with_reducible repeat (first | apply Kd.R_alloc | apply Kd.R_drewN | apply Kd.R_drew)); exact HO_9.out) hg hat); have n1_ := Aside0.mk (Kd.R_after (ok := (fun k_ => some k_ ≠ (.slice (some ad245) t233.length co44 : Value).ownBlock ∧ some k_ ≠ (.slice Ao47 t247.length co47 : Value).ownBlock ∧ some k_ ≠ (v252 : Value).ownBlock)) (by (with_reducible repeat (first | apply Kd.R_alloc | apply Kd.R_drewN | apply Kd.R_drew)); exact HO241.out) hg hat); have n2_ := Aside0.mk (Kd.R_after (ok := (fun k_ => some k_ ≠ (.slice (some ad245) t233.length co44 : Value).ownBlock ∧ some k_ ≠ (.slice Ao43 t239.length co43 : Value).ownBlock ∧ some k_ ≠ (v252 : Value).ownBlock)) (by (with_reducible repeat (first | apply Kd.R_alloc | apply Kd.R_drewN | apply Kd.R_drew)); exact HO249.out) hg hat); have n3_ := Aside0.mk (Kd.R_after (ok := (fun k_ => some k_ ≠ (.slice (some ad245) t233.length co44 : Value).ownBlock ∧ some k_ ≠ (.slice Ao43 t239.length co43 : Value).ownBlock ∧ some k_ ≠ (.slice Ao47 t247.length co47 : Value).ownBlock)) (by (with_reducible repeat (first | apply Kd.R_alloc | apply Kd.R_drewN | apply Kd.R_drew)); exact HO253.out) hg hat); have n4_ := Aside0.mk (hb); have n5_ := Aside0.mk (ho); clear HO_9; clear HO241; clear HO249; clear HO253; clear HB; clear HO259; have HO_9 := n0_; have HO241 := n1_; have HO249 := n2_; have HO253 := n3_; have HB := n4_; have HO262 := n5_; clear n0_ n1_ n2_ n3_ n4_ n5_; clear ho hb hg hat; obtain ⟨Ao53, co53, eo53⟩ := Kd.R_slice HO262.out; subst eo53) | (go_at_call 20; (with_reducible refine (quorumiteref9_Sort.calls _ _ y260 t263 _ ?side1 ?side2 A39.out).mono ?_); (case side1 => repeat (first | exact (Kd.R_reads' HO262.out).2.2 | (with_reducible refine Kd.C_alloc ?_ _) | (with_reducible refine Kd.C_drewN ?_ _) | (with_reducible refine Kd.C_drew ?_))); (case side2 => exact (Kd.R_reads' HO262.out).2.1); rintro e w54 ⟨v264, rfl, ho0, hb⟩; have n0_ := Aside0.mk (Kd.R_elder' (by (with_reducible repeat (first | apply Kd.R_alloc | apply Kd.R_drewN | apply Kd.R_drew)); exact HO_9.out) (Kd.R_base ho0) hb); have n1_ := Aside0.mk (Kd.R_elder' (by (with_reducible repeat (first | apply Kd.R_alloc | apply Kd.R_drewN | apply Kd.R_drew)); exact HO241.out) (Kd.R_base ho0) hb); have n2_ := Aside0.mk (Kd.R_elder' (by (with_reducible repeat (first | apply Kd.R_alloc | apply Kd.R_drewN | apply Kd.R_drew)); exact HO249.out) (Kd.R_base ho0) hb); have n3_ := Aside0.mk (Kd.R_elder' (by (with_reducible repeat (first | apply Kd.R_alloc | apply Kd.R_drewN | apply Kd.R_drew)); exact HO253.out) (Kd.R_base ho0) hb); have n4_ := Aside0.mk (Kd.R_elder' (by (with_reducible repeat (first | apply Kd.R_alloc | apply Kd.R_drewN | apply Kd.R_drew)); exact HO262.out) (Kd.R_base ho0) hb); have n5_ := Aside0.mk (Kd.R_lower (Kd.R_new' (Kd.R_new' (Kd.R_new' (Kd.R_new' (Kd.R_new' ho0 (Kd.R_lt (by (with_reducible repeat (first | apply Kd.R_alloc | apply Kd.R_drewN | apply Kd.R_drew)); exact HO_9.out))) (Kd.R_lt (by (with_reducible repeat (first | apply Kd.R_alloc | apply Kd.R_drewN | apply Kd.R_drew)); exact HO241.out))) (Kd.R_lt (by (with_reducible repeat (first | apply Kd.R_alloc | apply Kd.R_drewN | apply Kd.R_drew)); exact HO249.out))) (Kd.R_lt (by (with_reducible repeat (first | apply Kd.R_alloc | apply Kd.R_drewN | apply Kd.R_drew)); exact HO253.out))) (Kd.R_lt (by (with_reducible repeat (first | apply Kd.R_alloc | apply Kd.R_drewN | apply Kd.R_drew)); exact HO262.out))) (below_size (by repeat (first | (with_reducible first | exact HB.out | apply below_alloc | apply pw_below_drewN | apply below_drew1) | exact HB.out)))); have n6_ := Aside0.mk (below_step (by repeat (first | (with_reducible first | exact HB.out | apply below_alloc | apply pw_below_drewN | apply below_drew1) | exact HB.out)) hb); clear HO_9; clear HO241; clear HO249; clear HO253; clear HO262; clear HB; have HO_9 := n0_; have HO241 := n1_; have HO249 := n2_; have HO253 := n3_; have HO262 := n4_; have HO265 := n5_; have HB := n6_; clear n0_ n1_ n2_ n3_ n4_ n5_ n6_; (try clear hb); (try clear hb2); (try clear hk); (try clear hi); (try clear ho0); obtain ⟨Ao55, co55, eo55⟩ := Kd.R_slice HO253.out; subst eo55; obtain ⟨Ao56, co56, eo56⟩ := Kd.R_slice HO265.out; subst eo56) | (go_at_call 22; (with_reducible refine (quorumiteref9_SameList.calls kj11 _ _ t251 _ _ t263 t266 _ ?side1 ?side2 ?side3 ?side4 A40.out).mono ?_); (case side1 => repeat (first | exact (Kd.R_reads' HO253.out).2.2 | (with_reducible refine Kd.C_alloc ?_ _) | (with_reducible refine Kd.C_drewN ?_ _) | (with_reducible refine Kd.C_drew ?_))); (case side2 => exact (Kd.R_reads' HO253.out).2.1); (case side3 => repeat (first | exact (Kd.R_reads' HO265.out).2.2 | (with_reducible refine Kd.C_alloc ?_ _) | (with_reducible refine Kd.C_drewN ?_ _) | (with_reducible refine Kd.C_drew ?_))); (case side4 => exact (Kd.R_reads' HO265.out).2.1); rintro e w' ⟨rfl, ⟨nd, rfl⟩⟩))
                                  go_ret
                                  exact ⟨by first | rfl | (simp [errW_none, errW_some] <;> rfl) | (simp only [← hji26, ← hji27, ← hji28]; first | rfl | (simp [errW_none, errW_some] <;> rfl)) | (simp [*, errW_none, errW_some] <;> rfl), by repeat (first | (with_reducible first | exact HB.out | apply below_alloc | apply pw_below_drewN | apply below_drew1) | exact HB.out)⟩
                                · rw [if_neg c38] at H
                                  exact absurd H (by simp)
                              · rw [if_neg c37] at H
                                exact absurd H (by simp)
                            · rw [if_neg c35] at H
                              have c35b0 : (t246 == t250) = false := by simpa using c35
                              (try (have c35b1 : decide (t246 = t250) = false := by simpa using c35))
                              (try (have c35b2 : (t246 == t250) = false := by simpa using c35))
                              (try (have c35b3 : ¬ (t246 = t250) := by simpa using c35))
                              clear c35
                              exact absurd ((Option.some.inj H).trans HRT.out) (by decide)
                          · rw [if_neg c31] at H
                            have c31b0 : (t236 == (rd t233 (ji28))) = false := beq_eq_false_iff_ne.mpr c31
                            have c31b1 : (t236 != (rd t233 (ji28))) = true := bne_iff_ne.mpr c31
                            exact absurd ((Option.some.inj H).trans HRT.out) (by decide)
                        · rw [if_neg c30] at H
                          exact absurd H (by simp)
                      · rw [if_neg c29] at H
                        exact absurd H (by simp)
                    · replace c25 := Bool.eq_false_iff.mpr c25
                      subst c25
                      have H1 : (if t236 = 0 then ((order_Same.f kj11 l0 l1).bind fun t267 => ((quorumiteref9_Sort.f l1).bind fun t268 => ((quorumiteref9_SameList.f kj11 t233 t268).bind fun t271 => (if (t267 == t271) = true then ((order_Union.f kj11 l0 l1).bind fun t272 => ((some (([] : List Int) : List Int)).bind fun y275 => (if y275.length + l0.length < 17592186044416 then ((some (y275 ++ l0 : List Int)).bind fun y278 => (if y278.length + l1.length < 17592186044416 then ((quorumiteref9_Sort.f (y278 ++ l1)).bind fun t284 => ((quorumiteref9_SameList.f kj11 t272 t284).bind fun t287 => (some t287))) else (none))) else (none)))) else (some false))))) else (some false)) = some r := by rw [if_neg (show ¬ (false = true) by decide)] at H; exact H
                      clear H
                      have H := H1
                      clear H1
                      by_cases c68 : t236 = 0
                      · rw [if_pos c68] at H
                        have c68b0 : (t236 == 0) = true := beq_iff_eq.mpr c68
                        have c68b1 : (t236 != 0) = false := bne_eq_false_iff_eq.mpr c68
                        clear c68
                        replace H := Option.bind_eq_some_iff.mp H
                        obtain ⟨t267, A690, H⟩ := H
                        replace H : ((quorumiteref9_Sort.f l1).bind fun t268 => ((quorumiteref9_SameList.f kj11 t233 t268).bind fun t271 => (if (t267 == t271) = true then ((order_Union.f kj11 l0 l1).bind fun t272 => ((some (([] : List Int) : List Int)).bind fun y275 => (if y275.length + l0.length < 17592186044416 then ((some (y275 ++ l0 : List Int)).bind fun y278 => (if y278.length + l1.length < 17592186044416 then ((quorumiteref9_Sort.f (y278 ++ l1)).bind fun t284 => ((quorumiteref9_SameList.f kj11 t272 t284).bind fun t287 => (some t287))) else (none))) else (none)))) else (some false)))) = some r := H
                        have A69 := Aside0.mk A690
                        clear A690
                        replace H := Option.bind_eq_some_iff.mp H
                        obtain ⟨t268, A700, H⟩ := H
                        replace H : ((quorumiteref9_SameList.f kj11 t233 t268).bind fun t271 => (if (t267 == t271) = true then ((order_Union.f kj11 l0 l1).bind fun t272 => ((some (([] : List Int) : List Int)).bind fun y275 => (if y275.length + l0.length < 17592186044416 then ((some (y275 ++ l0 : List Int)).bind fun y278 => (if y278.length + l1.length < 17592186044416 then ((quorumiteref9_Sort.f (y278 ++ l1)).bind fun t284 => ((quorumiteref9_SameList.f kj11 t272 t284).bind fun t287 => (some t287))) else (none))) else (none)))) else (some false))) = some r := H
                        have A70 := Aside0.mk A700
                        clear A700
                        replace H := Option.bind_eq_some_iff.mp H
                        obtain ⟨t271, A710, H⟩ := H
                        replace H : (if (t267 == t271) = true then ((order_Union.f kj11 l0 l1).bind fun t272 => ((some (([] : List Int) : List Int)).bind fun y275 => (if y275.length + l0.length < 17592186044416 then ((some (y275 ++ l0 : List Int)).bind fun y278 => (if y278.length + l1.length < 17592186044416 then ((quorumiteref9_Sort.f (y278 ++ l1)).bind fun t284 => ((quorumiteref9_SameList.f kj11 t272 t284).bind fun t287 => (some t287))) else (none))) else (none)))) else (some false)) = some r := H
                        have A71 := Aside0.mk A710
                        clear A710
                        by_cases c72 : (t267 == t271) = true
                        · rw [if_pos c72] at H
                          have c72b0 : (t267 == t271) = true := c72
                          (try (have c72b1 : decide (t267 = t271) = true := by simpa using c72))
                          (try (have c72b2 : (t267 == t271) = true := by simpa using c72))
                          clear c72
                          replace H := Option.bind_eq_some_iff.mp H
                          obtain ⟨t272, A730, H⟩ := H
                          replace H : ((some (([] : List Int) : List Int)).bind fun y275 => (if y275.length + l0.length < 17592186044416 then ((some (y275 ++ l0 : List Int)).bind fun y278 => (if y278.length + l1.length < 17592186044416 then ((quorumiteref9_Sort.f (y278 ++ l1)).bind fun t284 => ((quorumiteref9_SameList.f kj11 t272 t284).bind fun t287 => (some t287))) else (none))) else (none))) = some r := H
                          have A73 := Aside0.mk A730
                          clear A730
                          obtain ⟨y275, hy275⟩ : ∃ y_ : List Int, y_ = (([] : List Int)) := ⟨_, rfl⟩
                          replace H : (if y275.length + l0.length < 17592186044416 then ((some (y275 ++ l0 : List Int)).bind fun y278 => (if y278.length + l1.length < 17592186044416 then ((quorumiteref9_Sort.f (y278 ++ l1)).bind fun t284 => ((quorumiteref9_SameList.f kj11 t272 t284).bind fun t287 => (some t287))) else (none))) else (none)) = some r := by first | (rw [hy275]; with_reducible exact H) | (have H2_ := (Option.bind_some _ _).symm.trans H; rw [hy275]; with_reducible exact H2_) | (have H2_ := (Option.bind_some _ _).symm.trans H; with_reducible exact H2_) | with_reducible exact H | (rw [hy275]; exact H) | exact H
                          have Ny275 := Aside0.mk hy275
                          clear hy275
                          by_cases c74 : y275.length + l0.length < 17592186044416
                          · rw [if_pos c74] at H
                            have LMc74 := Aside0.mk c74
                            clear c74
                            obtain ⟨y278, hy278⟩ : ∃ y_ : List Int, y_ = (y275 ++ l0) := ⟨_, rfl⟩
                            replace H : (if y278.length + l1.length < 17592186044416 then ((quorumiteref9_Sort.f (y278 ++ l1)).bind fun t284 => ((quorumiteref9_SameList.f kj11 t272 t284).bind fun t287 => (some t287))) else (none)) = some r := by first | (rw [hy278]; with_reducible exact H) | (have H2_ := (Option.bind_some _ _).symm.trans H; rw [hy278]; with_reducible exact H2_) | (have H2_ := (Option.bind_some _ _).symm.trans H; with_reducible exact H2_) | with_reducible exact H | (rw [hy278]; exact H) | exact H
                            have Ny278 := Aside0.mk hy278
                            clear hy278
                            by_cases c75 : y278.length + l1.length < 17592186044416
                            · rw [if_pos c75] at H
                              have LMc75 := Aside0.mk c75
                              clear c75
                              obtain ⟨y281, hy281⟩ : ∃ y_ : List Int, y_ = (y278 ++ l1) := ⟨_, rfl⟩
                              replace H : ((quorumiteref9_Sort.f y281).bind fun t284 => ((quorumiteref9_SameList.f kj11 t272 t284).bind fun t287 => (some t287))) = some r := by first | (rw [hy281]; with_reducible exact H) | (have H2_ := (Option.bind_some _ _).symm.trans H; rw [hy281]; with_reducible exact H2_) | (have H2_ := (Option.bind_some _ _).symm.trans H; with_reducible exact H2_) | with_reducible exact H | (rw [hy281]; exact H) | exact H
                              have Ny281 := Aside0.mk hy281
                              clear hy281
                              replace H := Option.bind_eq_some_iff.mp H
                              obtain ⟨t284, A760, H⟩ := H
                              replace H : ((quorumiteref9_SameList.f kj11 t272 t284).bind fun t287 => (some t287)) = some r := H
                              have A76 := Aside0.mk A760
                              clear A760
                              replace H := Option.bind_eq_some_iff.mp H
                              obtain ⟨t287, A770, H⟩ := H
                              replace H : (some t287) = some r := H
                              have A77 := Aside0.mk A770
                              clear A770
                              obtain rfl := Option.some.inj H
                              (try simp only [@List.append_eq Oper, @List.cons_append Oper, @List.nil_append Oper] at *)
                              go_wp2_with (first | ((with_reducible refine gate_callee (f := 17) rfl ?_); refine goesL_ (some 38) rfl rfl Try.func17 (by kernel_rfl) rfl #[] rfl (by (try simp only [List.map_toArray, List.map_cons, List.map_nil]); first | done | rfl | (simp only [List.length_drop, List.length_take]; rfl)) ?_; (with_reducible refine (quorumitelaw9_told.calls kj11  true _ A16.out).mono ?_); rintro e w78 ⟨rfl, hb⟩; refine ⟨_, rfl, ?_⟩; have n0_ := Aside0.mk (Kd.R_below (by (with_reducible repeat (first | apply Kd.R_alloc | apply Kd.R_drewN | apply Kd.R_drew)); exact HO_9.out) hb); have n1_ := Aside0.mk (below_step (by repeat (first | (with_reducible first | exact HB.out | apply below_alloc | apply pw_below_drewN | apply below_drew1) | exact HB.out)) hb); clear HO_9; clear HB; have HO_9 := n0_; have HB := n1_; clear n0_ n1_; (try clear hb); (try clear hb2); (try clear hk); (try clear hi)) | (go_at_call 23; (with_reducible refine (order_Sort.calls kj11 _ _ l0 t239 _ ?side1 ?side2 A18.out).mono ?_); (case side1 => repeat (first | exact (Kd.C_below HR0.out HB.out) | (with_reducible refine Kd.C_alloc ?_ _) | (with_reducible refine Kd.C_drewN ?_ _) | (with_reducible refine Kd.C_drew ?_))); (case side2 => exact HC0.out); rintro e w79 ⟨v240, rfl, ho0, hb⟩; have n0_ := Aside0.mk (Kd.R_elder' (by (with_reducible repeat (first | apply Kd.R_alloc | apply Kd.R_drewN | apply Kd.R_drew)); exact HO_9.out) (Kd.R_base ho0) hb); have n1_ := Aside0.mk (Kd.R_lower (Kd.R_new' ho0 (Kd.R_lt (by (with_reducible repeat (first | apply Kd.R_alloc | apply Kd.R_drewN | apply Kd.R_drew)); exact HO_9.out))) (below_size (by repeat (first | (with_reducible first | exact HB.out | apply below_alloc | apply pw_below_drewN | apply below_drew1) | exact HB.out)))); have n2_ := Aside0.mk (below_step (by repeat (first | (with_reducible first | exact HB.out | apply below_alloc | apply pw_below_drewN | apply below_drew1) | exact HB.out)) hb); clear HO_9; clear HB; have HO_9 := n0_; have HO241 := n1_; have HB := n2_; clear n0_ n1_ n2_; (try clear hb); (try clear hb2); (try clear hk); (try clear hi); (try clear ho0); obtain ⟨Ao80, co80, eo80⟩ := Kd.R_slice HO241.out; subst eo80; obtain ⟨Ao81, co81, eo81⟩ := Kd.R_slice HO_9.out; subst eo81) | (go_at_call 22; (with_reducible refine (quorumiteref9_SameList.calls kj11 _ _ t239 _ _ t233 true _ ?side1 ?side2 ?side3 ?side4 A19.out).mono ?_); (case side1 => repeat (first | exact (Kd.R_reads' HO241.out).2.2 | (with_reducible refine Kd.C_alloc ?_ _) | (with_reducible refine Kd.C_drewN ?_ _) | (with_reducible refine Kd.C_drew ?_))); (case side2 => exact (Kd.R_reads' HO241.out).2.1); (case side3 => repeat (first | exact (Kd.R_reads' HO_9.out).2.2 | (with_reducible refine Kd.C_alloc ?_ _) | (with_reducible refine Kd.C_drewN ?_ _) | (with_reducible refine Kd.C_drew ?_))); (case side4 => exact (Kd.R_reads' HO_9.out).2.1); rintro e w' ⟨rfl, ⟨nd, rfl⟩⟩) | (go_at_call 24; (with_reducible refine (order_Rank.calls kj11 _ _ l0 a2 t243 _ ?side1 ?side2 A21.out).mono ?_); (case side1 => repeat (first | exact (Kd.C_below HR0.out (by repeat (first | (with_reducible first | exact HB.out | apply below_alloc | apply pw_below_drewN | apply below_drew1) | exact HB.out))) | (with_reducible refine Kd.C_alloc ?_ _) | (with_reducible refine Kd.C_drewN ?_ _) | (with_reducible refine Kd.C_drew ?_))); (case side2 => exact HC0.out); rintro e w' ⟨rfl, ⟨nd, rfl⟩⟩) | (go_at_call 25; (with_reducible refine (quorumiteref9_Rank.calls kj11 _ _ l0 a2 t244 _ ?side1 ?side2 A22.out).mono ?_); (case side1 => repeat (first | exact (Kd.C_below HR0.out (by repeat (first | (with_reducible first | exact HB.out | apply below_alloc | apply pw_below_drewN | apply below_drew1) | exact HB.out))) | (with_reducible refine Kd.C_alloc ?_ _) | (with_reducible refine Kd.C_drewN ?_ _) | (with_reducible refine Kd.C_drew ?_))); (case side2 => exact HC0.out); rintro e w' ⟨rfl, ⟨nd, rfl⟩⟩) | (go_at_call 19; (with_reducible refine (order_Same.calls kj11 _ _ l0 _ _ l1 t267 _ ?side1 ?side2 ?side3 ?side4 A69.out).mono ?_); (case side1 => repeat (first | exact (Kd.C_below HR0.out (by repeat (first | (with_reducible first | exact HB.out | apply below_alloc | apply pw_below_drewN | apply below_drew1) | exact HB.out))) | (with_reducible refine Kd.C_alloc ?_ _) | (with_reducible refine Kd.C_drewN ?_ _) | (with_reducible refine Kd.C_drew ?_))); (case side2 => exact HC0.out); (case side3 => repeat (first | exact (Kd.C_below HR1.out (by repeat (first | (with_reducible first | exact HB.out | apply below_alloc | apply pw_below_drewN | apply below_drew1) | exact HB.out))) | (with_reducible refine Kd.C_alloc ?_ _) | (with_reducible refine Kd.C_drewN ?_ _) | (with_reducible refine Kd.C_drew ?_))); (case side4 => exact HC1.out); rintro e w82 ⟨rfl, hb⟩; have n0_ := Aside0.mk (Kd.R_below (by (with_reducible repeat (first | apply Kd.R_alloc | apply Kd.R_drewN | apply Kd.R_drew)); exact HO_9.out) hb); have n1_ := Aside0.mk (Kd.R_below (by (with_reducible repeat (first | apply Kd.R_alloc | apply Kd.R_drewN | apply Kd.R_drew)); exact HO241.out) hb); have n2_ := Aside0.mk (below_step (by repeat (first | (with_reducible first | exact HB.out | apply below_alloc | apply pw_below_drewN | apply below_drew1) | exact HB.out)) hb); clear HO_9; clear HO241; clear HB; have HO_9 := n0_; have HO241 := n1_; have HB := n2_; clear n0_ n1_ n2_; (try clear hb); (try clear hb2); (try clear hk); (try clear hi)) | (go_at_call 20; (with_reducible refine (quorumiteref9_Sort.calls _ _ l1 t268 _ ?side1 ?side2 A70.out).mono ?_); (case side1 => repeat (first | exact (Kd.C_below HR1.out HB.out) | (with_reducible refine Kd.C_alloc ?_ _) | (with_reducible refine Kd.C_drewN ?_ _) | (with_reducible refine Kd.C_drew ?_))); (case side2 => exact HC1.out); rintro e w83 ⟨v269, rfl, ho0, hb⟩; have n0_ := Aside0.mk (Kd.R_elder' (by (with_reducible repeat (first | apply Kd.R_alloc | apply Kd.R_drewN | apply Kd.R_drew)); exact HO_9.out) (Kd.R_base ho0) hb); have n1_ := Aside0.mk (Kd.R_elder' (by (with_reducible repeat (first | apply Kd.R_alloc | apply Kd.R_drewN | apply Kd.R_drew)); exact HO241.out) (Kd.R_base ho0) hb); have n2_ := Aside0.mk (Kd.R_lower (Kd.R_new' (Kd.R_new' ho0 (Kd.R_lt (by (with_reducible repeat (first | apply Kd.R_alloc | apply Kd.R_drewN | apply Kd.R_drew)); exact HO_9.out))) (Kd.R_lt (by (with_reducible repeat (first | apply Kd.R_alloc | apply Kd.R_drewN | apply Kd.R_drew)); exact HO241.out))) (below_size (by repeat (first | (with_reducible first | exact HB.out | apply below_alloc | apply pw_below_drewN | apply below_drew1) | exact HB.out)))); have n3_ := Aside0.mk (below_step (by repeat (first | (with_reducible first | exact HB.out | apply below_alloc | apply pw_below_drewN | apply below_drew1) | exact HB.out)) hb); clear HO_9; clear HO241; clear HB; have HO_9 := n0_; have HO241 := n1_; have HO270 := n2_; have HB := n3_; clear n0_ n1_ n2_ n3_; (try clear hb); (try clear hb2); (try clear hk); (try clear hi); (try clear ho0); obtain ⟨Ao84, co84, eo84⟩ := Kd.R_slice HO270.out; subst eo84) | (go_at_call 22; (with_reducible refine (quorumiteref9_SameList.calls kj11 _ _ t233 _ _ t268 t271 _ ?side1 ?side2 ?side3 ?side4 A71.out).mono ?_); (case side1 => repeat (first | exact (Kd.R_reads' HO_9.out).2.2 | (with_reducible refine Kd.C_alloc ?_ _) | (with_reducible refine Kd.C_drewN ?_ _) | (with_reducible refine Kd.C_drew ?_))); (case side2 => exact (Kd.R_reads' HO_9.out).2.1); (case side3 => repeat (first | exact (Kd.R_reads' HO270.out).2.2 | (with_reducible refine Kd.C_alloc ?_ _) | (with_reducible refine Kd.C_drewN ?_ _) | (with_reducible refine Kd.C_drew ?_))); (case side4 => exact (Kd.R_reads' HO270.out).2.1); rintro e w' ⟨rfl, ⟨nd, rfl⟩⟩) | (go_at_call 18; (with_reducible refine (order_Union.calls kj11 _ _ l0 _ _ l1 t272 _ ?side1 ?side2 ?side3 ?side4 A73.out).mono ?_); (case side1 => repeat (first | exact (Kd.C_below HR0.out (by repeat (first | (with_reducible first | exact HB.out | apply below_alloc | apply pw_below_drewN | apply below_drew1) | exact HB.out))) | (with_reducible refine Kd.C_alloc ?_ _) | (with_reducible refine Kd.C_drewN ?_ _) | (with_reducible refine Kd.C_drew ?_))); (case side2 => exact HC0.out); (case side3 => repeat (first | exact (Kd.C_below HR1.out (by repeat (first | (with_reducible first | exact HB.out | apply below_alloc | apply pw_below_drewN | apply below_drew1) | exact HB.out))) | (with_reducible refine Kd.C_alloc ?_ _) | (with_reducible refine Kd.C_drewN ?_ _) | (with_reducible refine Kd.C_drew ?_))); (case side4 => exact HC1.out); rintro e w85 ⟨v273, rfl, ho0, hb⟩; have n0_ := Aside0.mk (Kd.R_elder' (by (with_reducible repeat (first | apply Kd.R_alloc | apply Kd.R_drewN | apply Kd.R_drew)); exact HO_9.out) (Kd.R_base ho0) hb); have n1_ := Aside0.mk (Kd.R_elder' (by (with_reducible repeat (first | apply Kd.R_alloc | apply Kd.R_drewN | apply Kd.R_drew)); exact HO241.out) (Kd.R_base ho0) hb); have n2_ := Aside0.mk (Kd.R_elder' (by (with_reducible repeat (first | apply Kd.R_alloc | apply Kd.R_drewN | apply Kd.R_drew)); exact HO270.out) (Kd.R_base ho0) hb); have n3_ := Aside0.mk (Kd.R_lower (Kd.R_new' (Kd.R_new' (Kd.R_new' ho0 (Kd.R_lt (by (with_reducible repeat (first | apply Kd.R_alloc | apply Kd.R_drewN | apply Kd.R_drew)); exact HO_9.out))) (Kd.R_lt (by (with_reducible repeat (first | apply Kd.R_alloc | apply Kd.R_drewN | apply Kd.R_drew)); exact HO241.out))) (Kd.R_lt (by (with_reducible repeat (first | apply Kd.R_alloc | apply Kd.R_drewN | apply Kd.R_drew)); exact HO270.out))) (below_size (by repeat (first | (with_reducible first | exact HB.out | apply below_alloc | apply pw_below_drewN | apply below_drew1) | exact HB.out)))); have n4_ := Aside0.mk (below_step (by repeat (first | (with_reducible first | exact HB.out | apply below_alloc | apply pw_below_drewN | apply below_drew1) | exact HB.out)) hb); clear HO_9; clear HO241; clear HO270; clear HB; have HO_9 := n0_; have HO241 := n1_; have HO270 := n2_; have HO274 := n3_; have HB := n4_; clear n0_ n1_ n2_ n3_ n4_; (try clear hb); (try clear hb2); (try clear hk); (try clear hi); (try clear ho0)) | ((with_reducible refine gate_dst (N := 98) rfl ?_); (try (refine gate_guard (by rfl) ?_; dsimp only)); refine Kd.R_lit (Kd.int .i64) _ 2 ?hg (N := 98) ?hd (xs := ([] : List Int)) (inner := []) (ok := fun _ => True) (okp := fun _ => True) ?hr ?hp (fun _ hk => hk) trivial (Below.refl _ _) (Nat.le_refl _) (by simp) ?_; (case hd => rfl); (case hg => rfl); (case hr => first | (go_simp; done) | (go_simp; rfl)); (case hp => exact (Reps.none _ _)); intro v276 w86 ho87 hb hg_ hnew_; clear hg_ hnew_; (first | rw [← Ny275.out] at ho87 | (simp only [Int.reduceToNat] at ho87; rw [← Ny275.out] at ho87)); have n0_ := Aside0.mk (Kd.R_elder' (by (with_reducible repeat (first | apply Kd.R_alloc | apply Kd.R_drewN | apply Kd.R_drew)); exact HO_9.out) (Kd.R_base ho87) hb); have n1_ := Aside0.mk (Kd.R_elder' (by (with_reducible repeat (first | apply Kd.R_alloc | apply Kd.R_drewN | apply Kd.R_drew)); exact HO241.out) (Kd.R_base ho87) hb); have n2_ := Aside0.mk (Kd.R_elder' (by (with_reducible repeat (first | apply Kd.R_alloc | apply Kd.R_drewN | apply Kd.R_drew)); exact HO270.out) (Kd.R_base ho87) hb); have n3_ := Aside0.mk (Kd.R_elder' (by (with_reducible repeat (first | apply Kd.R_alloc | apply Kd.R_drewN | apply Kd.R_drew)); exact HO274.out) (Kd.R_base ho87) hb); have n4_ := Aside0.mk (Kd.R_lower (Kd.R_new' (Kd.R_new' (Kd.R_new' (Kd.R_new' ho87 (Kd.R_lt (by (with_reducible repeat (first | apply Kd.R_alloc | apply Kd.R_drewN | apply Kd.R_drew)); exact HO_9.out))) (Kd.R_lt (by (with_reducible repeat (first | apply Kd.R_alloc | apply Kd.R_drewN | apply Kd.R_drew)); exact HO241.out))) (Kd.R_lt (by (with_reducible repeat (first | apply Kd.R_alloc | apply Kd.R_drewN | apply Kd.R_drew)); exact HO270.out))) (Kd.R_lt (by (with_reducible repeat (first | apply Kd.R_alloc | apply Kd.R_drewN | apply Kd.R_drew)); exact HO274.out))) (below_size (by repeat (first | (with_reducible first | exact HB.out | apply below_alloc | apply pw_below_drewN | apply below_drew1) | exact HB.out)))); have n5_ := Aside0.mk (below_step (by repeat (first | (with_reducible first | exact HB.out | apply below_alloc | apply pw_below_drewN | apply below_drew1) | exact HB.out)) hb); clear HO_9; clear HO241; clear HO270; clear HO274; clear HB; have HO_9 := n0_; have HO241 := n1_; have HO270 := n2_; have HO274 := n3_; have HO277 := n4_; have HB := n5_; clear n0_ n1_ n2_ n3_ n4_ n5_; clear hb ho87) | ((with_reducible refine gate_builtin (b := .append) (xs := #[.tmp 98, .tmp 99]) rfl ?_); (try (refine gate_guard (by rfl) ?_; dsimp only)); at_builtin; refine Kd.R_append_rows (Kd.int .i64) (w0 := w) w.heap.size rfl (.tmp 98) (.tmp 99) 22 2 (.int .i64 0) 8 rfl Try.underlying22 info2 rfl (by decide) (by omega) v276 y275 l0 _ _ _ (fun k_ => some k_ ≠ (.slice Ao81 t233.length co81 : Value).ownBlock ∧ some k_ ≠ (.slice Ao80 t239.length co80 : Value).ownBlock ∧ some k_ ≠ (.slice Ao84 t268.length co84 : Value).ownBlock ∧ some k_ ≠ (v273 : Value).ownBlock) (fun _ => False) rfl rfl ?aO ?aR (fun _ _ h => h) (fun _ h => h.elim) ?aF ?aB ?aS ?aL ?_; (case aR => repeat (first | exact (Kd.C_below HR0.out HB.out) | (with_reducible refine Kd.C_alloc ?_ _) | (with_reducible refine Kd.C_drewN ?_ _) | (with_reducible refine Kd.C_drew ?_))); (case aB => exact (by repeat (first | (with_reducible first | exact HB.out | apply below_alloc | apply pw_below_drewN | apply below_drew1) | exact HB.out))); (case aF => exact (fun k_ hk => ⟨Kd.fresh' (Kd.R_lt (by (with_reducible repeat (first | apply Kd.R_alloc | apply Kd.R_drewN | apply Kd.R_drew)); exact HO_9.out)) k_ hk, Kd.fresh' (Kd.R_lt (by (with_reducible repeat (first | apply Kd.R_alloc | apply Kd.R_drewN | apply Kd.R_drew)); exact HO241.out)) k_ hk, Kd.fresh' (Kd.R_lt (by (with_reducible repeat (first | apply Kd.R_alloc | apply Kd.R_drewN | apply Kd.R_drew)); exact HO270.out)) k_ hk, Kd.fresh' (Kd.R_lt (by (with_reducible repeat (first | apply Kd.R_alloc | apply Kd.R_drewN | apply Kd.R_drew)); exact HO274.out)) k_ hk⟩)); (case aO => exact (by (with_reducible repeat (first | apply Kd.R_alloc | apply Kd.R_drewN | apply Kd.R_drew)); exact Kd.R_mono HO277.out (fun _ hk => ⟨hk.1.1.1.2, ⟨hk.1.1.2, ⟨hk.1.2, hk.2⟩⟩⟩))); (case aS => exact (below_size (by repeat (first | (with_reducible first | exact HB.out | apply below_alloc | apply pw_below_drewN | apply below_drew1) | exact HB.out)))); (case aL => have := LMc74.out; omega); intro v279 w88 ho hb hg hat; rw [← Ny278.out] at ho; have n0_ := Aside0.mk (Kd.R_after (ok := (fun k_ => some k_ ≠ (.slice Ao80 t239.length co80 : Value).ownBlock ∧ some k_ ≠ (.slice Ao84 t268.length co84 : Value).ownBlock ∧ some k_ ≠ (v273 : Value).ownBlock)) (by (with_reducible repeat (first | apply Kd.R_alloc | apply Kd.R_drewN | apply Kd.R_drew)); exact Kd.R_mono HO_9.out (fun _ hk => ⟨⟨hk.1.1.1.2, ⟨hk.1.1.2, hk.1.2⟩⟩, hk.2⟩)) hg hat); have n1_ := Aside0.mk (Kd.R_after (ok := (fun k_ => some k_ ≠ (.slice Ao81 t233.length co81 : Value).ownBlock ∧ some k_ ≠ (.slice Ao84 t268.length co84 : Value).ownBlock ∧ some k_ ≠ (v273 : Value).ownBlock)) (by (with_reducible repeat (first | apply Kd.R_alloc | apply Kd.R_drewN | apply Kd.R_drew)); exact Kd.R_mono HO241.out (fun _ hk => ⟨⟨hk.1.1.1.2, ⟨hk.1.1.2, hk.1.2⟩⟩, hk.2⟩)) hg hat); have n2_ := Aside0.mk (Kd.R_after (ok := (fun k_ => some k_ ≠ (.slice Ao81 t233.length co81 : Value).ownBlock ∧ some k_ ≠ (.slice Ao80 t239.length co80 : Value).ownBlock ∧ some k_ ≠ (v273 : Value).ownBlock)) (by (with_reducible repeat (first | apply Kd.R_alloc | apply Kd.R_drewN | apply Kd.R_drew)); exact Kd.R_mono HO270.out (fun _ hk => ⟨⟨hk.1.1.1.2, ⟨hk.1.1.2, hk.1.2⟩⟩, hk.2⟩)) hg hat); have n3_ := Aside0.mk (Kd.R_after (ok := (fun k_ => some k_ ≠ (.slice Ao81 t233.length co81 : Value).ownBlock ∧ some k_ ≠ (.slice Ao80 t239.length co80 : Value).ownBlock ∧ some k_ ≠ (.slice Ao84 t268.length co84 : Value).ownBlock)) (by (with_reducible repeat (first | apply Kd.R_alloc | apply Kd.R_drewN | apply Kd.R_drew)); exact Kd.R_mono HO274.out (fun _ hk => ⟨⟨hk.1.1.1.2, ⟨hk.1.1.2, hk.1.2⟩⟩, hk.2⟩)) hg hat); have n4_ := Aside0.mk (hb); have n5_ := Aside0.mk (ho); clear HO_9; clear HO241; clear HO270; clear HO274; clear HB; clear HO277; have HO_9 := n0_; have HO241 := n1_; have HO270 := n2_; have HO274 := n3_; have HB := n4_; have HO280 := n5_; clear n0_ n1_ n2_ n3_ n4_ n5_; clear ho hb hg hat) | ((with_reducible refine gate_builtin (b := .append) (xs := #[.tmp 100, .tmp 101]) rfl ?_); (try (refine gate_guard (by rfl) ?_; dsimp only)); at_builtin; refine Kd.R_append_rows (Kd.int .i64) (w0 := w) w.heap.size rfl (.tmp 100) (.tmp 101) 22 2 (.int .i64 0) 8 rfl Try.underlying22 info2 rfl (by decide) (by omega) v279 y278 l1 _ _ _ (fun k_ => some k_ ≠ (.slice Ao81 t233.length co81 : Value).ownBlock ∧ some k_ ≠ (.slice Ao80 t239.length co80 : Value).ownBlock ∧ some k_ ≠ (.slice Ao84 t268.length co84 : Value).ownBlock ∧ some k_ ≠ (v273 : Value).ownBlock) (fun _ => False) rfl rfl ?aO ?aR (fun _ _ h => h) (fun _ h => h.elim) ?aF ?aB ?aS ?aL ?_; (case aR => repeat (first | exact (Kd.C_below HR1.out HB.out) | (with_reducible refine Kd.C_alloc ?_ _) | (with_reducible refine Kd.C_drewN ?_ _) | (with_reducible refine Kd.C_drew ?_))); (case aB => exact (by repeat (first | (with_reducible first | exact HB.out | apply below_alloc | apply pw_below_drewN | apply below_drew1) | exact HB.out))); (case aF => exact (fun k_ hk => ⟨Kd.fresh' (Kd.R_lt (by (with_reducible repeat (first | apply Kd.R_alloc | apply Kd.R_drewN | apply Kd.R_drew)); exact HO_9.out)) k_ hk, Kd.fresh' (Kd.R_lt (by (with_reducible repeat (first | apply Kd.R_alloc | apply Kd.R_drewN | apply Kd.R_drew)); exact HO241.out)) k_ hk, Kd.fresh' (Kd.R_lt (by (with_reducible repeat (first | apply Kd.R_alloc | apply Kd.R_drewN | apply Kd.R_drew)); exact HO270.out)) k_ hk, Kd.fresh' (Kd.R_lt (by (with_reducible repeat (first | apply Kd.R_alloc | apply Kd.R_drewN | apply Kd.R_drew)); exact HO274.out)) k_ hk⟩)); (case aO => exact (by (with_reducible repeat (first | apply Kd.R_alloc | apply Kd.R_drewN | apply Kd.R_drew)); exact HO280.out)); (case aS => exact (below_size (by repeat (first | (with_reducible first | exact HB.out | apply below_alloc | apply pw_below_drewN | apply below_drew1) | exact HB.out)))); (case aL => have := LMc75.out; omega); intro v282 w89 ho hb hg hat; rw [← Ny281.out] at ho; have n0_ := Aside0.mk (Kd.R_after (ok := (fun k_ => some k_ ≠ (.slice Ao80 t239.length co80 : Value).ownBlock ∧ some k_ ≠ (.slice Ao84 t268.length co84 : Value).ownBlock ∧ some k_ ≠ (v273 : Value).ownBlock)) (by (with_reducible repeat (first | apply Kd.R_alloc | apply Kd.R_drewN | apply Kd.R_drew)); exact HO_9.out) hg hat); have n1_ := Aside0.mk (Kd.R_after (ok := (fun k_ => some k_ ≠ (.slice Ao81 t233.length co81 : Value).ownBlock ∧ some k_ ≠ (.slice Ao84 t268.length co84 : Value).ownBlock ∧ some k_ ≠ (v273 : Value).ownBlock)) (by (with_reducible repeat (first | apply Kd.R_alloc | apply Kd.R_drewN | apply Kd.R_drew)); exact HO241.out) hg hat); have n2_ := Aside0.mk (Kd.R_after (ok := (fun k_ => some k_ ≠ (.slice Ao81 t233.length co81 : Value).ownBlock ∧ some k_ ≠ (.slice Ao80 t239.length co80 : Value).ownBlock ∧ some k_ ≠ (v273 : Value).ownBlock)) (by (with_reducible repeat (first | apply Kd.R_alloc | apply Kd.R_drewN | apply Kd.R_drew)); exact HO270.out) hg hat); have n3_ := Aside0.mk (Kd.R_after (ok := (fun k_ => some k_ ≠ (.slice Ao81 t233.length co81 : Value).ownBlock ∧ some k_ ≠ (.slice Ao80 t239.length co80 : Value).ownBlock ∧ some k_ ≠ (.slice Ao84 t268.length co84 : Value).ownBlock)) (by (with_reducible repeat (first | apply Kd.R_alloc | apply Kd.R_drewN | apply Kd.R_drew)); exact HO274.out) hg hat); have n4_ := Aside0.mk (hb); have n5_ := Aside0.mk (ho); clear HO_9; clear HO241; clear HO270; clear HO274; clear HB; clear HO280; have HO_9 := n0_; have HO241 := n1_; have HO270 := n2_; have HO274 := n3_; have HB := n4_; have HO283 := n5_; clear n0_ n1_ n2_ n3_ n4_ n5_; clear ho hb hg hat; obtain ⟨Ao90, co90, eo90⟩ := Kd.R_slice HO283.out; subst eo90) | (go_at_call 20; (with_reducible refine (quorumiteref9_Sort.calls _ _ y281 t284 _ ?side1 ?side2 A76.out).mono ?_); (case side1 => repeat (first | exact (Kd.R_reads' HO283.out).2.2 | (with_reducible refine Kd.C_alloc ?_ _) | (with_reducible refine Kd.C_drewN ?_ _) | (with_reducible refine Kd.C_drew ?_))); (case side2 => exact (Kd.R_reads' HO283.out).2.1); rintro e w91 ⟨v285, rfl, ho0, hb⟩; have n0_ := Aside0.mk (Kd.R_elder' (by (with_reducible repeat (first | apply Kd.R_alloc | apply Kd.R_drewN | apply Kd.R_drew)); exact HO_9.out) (Kd.R_base ho0) hb); have n1_ := Aside0.mk (Kd.R_elder' (by (with_reducible repeat (first | apply Kd.R_alloc | apply Kd.R_drewN | apply Kd.R_drew)); exact HO241.out) (Kd.R_base ho0) hb); have n2_ := Aside0.mk (Kd.R_elder' (by (with_reducible repeat (first | apply Kd.R_alloc | apply Kd.R_drewN | apply Kd.R_drew)); exact HO270.out) (Kd.R_base ho0) hb); have n3_ := Aside0.mk (Kd.R_elder' (by (with_reducible repeat (first | apply Kd.R_alloc | apply Kd.R_drewN | apply Kd.R_drew)); exact HO274.out) (Kd.R_base ho0) hb); have n4_ := Aside0.mk (Kd.R_elder' (by (with_reducible repeat (first | apply Kd.R_alloc | apply Kd.R_drewN | apply Kd.R_drew)); exact HO283.out) (Kd.R_base ho0) hb); have n5_ := Aside0.mk (Kd.R_lower (Kd.R_new' (Kd.R_new' (Kd.R_new' (Kd.R_new' (Kd.R_new' ho0 (Kd.R_lt (by (with_reducible repeat (first | apply Kd.R_alloc | apply Kd.R_drewN | apply Kd.R_drew)); exact HO_9.out))) (Kd.R_lt (by (with_reducible repeat (first | apply Kd.R_alloc | apply Kd.R_drewN | apply Kd.R_drew)); exact HO241.out))) (Kd.R_lt (by (with_reducible repeat (first | apply Kd.R_alloc | apply Kd.R_drewN | apply Kd.R_drew)); exact HO270.out))) (Kd.R_lt (by (with_reducible repeat (first | apply Kd.R_alloc | apply Kd.R_drewN | apply Kd.R_drew)); exact HO274.out))) (Kd.R_lt (by (with_reducible repeat (first | apply Kd.R_alloc | apply Kd.R_drewN | apply Kd.R_drew)); exact HO283.out))) (below_size (by repeat (first | (with_reducible first | exact HB.out | apply below_alloc | apply pw_below_drewN | apply below_drew1) | exact HB.out)))); have n6_ := Aside0.mk (below_step (by repeat (first | (with_reducible first | exact HB.out | apply below_alloc | apply pw_below_drewN | apply below_drew1) | exact HB.out)) hb); clear HO_9; clear HO241; clear HO270; clear HO274; clear HO283; clear HB; have HO_9 := n0_; have HO241 := n1_; have HO270 := n2_; have HO274 := n3_; have HO283 := n4_; have HO286 := n5_; have HB := n6_; clear n0_ n1_ n2_ n3_ n4_ n5_ n6_; (try clear hb); (try clear hb2); (try clear hk); (try clear hi); (try clear ho0); obtain ⟨Ao92, co92, eo92⟩ := Kd.R_slice HO274.out; subst eo92; obtain ⟨Ao93, co93, eo93⟩ := Kd.R_slice HO286.out; subst eo93) | (go_at_call 22; (with_reducible refine (quorumiteref9_SameList.calls kj11 _ _ t272 _ _ t284 t287 _ ?side1 ?side2 ?side3 ?side4 A77.out).mono ?_); (case side1 => repeat (first | exact (Kd.R_reads' HO274.out).2.2 | (with_reducible refine Kd.C_alloc ?_ _) | (with_reducible refine Kd.C_drewN ?_ _) | (with_reducible refine Kd.C_drew ?_))); (case side2 => exact (Kd.R_reads' HO274.out).2.1); (case side3 => repeat (first | exact (Kd.R_reads' HO286.out).2.2 | (with_reducible refine Kd.C_alloc ?_ _) | (with_reducible refine Kd.C_drewN ?_ _) | (with_reducible refine Kd.C_drew ?_))); (case side4 => exact (Kd.R_reads' HO286.out).2.1); rintro e w' ⟨rfl, ⟨nd, rfl⟩⟩))
                              go_ret
                              exact ⟨by first | rfl | (simp [errW_none, errW_some] <;> rfl) | (simp [*, errW_none, errW_some] <;> rfl), by repeat (first | (with_reducible first | exact HB.out | apply below_alloc | apply pw_below_drewN | apply below_drew1) | exact HB.out)⟩
                            · rw [if_neg c75] at H
                              exact absurd H (by simp)
                          · rw [if_neg c74] at H
                            exact absurd H (by simp)
                        · rw [if_neg c72] at H
                          have c72b0 : (t267 == t271) = false := by simpa using c72
                          (try (have c72b1 : decide (t267 = t271) = false := by simpa using c72))
                          (try (have c72b2 : (t267 == t271) = false := by simpa using c72))
                          (try (have c72b3 : ¬ (t267 = t271) := by simpa using c72))
                          clear c72
                          exact absurd ((Option.some.inj H).trans HRT.out) (by decide)
                      · rw [if_neg c68] at H
                        have c68b0 : (t236 == 0) = false := beq_eq_false_iff_ne.mpr c68
                        have c68b1 : (t236 != 0) = true := bne_iff_ne.mpr c68
                        exact absurd ((Option.some.inj H).trans HRT.out) (by decide)
                  · rw [if_neg c24] at H
                    have c24b0 : (t237 == x12_11) = false := by simpa using c24
                    (try (have c24b1 : decide (t237 = x12_11) = false := by simpa using c24))
                    (try (have c24b2 : (t237 == x12_11) = false := by simpa using c24))
                    (try (have c24b3 : ¬ (t237 = x12_11) := by simpa using c24))
                    clear c24
                    exact absurd ((Option.some.inj H).trans HRT.out) (by decide)
                · rw [if_neg c23] at H
                  have c23b0 : (t243 == t244) = false := beq_eq_false_iff_ne.mpr c23
                  have c23b1 : (t243 != t244) = true := bne_iff_ne.mpr c23
                  exact absurd ((Option.some.inj H).trans HRT.out) (by decide)
              · replace c20 := Bool.eq_false_iff.mpr c20
                subst c20
                have H1 : (some false) = some r := by rw [if_neg (show ¬ (false = true) by decide)] at H; exact H
                clear H
                have H := H1
                clear H1
                exact absurd ((Option.some.inj H).trans HRT.out) (by decide)
            · replace c17 := Bool.eq_false_iff.mpr c17
              subst c17
              have H1 : (some false) = some r := by rw [if_neg (show ¬ (false = true) by decide)] at H; exact H
              clear H
              have H := H1
              clear H1
              exact absurd ((Option.some.inj H).trans HRT.out) (by decide)

/-- THE ONE PURE STATEMENT of quorumitelaw9_OrderAsks: yours. -/
def quorumitelaw9_OrderAsks.Pure : Prop := ∀ (l0 : List Int) (l1 : List Int) (a2 : Int) (a3 : Int), l0.length ≤ maxLen → l0.length * 8 ≤ 140737488351232 → (∀ x ∈ l0, (Lit.int .i64 x).wf = true) → l1.length ≤ maxLen → l1.length * 8 ≤ 140737488351232 → (∀ x ∈ l1, (Lit.int .i64 x).wf = true) → (Lit.int .i64 a2).wf = true → (Lit.int .i64 a3).wf = true → ∃ k, quorumitelaw9_OrderAsks.f k l0 l1 a2 a3 = some true
theorem quorumitelaw9_OrderAsks.walk (P : quorumitelaw9_OrderAsks.Pure) (a0 : Option Addr) (len0 cap0 : Nat) (z0 : List Int) (a1 : Option Addr) (len1 cap1 : Nat) (z1 : List Int) (a2 : Int) (a3 : Int) (w : World) (w0 : (a0 = none ∧ len0 = 0 ∧ cap0 = 0 ∧ z0 = []) ∨ ∃ x, a0 = some x ∧ len0 ≤ cap0 ∧ cap0 ≤ maxLen ∧ z0.length = cap0 ∧ (∀ i, i < z0.length → w.cell? (x.add i) = some (.int .i64 (z0.getD i 0))) ∧ ∀ n ∈ z0, (Lit.int .i64 n).wf = true) (y0 : len0 * 8 ≤ 140737488351232) (w1 : (a1 = none ∧ len1 = 0 ∧ cap1 = 0 ∧ z1 = []) ∨ ∃ x, a1 = some x ∧ len1 ≤ cap1 ∧ cap1 ≤ maxLen ∧ z1.length = cap1 ∧ (∀ i, i < z1.length → w.cell? (x.add i) = some (.int .i64 (z1.getD i 0))) ∧ ∀ n ∈ z1, (Lit.int .i64 n).wf = true) (y1 : len1 * 8 ≤ 140737488351232) (w2 : (Lit.int .i64 a2).wf = true) (w3 : (Lit.int .i64 a3).wf = true) :
    Calls Try.prog 4 #[.slice a0 len0 cap0, .slice a1 len1 cap1, .int .i64 a2, .int .i64 a3] w fun e w' => e = .returned (.bool true) ∧ Below w.heap.size w w' := by
  obtain ⟨l0, rfl, hr0, hm0, hw0, hc0⟩ := ReadsInt.ofRowC w0
  obtain ⟨l1, rfl, hr1, hm1, hw1, hc1⟩ := ReadsInt.ofRowC w1
  obtain ⟨k, h⟩ := P l0 l1 a2 a3 hm0 y0 hw0 hm1 y1 hw1 w2 w3
  refine (quorumitelaw9_OrderAsks.calls k _ _ l0 _ _ l1 a2 a3 true w (Kd.C_of_reads (d := (0 : Int)) (h1 := fun _ => rfl) hr0) hc0 (Kd.C_of_reads (d := (0 : Int)) (h1 := fun _ => rfl) hr1) hc1 rfl h).mono ?_
  rintro e w' ⟨rfl, hd⟩
  exact ⟨rfl, hd⟩

end Go.Proofs.Ytjcjibghnpjegaa.Pr
