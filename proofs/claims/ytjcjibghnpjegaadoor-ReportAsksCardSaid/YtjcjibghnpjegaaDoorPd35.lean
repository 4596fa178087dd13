-- Made by a program of this session (wip: patch_print.py, patch_arr.py, prD.sh) out of the kit's print: functions over lists and the proof that the Go code comes to them.
import Derived.Test.YtjcjibghnpjegaaDoorPd0
import Derived.Test.YtjcjibghnpjegaaDoorPd2
import Derived.Test.YtjcjibghnpjegaaDoorPd26
import Derived.Test.YtjcjibghnpjegaaDoorPd27
import Derived.Test.YtjcjibghnpjegaaDoorPd28
import Derived.Test.YtjcjibghnpjegaaDoorPd29
import Derived.Test.YtjcjibghnpjegaaDoorPd30
import Derived.Test.YtjcjibghnpjegaaDoorPd33
import Derived.Test.YtjcjibghnpjegaaDoorPd34
namespace Go.Proofs.YtjcjibghnpjegaaDoor.Pd
open Go.RowKit Go.Proofs.YtjcjibghnpjegaaDoorW.PrintWords Go.Proofs.YtjcjibghnpjegaaDoorW.PrintLast Go.Proofs.YtjcjibghnpjegaaDoorW.PrintMore
attribute [local go_sem] max2_int min2_int max_two min_two max_three min_three max_four min_four   -- for this text's walks alone
set_option linter.unusedVariables false
set_option linter.unusedSimpArgs false

/-! ### quorumitelaw27_ReportAsks: function 5 -/
mutual
def quorumitelaw27_ReportAsks.l0 : Nat → Int → List (S29) → Int → Int → Int → Int → Option (Bool)
  | 0, _, _, _, _, _, _ => none
  | k + 1, x0, x1, x5, x6, x7, x8 => if x8 < (x1.length : Int) then (if 0 ≤ x8 then ((report_Line.f k ((rd_T29 x1 x8).f0) ((rd_T29 x1 x8).f1) ((rd_T29 x1 x8).f2.f0) ((rd_T29 x1 x8).f2.f1) ((rd_T29 x1 x8).f2.f2) ((rd_T29 x1 x8).f2.f3) ((rd_T29 x1 x8).f2.f4.f0) ((rd_T29 x1 x8).f2.f4.f1) ((rd_T29 x1 x8).f2.f4.f2) ((rd_T29 x1 x8).f2.f4.f3)).bind fun t187 => ((quorumiteref25_Line.f k ((rd_T29 x1 x8).f0) ((rd_T29 x1 x8).f1) ((rd_T29 x1 x8).f2.f0) ((rd_T29 x1 x8).f2.f1) ((rd_T29 x1 x8).f2.f2) ((rd_T29 x1 x8).f2.f3) ((rd_T29 x1 x8).f2.f4.f0) ((rd_T29 x1 x8).f2.f4.f1) ((rd_T29 x1 x8).f2.f4.f2) ((rd_T29 x1 x8).f2.f4.f3)).bind fun t189 => (if t187.toList = t189.toList then (if ((rd_T29 x1 x8).f0) = 6 then (if ((rd_T29 x1 x8).f1) = 0 then (quorumitelaw27_ReportAsks.j1 k x0 x1 x5 x6 x7 x8 ((rd_T29 x1 x8).f2.f3)) else (quorumitelaw27_ReportAsks.j1 k x0 x1 x5 x6 x7 x8 false)) else (quorumitelaw27_ReportAsks.j1 k x0 x1 x5 x6 x7 x8 false)) else (some false)))) else (none)) else ((report_Counts.f k x1).bind fun bt197 => ((quorumitelaw27_told.f k).bind fun t200 => (if t200 = true then ((report_Code.f x0).bind fun t201 => ((quorumiteref25_Word.f x0).bind fun t202 => (if t201.toList = t202.toList then ((report_All.f k x1).bind fun t203 => ((quorumiteref25_Lines.f k x1).bind fun t204 => (if t203.toList = t204.toList then (if bt197.1 = x5 then (if bt197.2.1 = x6 then (some (bt197.2.2 == x7)) else (some false)) else (some false)) else (some false)))) else (some false)))) else (some false))))
def quorumitelaw27_ReportAsks.j1 : Nat → Int → List (S29) → Int → Int → Int → Int → Bool → Option (Bool)
  | 0, _, _, _, _, _, _, _ => none
  | k + 1, x0, x1, x5, x6, x7, x8, x33 => if x33 = true then (quorumitelaw27_ReportAsks.l0 k x0 x1 x5 (wrap64 (x6 + 1)) x7 (wrap64 (x8 + 1))) else (if 0 ≤ x8 then (if x8 < (x1.length : Int) then (if ((rd_T29 x1 x8).f0) = 6 then (quorumitelaw27_ReportAsks.j2 k x0 x1 x5 x6 x7 x8 (((rd_T29 x1 x8).f1) == 0)) else (quorumitelaw27_ReportAsks.j2 k x0 x1 x5 x6 x7 x8 false)) else (none)) else (none))
def quorumitelaw27_ReportAsks.j2 : Nat → Int → List (S29) → Int → Int → Int → Int → Bool → Option (Bool)
  | 0, _, _, _, _, _, _, _ => none
  | k + 1, x0, x1, x5, x6, x7, x8, x58 => if x58 = true then (quorumitelaw27_ReportAsks.l0 k x0 x1 (wrap64 (x5 + 1)) x6 x7 (wrap64 (x8 + 1))) else (if 0 ≤ x8 then (if x8 < (x1.length : Int) then (if ((rd_T29 x1 x8).f0) = 2 then (if ((rd_T29 x1 x8).f1) = 0 then (quorumitelaw27_ReportAsks.l0 k x0 x1 x5 x6 x7 (wrap64 (x8 + 1))) else (quorumitelaw27_ReportAsks.l0 k x0 x1 x5 x6 (wrap64 (x7 + 1)) (wrap64 (x8 + 1)))) else (quorumitelaw27_ReportAsks.l0 k x0 x1 x5 x6 x7 (wrap64 (x8 + 1)))) else (none)) else (none))
end
def quorumitelaw27_ReportAsks.f (k : Nat) (a0 : Int) (l1 : List (S29)) : Option (Bool) := if (l1.length : Int) > 30 then ((quorumitelaw27_told.f k).bind fun t185 => (some t185)) else (quorumitelaw27_ReportAsks.l0 k a0 l1 0 0 0 0)
theorem quorumitelaw27_ReportAsks.mono_l : ∀ k, (∀ y0 y1 y2 y3 y4 y5, LeO (quorumitelaw27_ReportAsks.l0 k y0 y1 y2 y3 y4 y5) (quorumitelaw27_ReportAsks.l0 (k + 1) y0 y1 y2 y3 y4 y5)) ∧ (∀ y0 y1 y2 y3 y4 y5 y6, LeO (quorumitelaw27_ReportAsks.j1 k y0 y1 y2 y3 y4 y5 y6) (quorumitelaw27_ReportAsks.j1 (k + 1) y0 y1 y2 y3 y4 y5 y6)) ∧ (∀ y0 y1 y2 y3 y4 y5 y6, LeO (quorumitelaw27_ReportAsks.j2 k y0 y1 y2 y3 y4 y5 y6) (quorumitelaw27_ReportAsks.j2 (k + 1) y0 y1 y2 y3 y4 y5 y6))
  | 0 => ⟨fun _ _ _ _ _ _ r h => by simp [quorumitelaw27_ReportAsks.l0] at h, fun _ _ _ _ _ _ _ r h => by simp [quorumitelaw27_ReportAsks.j1] at h, fun _ _ _ _ _ _ _ r h => by simp [quorumitelaw27_ReportAsks.j2] at h⟩
  | k + 1 => by
    obtain ⟨ih0, ih1, ih2⟩ := quorumitelaw27_ReportAsks.mono_l k
    refine ⟨?_, ?_, ?_⟩
    · intro y0 y1 y2 y3 y4 y5
      unfold quorumitelaw27_ReportAsks.l0
      repeat' first
      | (with_reducible exact ih0 _ _ _ _ _ _)
      | (with_reducible exact ih1 _ _ _ _ _ _ _)
      | (with_reducible exact ih2 _ _ _ _ _ _ _)
      | (with_reducible exact quorumitelaw27_told.mono _)
      | (with_reducible exact quorumiteref25_Line.mono _ _ _ _ _ _ _ _ _ _ _)
      | (with_reducible exact quorumiteref25_Lines.mono _ _)
      | (with_reducible exact report_All.mono _ _)
      | (with_reducible exact report_Counts.mono _ _)
      | (with_reducible exact report_Line.mono _ _ _ _ _ _ _ _ _ _ _)
      | (with_reducible exact LeO.refl _)
      | (with_reducible exact LeO.none _)
      | (with_reducible refine LeO.ite ?_ ?_)
      | (with_reducible refine LeO.bind ?_ (fun _ => ?_))
      | exact ih0 _ _ _ _ _ _
      | exact ih1 _ _ _ _ _ _ _
      | exact ih2 _ _ _ _ _ _ _
      | exact quorumitelaw27_told.mono _
      | exact quorumiteref25_Line.mono _ _ _ _ _ _ _ _ _ _ _
      | exact quorumiteref25_Lines.mono _ _
      | exact report_All.mono _ _
      | exact report_Counts.mono _ _
      | exact report_Line.mono _ _ _ _ _ _ _ _ _ _ _
      | exact LeO.none _
      | refine LeO.ite ?_ ?_
      | refine LeO.bind ?_ (fun _ => ?_)
    · intro y0 y1 y2 y3 y4 y5 y6
      unfold quorumitelaw27_ReportAsks.j1
      repeat' first
      | (with_reducible exact ih0 _ _ _ _ _ _)
      | (with_reducible exact ih1 _ _ _ _ _ _ _)
      | (with_reducible exact ih2 _ _ _ _ _ _ _)
      | (with_reducible exact quorumitelaw27_told.mono _)
      | (with_reducible exact quorumiteref25_Line.mono _ _ _ _ _ _ _ _ _ _ _)
      | (with_reducible exact quorumiteref25_Lines.mono _ _)
      | (with_reducible exact report_All.mono _ _)
      | (with_reducible exact report_Counts.mono _ _)
      | (with_reducible exact report_Line.mono _ _ _ _ _ _ _ _ _ _ _)
      | (with_reducible exact LeO.refl _)
      | (with_reducible exact LeO.none _)
      | (with_reducible refine LeO.ite ?_ ?_)
      | (with_reducible refine LeO.bind ?_ (fun _ => ?_))
      | exact ih0 _ _ _ _ _ _
      | exact ih1 _ _ _ _ _ _ _
      | exact ih2 _ _ _ _ _ _ _
      | exact quorumitelaw27_told.mono _
      | exact quorumiteref25_Line.mono _ _ _ _ _ _ _ _ _ _ _
      | exact quorumiteref25_Lines.mono _ _
      | exact report_All.mono _ _
      | exact report_Counts.mono _ _
      | exact report_Line.mono _ _ _ _ _ _ _ _ _ _ _
      | exact LeO.none _
      | refine LeO.ite ?_ ?_
      | refine LeO.bind ?_ (fun _ => ?_)
    · intro y0 y1 y2 y3 y4 y5 y6
      unfold quorumitelaw27_ReportAsks.j2
      repeat' first
      | (with_reducible exact ih0 _ _ _ _ _ _)
      | (with_reducible exact ih1 _ _ _ _ _ _ _)
      | (with_reducible exact ih2 _ _ _ _ _ _ _)
      | (with_reducible exact quorumitelaw27_told.mono _)
      | (with_reducible exact quorumiteref25_Line.mono _ _ _ _ _ _ _ _ _ _ _)
      | (with_reducible exact quorumiteref25_Lines.mono _ _)
      | (with_reducible exact report_All.mono _ _)
      | (with_reducible exact report_Counts.mono _ _)
      | (with_reducible exact report_Line.mono _ _ _ _ _ _ _ _ _ _ _)
      | (with_reducible exact LeO.refl _)
      | (with_reducible exact LeO.none _)
      | (with_reducible refine LeO.ite ?_ ?_)
      | (with_reducible refine LeO.bind ?_ (fun _ => ?_))
      | exact ih0 _ _ _ _ _ _
      | exact ih1 _ _ _ _ _ _ _
      | exact ih2 _ _ _ _ _ _ _
      | exact quorumitelaw27_told.mono _
      | exact quorumiteref25_Line.mono _ _ _ _ _ _ _ _ _ _ _
      | exact quorumiteref25_Lines.mono _ _
      | exact report_All.mono _ _
      | exact report_Counts.mono _ _
      | exact report_Line.mono _ _ _ _ _ _ _ _ _ _ _
      | exact LeO.none _
      | refine LeO.ite ?_ ?_
      | refine LeO.bind ?_ (fun _ => ?_)
theorem quorumitelaw27_ReportAsks.mono : ∀ a0 a1 k, LeO (quorumitelaw27_ReportAsks.f k a0 a1) (quorumitelaw27_ReportAsks.f (k + 1) a0 a1) := by
  intro a0 a1 k
  obtain ⟨ih0, ih1, ih2⟩ := quorumitelaw27_ReportAsks.mono_l k
  unfold quorumitelaw27_ReportAsks.f
  repeat' first
      | (with_reducible exact ih0 _ _ _ _ _ _)
      | (with_reducible exact ih1 _ _ _ _ _ _ _)
      | (with_reducible exact ih2 _ _ _ _ _ _ _)
      | (with_reducible exact quorumitelaw27_told.mono _)
      | (with_reducible exact quorumiteref25_Line.mono _ _ _ _ _ _ _ _ _ _ _)
      | (with_reducible exact quorumiteref25_Lines.mono _ _)
      | (with_reducible exact report_All.mono _ _)
      | (with_reducible exact report_Counts.mono _ _)
      | (with_reducible exact report_Line.mono _ _ _ _ _ _ _ _ _ _ _)
      | (with_reducible exact LeO.refl _)
      | (with_reducible exact LeO.none _)
      | (with_reducible refine LeO.ite ?_ ?_)
      | (with_reducible refine LeO.bind ?_ (fun _ => ?_))
      | exact ih0 _ _ _ _ _ _
      | exact ih1 _ _ _ _ _ _ _
      | exact ih2 _ _ _ _ _ _ _
      | exact quorumitelaw27_told.mono _
      | exact quorumiteref25_Line.mono _ _ _ _ _ _ _ _ _ _ _
      | exact quorumiteref25_Lines.mono _ _
      | exact report_All.mono _ _
      | exact report_Counts.mono _ _
      | exact report_Line.mono _ _ _ _ _ _ _ _ _ _ _
      | exact LeO.none _
      | refine LeO.ite ?_ ?_
      | refine LeO.bind ?_ (fun _ => ?_)
def quorumitelaw27_ReportAsks.T7 : Bool × List (List Nat × List Nat) := (true, [([], []), ([], []), ([0, 1], [0, 1]), ([2], [2]), ([3], [3]), ([], []), ([], []), ([5, 6], [5, 6]), ([7], [7]), ([8, 4], [8]), ([4, 9], [4, 9])])
def quorumitelaw27_ReportAsks.B7 : List Nat := [0, 0, 3, 7, 15, 0, 0, 96, 224, 511, 1023]
theorem quorumitelaw27_ReportAsks.tab7 : rtab .any (opsOf Tryd.f5 7) = quorumitelaw27_ReportAsks.T7 := by kernel_rfl
theorem quorumitelaw27_ReportAsks.bits7 : waitsOk quorumitelaw27_ReportAsks.T7.2 quorumitelaw27_ReportAsks.B7 = true := by kernel_rfl
set_option maxHeartbeats 8000000 in
set_option maxRecDepth 100000 in
theorem quorumitelaw27_ReportAsks.calls (k : Nat) (a0 : Int) (A1 : Option Addr) (c1 : Nat) (l1 : List (S29)) (r : Bool) (w : World) (HTB : Aside0 (TabOk w)) (hr1 : Kd.C k29 w A1 l1.length l1) (hc1 : l1.length ≤ c1) (hrt : r = true) (h : quorumitelaw27_ReportAsks.f k a0 l1 = some r) :
    Calls Tryd.prog 5 #[.int .i64 a0, .slice A1 l1.length c1] w fun e w' => e = .returned (.bool r) ∧ Below w.heap.size w w' := by
  have HRT := Aside0.mk hrt
  clear hrt
  have hu29 := Tryd.underlying29
  have HR1 := Aside0.mk hr1
  have HC1 := Aside0.mk hc1
  clear hr1 hc1
  have HB := Aside0.mk (Below.refl w.heap.size w)
  have H : (if (l1.length : Int) > 30 then ((quorumitelaw27_told.f k).bind fun t185 => (some t185)) else (quorumitelaw27_ReportAsks.l0 k a0 l1 0 0 0 0)) = some r := h
  clear h
  by_cases c3 : (l1.length : Int) > 30
  · rw [if_pos c3] at H
    have c3b0 : decide (30 < (l1.length : Int)) = true := decide_eq_true c3
    have c3b1 : decide (30 < l1.length) = true := decide_eq_true (by omega)
    clear c3
    replace H := Option.bind_eq_some_iff.mp H
    obtain ⟨t185, A40, H⟩ := H
    replace H : (some t185) = some r := H
    have A4 := Aside0.mk A40
    clear A40
    obtain rfl := Option.some.inj H
    go_enter Tryd.func5, Tryd.ntmps5
    (try simp only [@List.append_eq Oper, @List.cons_append Oper, @List.nil_append Oper] at *)
    go_wp2_with (first | ((with_reducible refine gate_callee (f := 8) rfl ?_); refine goesL_ (some 15) rfl rfl Tryd.func8 (by kernel_rfl) rfl #[] rfl (by (try simp only [List.map_toArray, List.map_cons, List.map_nil]); first | done | rfl | (simp only [List.length_drop, List.length_take]; rfl)) ?_; (with_reducible refine (quorumitelaw27_told.calls k  t185 _ (tab_at HTB (by repeat (first | (with_reducible first | exact HB.out | apply below_alloc | apply pw_below_drewN | apply below_drew1) | exact HB.out))) HRT.out A4.out).mono ?_); rintro e w5 ⟨rfl, hb⟩; refine ⟨_, rfl, ?_⟩; have n0_ := Aside0.mk (below_step (by repeat (first | (with_reducible first | exact HB.out | apply below_alloc | apply pw_below_drewN | apply below_drew1) | exact HB.out)) hb); clear HB; have HB := n0_; clear n0_; (try clear hb); (try clear hb2); (try clear hk); (try clear hi)))
    go_ret
    exact ⟨by first | rfl | (simp [errW_none, errW_some] <;> rfl) | (simp [*, errW_none, errW_some] <;> rfl), by repeat (first | (with_reducible first | exact HB.out | apply below_alloc | apply pw_below_drewN | apply below_drew1) | exact HB.out)⟩
  · rw [if_neg c3] at H
    have c3b0 : decide (30 < (l1.length : Int)) = false := decide_eq_false c3
    have c3b1 : decide (30 < l1.length) = false := decide_eq_false (by omega)
    clear c3
    have H' := Aside0.mk H
    clear H
    go_enter Tryd.func5, Tryd.ntmps5
    go_wp2
    go_loopg [5, 6, 7, 8] k (fun kq v5 v6 v7 v8 w' => ∃ (x5_1 : Int) (x6_1 : Int) (x7_1 : Int) (x8_1 : Int), v5 = .int .i64 x5_1 ∧ v6 = .int .i64 x6_1 ∧ v7 = .int .i64 x7_1 ∧ v8 = .int .i64 x8_1 ∧ Aside0 (quorumitelaw27_ReportAsks.l0 kq a0 l1 x5_1 x6_1 x7_1 x8_1 = some r) ∧ Aside0 (kq ≤ k) ∧ Aside0 (Below w.heap.size w w'))
    case atStart => exact ⟨(0), (0), (0), (0), (by first | rfl | (simp; done) | (simp [*]; done)), (by first | rfl | (simp; done) | (simp [*]; done)), (by first | rfl | (simp; done) | (simp [*]; done)), (by first | rfl | (simp; done) | (simp [*]; done)), H', ⟨Nat.le_refl _⟩, ⟨by repeat (first | (with_reducible first | exact HB.out | apply below_alloc | apply pw_below_drewN | apply below_drew1) | exact HB.out)⟩⟩
    case round =>
      clear H'
      try clear c1
      try clear p2
      try clear c3
      try clear c3b0
      try clear c3b1
      try clear c5
      obtain ⟨x5_1, x6_1, x7_1, x8_1, rfl, rfl, rfl, rfl, HA, HK1, HB⟩ := hrel
      cases gk with
      | zero => exact absurd HA.out (by simp [quorumitelaw27_ReportAsks.l0])
      | succ k1 =>
        have H := HA.out
        clear HA
        simp only [quorumitelaw27_ReportAsks.l0] at H
        by_cases c6 : x8_1 < (l1.length : Int)
        · rw [if_pos c6] at H
          have c6b0 : decide (x8_1 < (l1.length : Int)) = true := decide_eq_true c6
          clear c6
          by_cases c7 : 0 ≤ x8_1
          · rw [if_pos c7] at H
            have c7b0 : decide (0 ≤ x8_1) = true := decide_eq_true c7
            clear c7
            replace H := Option.bind_eq_some_iff.mp H
            obtain ⟨t187, A80, H⟩ := H
            replace H : ((quorumiteref25_Line.f k1 ((rd_T29 l1 x8_1).f0) ((rd_T29 l1 x8_1).f1) ((rd_T29 l1 x8_1).f2.f0) ((rd_T29 l1 x8_1).f2.f1) ((rd_T29 l1 x8_1).f2.f2) ((rd_T29 l1 x8_1).f2.f3) ((rd_T29 l1 x8_1).f2.f4.f0) ((rd_T29 l1 x8_1).f2.f4.f1) ((rd_T29 l1 x8_1).f2.f4.f2) ((rd_T29 l1 x8_1).f2.f4.f3)).bind fun t189 => (if t187.toList = t189.toList then (if ((rd_T29 l1 x8_1).f0) = 6 then (if ((rd_T29 l1 x8_1).f1) = 0 then (quorumitelaw27_ReportAsks.j1 k1 a0 l1 x5_1 x6_1 x7_1 x8_1 ((rd_T29 l1 x8_1).f2.f3)) else (quorumitelaw27_ReportAsks.j1 k1 a0 l1 x5_1 x6_1 x7_1 x8_1 false)) else (quorumitelaw27_ReportAsks.j1 k1 a0 l1 x5_1 x6_1 x7_1 x8_1 false)) else (some false))) = some r := H
            have A8 := Aside0.mk A80
            clear A80
            replace H := Option.bind_eq_some_iff.mp H
            obtain ⟨t189, A90, H⟩ := H
            replace H : (if t187.toList = t189.toList then (if ((rd_T29 l1 x8_1).f0) = 6 then (if ((rd_T29 l1 x8_1).f1) = 0 then (quorumitelaw27_ReportAsks.j1 k1 a0 l1 x5_1 x6_1 x7_1 x8_1 ((rd_T29 l1 x8_1).f2.f3)) else (quorumitelaw27_ReportAsks.j1 k1 a0 l1 x5_1 x6_1 x7_1 x8_1 false)) else (quorumitelaw27_ReportAsks.j1 k1 a0 l1 x5_1 x6_1 x7_1 x8_1 false)) else (some false)) = some r := H
            have A9 := Aside0.mk A90
            clear A90
            by_cases c10 : t187.toList = t189.toList
            · rw [if_pos c10] at H
              have c10b0 : (t187.toList == t189.toList) = true := beq_iff_eq.mpr c10
              have c10b1 : (t187.toList != t189.toList) = false := bne_eq_false_iff_eq.mpr c10
              clear c10
              have HC11 := Aside0.mk H
              clear H
              try go_wp2
              have n0_ := Aside0.mk (below_drew1 HB.out)
              clear HB
              have HB := n0_
              clear n0_
              have p186 : 0 ≤ (x8_1 : Int) := of_decide_eq_true (by first | (with_reducible assumption) | assumption)
              have q186 : x8_1 < (l1.length : Int) := of_decide_eq_true (by first | (with_reducible assumption) | assumption)
              obtain ⟨ad186, e186, hx186_0, hx186_1, hx186_2, hx186_3, hx186_4, hx186_5, hx186_6, hx186_7, hx186_8, hx186_9⟩ := at_T29 HR1.out x8_1 p186 q186
              have hw186_9 := hx186_9
              have hw186_8 := hx186_8
              have hw186_7 := hx186_7
              have hw186_6 := hx186_6
              have hw186_5 := hx186_5
              have hw186_4 := hx186_4
              have hw186_3 := hx186_3
              have hw186_2 := hx186_2
              have hw186_1 := hx186_1
              have hw186_0 := hx186_0
              cases e186
              replace hx186_0 := (HB.out.cell (World.block_lt_of_cell? w _ hx186_0)).trans hx186_0
              replace hx186_1 := (HB.out.cell (World.block_lt_of_cell? w _ hx186_1)).trans hx186_1
              replace hx186_2 := (HB.out.cell (World.block_lt_of_cell? w _ hx186_2)).trans hx186_2
              replace hx186_3 := (HB.out.cell (World.block_lt_of_cell? w _ hx186_3)).trans hx186_3
              replace hx186_4 := (HB.out.cell (World.block_lt_of_cell? w _ hx186_4)).trans hx186_4
              replace hx186_5 := (HB.out.cell (World.block_lt_of_cell? w _ hx186_5)).trans hx186_5
              replace hx186_6 := (HB.out.cell (World.block_lt_of_cell? w _ hx186_6)).trans hx186_6
              replace hx186_7 := (HB.out.cell (World.block_lt_of_cell? w _ hx186_7)).trans hx186_7
              replace hx186_8 := (HB.out.cell (World.block_lt_of_cell? w _ hx186_8)).trans hx186_8
              replace hx186_9 := (HB.out.cell (World.block_lt_of_cell? w _ hx186_9)).trans hx186_9
              replace p186 := eq_true p186
              replace q186 := eq_true q186
              have p188 : 0 ≤ (x8_1 : Int) := of_decide_eq_true (by first | (with_reducible assumption) | assumption)
              have q188 : x8_1 < (l1.length : Int) := of_decide_eq_true (by first | (with_reducible assumption) | assumption)
              obtain ⟨ad188, e188, hx188_0, hx188_1, hx188_2, hx188_3, hx188_4, hx188_5, hx188_6, hx188_7, hx188_8, hx188_9⟩ := at_T29 HR1.out x8_1 p188 q188
              have hw188_9 := hx188_9
              have hw188_8 := hx188_8
              have hw188_7 := hx188_7
              have hw188_6 := hx188_6
              have hw188_5 := hx188_5
              have hw188_4 := hx188_4
              have hw188_3 := hx188_3
              have hw188_2 := hx188_2
              have hw188_1 := hx188_1
              have hw188_0 := hx188_0
              obtain rfl : ad186 = ad188 := (by injection e188)
              replace hx188_0 := (HB.out.cell (World.block_lt_of_cell? w _ hx188_0)).trans hx188_0
              replace hx188_1 := (HB.out.cell (World.block_lt_of_cell? w _ hx188_1)).trans hx188_1
              replace hx188_2 := (HB.out.cell (World.block_lt_of_cell? w _ hx188_2)).trans hx188_2
              replace hx188_3 := (HB.out.cell (World.block_lt_of_cell? w _ hx188_3)).trans hx188_3
              replace hx188_4 := (HB.out.cell (World.block_lt_of_cell? w _ hx188_4)).trans hx188_4
              replace hx188_5 := (HB.out.cell (World.block_lt_of_cell? w _ hx188_5)).trans hx188_5
              replace hx188_6 := (HB.out.cell (World.block_lt_of_cell? w _ hx188_6)).trans hx188_6
              replace hx188_7 := (HB.out.cell (World.block_lt_of_cell? w _ hx188_7)).trans hx188_7
              replace hx188_8 := (HB.out.cell (World.block_lt_of_cell? w _ hx188_8)).trans hx188_8
              replace hx188_9 := (HB.out.cell (World.block_lt_of_cell? w _ hx188_9)).trans hx188_9
              replace p188 := eq_true p188
              replace q188 := eq_true q188
              refine start_ (n := 11) (S := fun w' => w'.cell? (ad186.add ((x8_1).toNat * 10)) = some (.int .i64 ((rd_T29 l1 x8_1).f0)) ∧ w'.cell? ⟨(ad186.add ((x8_1).toNat * 10)).block, (ad186.add ((x8_1).toNat * 10)).off + 1, none⟩ = some (.int .i64 ((rd_T29 l1 x8_1).f1)) ∧ w'.cell? ⟨(ad186.add ((x8_1).toNat * 10)).block, (ad186.add ((x8_1).toNat * 10)).off + 2, none⟩ = some (.int .i64 ((rd_T29 l1 x8_1).f2.f0)) ∧ w'.cell? ⟨(ad186.add ((x8_1).toNat * 10)).block, (ad186.add ((x8_1).toNat * 10)).off + 3, none⟩ = some (.int .i64 ((rd_T29 l1 x8_1).f2.f1)) ∧ w'.cell? ⟨(ad186.add ((x8_1).toNat * 10)).block, (ad186.add ((x8_1).toNat * 10)).off + 4, none⟩ = some (.int .i64 ((rd_T29 l1 x8_1).f2.f2)) ∧ w'.cell? ⟨(ad186.add ((x8_1).toNat * 10)).block, (ad186.add ((x8_1).toNat * 10)).off + 5, none⟩ = some (.bool ((rd_T29 l1 x8_1).f2.f3)) ∧ w'.cell? ⟨(ad186.add ((x8_1).toNat * 10)).block, (ad186.add ((x8_1).toNat * 10)).off + 6, none⟩ = some (.int .i64 ((rd_T29 l1 x8_1).f2.f4.f0)) ∧ w'.cell? ⟨(ad186.add ((x8_1).toNat * 10)).block, (ad186.add ((x8_1).toNat * 10)).off + 7, none⟩ = some (.int .i64 ((rd_T29 l1 x8_1).f2.f4.f1)) ∧ w'.cell? ⟨(ad186.add ((x8_1).toNat * 10)).block, (ad186.add ((x8_1).toNat * 10)).off + 8, none⟩ = some (.int .i64 ((rd_T29 l1 x8_1).f2.f4.f2)) ∧ w'.cell? ⟨(ad186.add ((x8_1).toNat * 10)).block, (ad186.add ((x8_1).toNat * 10)).off + 9, none⟩ = some (.int .i64 ((rd_T29 l1 x8_1).f2.f4.f3)) ∧ w'.cell? (ad186.add ((x8_1).toNat * 10)) = some (.int .i64 ((rd_T29 l1 x8_1).f0)) ∧ w'.cell? ⟨(ad186.add ((x8_1).toNat * 10)).block, (ad186.add ((x8_1).toNat * 10)).off + 1, none⟩ = some (.int .i64 ((rd_T29 l1 x8_1).f1)) ∧ w'.cell? ⟨(ad186.add ((x8_1).toNat * 10)).block, (ad186.add ((x8_1).toNat * 10)).off + 2, none⟩ = some (.int .i64 ((rd_T29 l1 x8_1).f2.f0)) ∧ w'.cell? ⟨(ad186.add ((x8_1).toNat * 10)).block, (ad186.add ((x8_1).toNat * 10)).off + 3, none⟩ = some (.int .i64 ((rd_T29 l1 x8_1).f2.f1)) ∧ w'.cell? ⟨(ad186.add ((x8_1).toNat * 10)).block, (ad186.add ((x8_1).toNat * 10)).off + 4, none⟩ = some (.int .i64 ((rd_T29 l1 x8_1).f2.f2)) ∧ w'.cell? ⟨(ad186.add ((x8_1).toNat * 10)).block, (ad186.add ((x8_1).toNat * 10)).off + 5, none⟩ = some (.bool ((rd_T29 l1 x8_1).f2.f3)) ∧ w'.cell? ⟨(ad186.add ((x8_1).toNat * 10)).block, (ad186.add ((x8_1).toNat * 10)).off + 6, none⟩ = some (.int .i64 ((rd_T29 l1 x8_1).f2.f4.f0)) ∧ w'.cell? ⟨(ad186.add ((x8_1).toNat * 10)).block, (ad186.add ((x8_1).toNat * 10)).off + 7, none⟩ = some (.int .i64 ((rd_T29 l1 x8_1).f2.f4.f1)) ∧ w'.cell? ⟨(ad186.add ((x8_1).toNat * 10)).block, (ad186.add ((x8_1).toNat * 10)).off + 8, none⟩ = some (.int .i64 ((rd_T29 l1 x8_1).f2.f4.f2)) ∧ w'.cell? ⟨(ad186.add ((x8_1).toNat * 10)).block, (ad186.add ((x8_1).toNat * 10)).off + 9, none⟩ = some (.int .i64 ((rd_T29 l1 x8_1).f2.f4.f3))) (ds := []) #[false, false, false, false, false, false, false, false, false, false, false] (by kernel_rfl) rfl rfl ⟨((HB.out.cell (World.block_lt_of_cell? w _ hw186_0)).trans hw186_0), ((HB.out.cell (World.block_lt_of_cell? w _ hw186_1)).trans hw186_1), ((HB.out.cell (World.block_lt_of_cell? w _ hw186_2)).trans hw186_2), ((HB.out.cell (World.block_lt_of_cell? w _ hw186_3)).trans hw186_3), ((HB.out.cell (World.block_lt_of_cell? w _ hw186_4)).trans hw186_4), ((HB.out.cell (World.block_lt_of_cell? w _ hw186_5)).trans hw186_5), ((HB.out.cell (World.block_lt_of_cell? w _ hw186_6)).trans hw186_6), ((HB.out.cell (World.block_lt_of_cell? w _ hw186_7)).trans hw186_7), ((HB.out.cell (World.block_lt_of_cell? w _ hw186_8)).trans hw186_8), ((HB.out.cell (World.block_lt_of_cell? w _ hw186_9)).trans hw186_9), ((HB.out.cell (World.block_lt_of_cell? w _ hw188_0)).trans hw188_0), ((HB.out.cell (World.block_lt_of_cell? w _ hw188_1)).trans hw188_1), ((HB.out.cell (World.block_lt_of_cell? w _ hw188_2)).trans hw188_2), ((HB.out.cell (World.block_lt_of_cell? w _ hw188_3)).trans hw188_3), ((HB.out.cell (World.block_lt_of_cell? w _ hw188_4)).trans hw188_4), ((HB.out.cell (World.block_lt_of_cell? w _ hw188_5)).trans hw188_5), ((HB.out.cell (World.block_lt_of_cell? w _ hw188_6)).trans hw188_6), ((HB.out.cell (World.block_lt_of_cell? w _ hw188_7)).trans hw188_7), ((HB.out.cell (World.block_lt_of_cell? w _ hw188_8)).trans hw188_8), ((HB.out.cell (World.block_lt_of_cell? w _ hw188_9)).trans hw188_9)⟩ (fun hHeld => ?_); refine with_tabW quorumitelaw27_ReportAsks.tab7 quorumitelaw27_ReportAsks.bits7 (fun HT_ HW_ => ?_)
              generalize wr.drew = w12 at HB hx186_0 hx186_1 hx186_2 hx186_3 hx186_4 hx186_5 hx186_6 hx186_7 hx186_8 hx186_9 hx188_0 hx188_1 hx188_2 hx188_3 hx188_4 hx188_5 hx188_6 hx188_7 hx188_8 hx188_9 hHeld ⊢
              refine pure_ (i := 0) (N := some 22) (v := ?_) (a' := ?_) #[true, false, false, false, false, false, false, false, false, false, false] rfl rfl (any_of HT_.out (by kernel_rfl)) (fun _ _ _ h => h) (Or.inl ⟨by rfl, ?_⟩) ?_ ?_
              rotate_left
              · intro w'
                go_simp
                with_reducible rfl
              rotate_left
              · simp only [Act.put, List.setIfInBounds_toArray, List.set_cons_zero, List.set_cons_succ, i64_w, i32_w]
                rfl
              refine pure_ (i := 1) (N := some 23) (v := ?_) (a' := ?_) #[true, true, false, false, false, false, false, false, false, false, false] rfl rfl (any_of HT_.out (by kernel_rfl)) (fun _ _ _ h => h) (Or.inl ⟨by rfl, ?_⟩) ?_ ?_
              rotate_left
              · intro w'
                go_simp
                with_reducible rfl
              rotate_left
              · simp only [Act.put, List.setIfInBounds_toArray, List.set_cons_zero, List.set_cons_succ, i64_w, i32_w]
                rfl
              refine pure_ (i := 2) (N := some 24) (v := ?_) (a' := ?_) #[true, true, true, false, false, false, false, false, false, false, false] rfl rfl (any_of HT_.out (by kernel_rfl)) (fun _ _ _ h => h) (Or.inl ⟨by rfl, ?_⟩) ?_ ?_
              rotate_left
              · intro w'
                go_simp
                with_reducible rfl
              rotate_left
              · simp only [Act.put, List.setIfInBounds_toArray, List.set_cons_zero, List.set_cons_succ, i64_w, i32_w]
                rfl
              refine pure_ (i := 5) (N := some 27) (v := ?_) (a' := ?_) #[true, true, true, false, false, true, false, false, false, false, false] rfl rfl (any_of HT_.out (by kernel_rfl)) (fun _ _ _ h => h) (Or.inl ⟨by rfl, ?_⟩) ?_ ?_
              rotate_left
              · intro w'
                go_simp
                with_reducible rfl
              rotate_left
              · simp only [Act.put, List.setIfInBounds_toArray, List.set_cons_zero, List.set_cons_succ, i64_w, i32_w]
                rfl
              refine pure_ (i := 6) (N := some 28) (v := ?_) (a' := ?_) #[true, true, true, false, false, true, true, false, false, false, false] rfl rfl (any_of HT_.out (by kernel_rfl)) (fun _ _ _ h => h) (Or.inl ⟨by rfl, ?_⟩) ?_ ?_
              rotate_left
              · intro w'
                go_simp
                with_reducible rfl
              rotate_left
              · simp only [Act.put, List.setIfInBounds_toArray, List.set_cons_zero, List.set_cons_succ, i64_w, i32_w]
                rfl
              refine pure_ (i := 7) (N := some 29) (v := ?_) (a' := ?_) #[true, true, true, false, false, true, true, true, false, false, false] rfl rfl (any_of HT_.out (by kernel_rfl)) (fun _ _ _ h => h) (Or.inl ⟨by rfl, ?_⟩) ?_ ?_
              rotate_left
              · intro w'
                go_simp
                with_reducible rfl
              rotate_left
              · simp only [Act.put, List.setIfInBounds_toArray, List.set_cons_zero, List.set_cons_succ, i64_w, i32_w]
                rfl
              refine take_ (i := 3) (N := some 25) (v := ?_) (a' := ?_) #[true, true, true, true, false, true, true, true, false, false, false] rfl rfl (take_ofW HT_.out HW_.out (by kernel_rfl)) (fun _ _ _ h => h) (Or.inl ⟨by rfl, ?_⟩) hHeld ?_ ?_
              rotate_left
              · rintro w' ⟨s0, s1, s2, s3, s4, s5, s6, s7, s8, s9, s10, s11, s12, s13, s14, s15, s16, s17, s18, s19⟩
                go_simp
                with_reducible rfl
              rotate_left
              · simp only [Act.put, List.setIfInBounds_toArray, List.set_cons_zero, List.set_cons_succ, i64_w, i32_w]
                rfl
              refine take_ (i := 8) (N := some 30) (v := ?_) (a' := ?_) #[true, true, true, true, false, true, true, true, true, false, false] rfl rfl (take_ofW HT_.out HW_.out (by kernel_rfl)) (fun _ _ _ h => h) (Or.inl ⟨by rfl, ?_⟩) hHeld ?_ ?_
              rotate_left
              · rintro w' ⟨s0, s1, s2, s3, s4, s5, s6, s7, s8, s9, s10, s11, s12, s13, s14, s15, s16, s17, s18, s19⟩
                go_simp
                with_reducible rfl
              rotate_left
              · simp only [Act.put, List.setIfInBounds_toArray, List.set_cons_zero, List.set_cons_succ, i64_w, i32_w]
                rfl
              refine one_ (i := 4) (N := some 26) #[true, true, true, true, true, true, true, true, true, false, false] rfl rfl (one_of HT_.out (by kernel_rfl)) (by decide) (fun K hK => ?_)
              refine goes_ Tryd.func7 (by kernel_rfl) rfl #[.agg #[.int .i64 ((rd_T29 l1 x8_1).f0), .int .i64 ((rd_T29 l1 x8_1).f1), .int .i64 ((rd_T29 l1 x8_1).f2.f0), .int .i64 ((rd_T29 l1 x8_1).f2.f1), .int .i64 ((rd_T29 l1 x8_1).f2.f2), .bool ((rd_T29 l1 x8_1).f2.f3), .int .i64 ((rd_T29 l1 x8_1).f2.f4.f0), .int .i64 ((rd_T29 l1 x8_1).f2.f4.f1), .int .i64 ((rd_T29 l1 x8_1).f2.f4.f2), .int .i64 ((rd_T29 l1 x8_1).f2.f4.f3)]] (by rfl) rfl rfl (by (try simp only [List.map_toArray, List.map_cons, List.map_nil]); first | done | rfl | (simp only [List.length_drop, List.length_take]; rfl)) ?_
              with_reducible refine (report_Line.calls k1 ((rd_T29 l1 x8_1).f0) ((rd_T29 l1 x8_1).f1) ((rd_T29 l1 x8_1).f2.f0) ((rd_T29 l1 x8_1).f2.f1) ((rd_T29 l1 x8_1).f2.f2) ((rd_T29 l1 x8_1).f2.f3) ((rd_T29 l1 x8_1).f2.f4.f0) ((rd_T29 l1 x8_1).f2.f4.f1) ((rd_T29 l1 x8_1).f2.f4.f2) ((rd_T29 l1 x8_1).f2.f4.f3) t187 _ (tab_at HTB (by repeat (first | (with_reducible first | exact HB.out | apply below_alloc | apply pw_below_drewN | apply below_drew1) | exact HB.out))) A8.out).mono ?_
              rintro e w13 ⟨rfl, hb⟩
              refine ⟨_, rfl, ?_⟩
              have n0_ := Aside0.mk (below_step (by repeat (first | (with_reducible first | exact HB.out | apply below_alloc | apply pw_below_drewN | apply below_drew1) | exact HB.out)) hb)
              clear HB
              have HB := n0_
              clear n0_
              (try clear hb)
              (try clear hb2)
              (try clear hk)
              (try clear hi)
              refine hK.out _ _ ⟨((HB.out.cell (World.block_lt_of_cell? w _ hw186_0)).trans hw186_0), ((HB.out.cell (World.block_lt_of_cell? w _ hw186_1)).trans hw186_1), ((HB.out.cell (World.block_lt_of_cell? w _ hw186_2)).trans hw186_2), ((HB.out.cell (World.block_lt_of_cell? w _ hw186_3)).trans hw186_3), ((HB.out.cell (World.block_lt_of_cell? w _ hw186_4)).trans hw186_4), ((HB.out.cell (World.block_lt_of_cell? w _ hw186_5)).trans hw186_5), ((HB.out.cell (World.block_lt_of_cell? w _ hw186_6)).trans hw186_6), ((HB.out.cell (World.block_lt_of_cell? w _ hw186_7)).trans hw186_7), ((HB.out.cell (World.block_lt_of_cell? w _ hw186_8)).trans hw186_8), ((HB.out.cell (World.block_lt_of_cell? w _ hw186_9)).trans hw186_9), ((HB.out.cell (World.block_lt_of_cell? w _ hw188_0)).trans hw188_0), ((HB.out.cell (World.block_lt_of_cell? w _ hw188_1)).trans hw188_1), ((HB.out.cell (World.block_lt_of_cell? w _ hw188_2)).trans hw188_2), ((HB.out.cell (World.block_lt_of_cell? w _ hw188_3)).trans hw188_3), ((HB.out.cell (World.block_lt_of_cell? w _ hw188_4)).trans hw188_4), ((HB.out.cell (World.block_lt_of_cell? w _ hw188_5)).trans hw188_5), ((HB.out.cell (World.block_lt_of_cell? w _ hw188_6)).trans hw188_6), ((HB.out.cell (World.block_lt_of_cell? w _ hw188_7)).trans hw188_7), ((HB.out.cell (World.block_lt_of_cell? w _ hw188_8)).trans hw188_8), ((HB.out.cell (World.block_lt_of_cell? w _ hw188_9)).trans hw188_9)⟩ (fun hHeld => ?_)
              clear hK K
              refine norm_ (a' := ?_) ?_ ?_
              rotate_left
              · show Act.put _ (some 26) _ = _
                simp only [Act.put, List.setIfInBounds_toArray, List.set_cons_zero, List.set_cons_succ, i64_w, i32_w]
                rfl
              refine one_ (i := 9) (N := some 31) #[true, true, true, true, true, true, true, true, true, true, false] rfl rfl (one_of HT_.out (by kernel_rfl)) (by decide) (fun K hK => ?_)
              refine goes_ Tryd.func11 (by kernel_rfl) rfl #[.agg #[.int .i64 ((rd_T29 l1 x8_1).f0), .int .i64 ((rd_T29 l1 x8_1).f1), .int .i64 ((rd_T29 l1 x8_1).f2.f0), .int .i64 ((rd_T29 l1 x8_1).f2.f1), .int .i64 ((rd_T29 l1 x8_1).f2.f2), .bool ((rd_T29 l1 x8_1).f2.f3), .int .i64 ((rd_T29 l1 x8_1).f2.f4.f0), .int .i64 ((rd_T29 l1 x8_1).f2.f4.f1), .int .i64 ((rd_T29 l1 x8_1).f2.f4.f2), .int .i64 ((rd_T29 l1 x8_1).f2.f4.f3)]] (by rfl) rfl rfl (by (try simp only [List.map_toArray, List.map_cons, List.map_nil]); first | done | rfl | (simp only [List.length_drop, List.length_take]; rfl)) ?_
              with_reducible refine (quorumiteref25_Line.calls k1 ((rd_T29 l1 x8_1).f0) ((rd_T29 l1 x8_1).f1) ((rd_T29 l1 x8_1).f2.f0) ((rd_T29 l1 x8_1).f2.f1) ((rd_T29 l1 x8_1).f2.f2) ((rd_T29 l1 x8_1).f2.f3) ((rd_T29 l1 x8_1).f2.f4.f0) ((rd_T29 l1 x8_1).f2.f4.f1) ((rd_T29 l1 x8_1).f2.f4.f2) ((rd_T29 l1 x8_1).f2.f4.f3) t189 _ A9.out).mono ?_
              rintro e w14 ⟨rfl, hb⟩
              refine ⟨_, rfl, ?_⟩
              have n0_ := Aside0.mk (below_step (by repeat (first | (with_reducible first | exact HB.out | apply below_alloc | apply pw_below_drewN | apply below_drew1) | exact HB.out)) hb)
              clear HB
              have HB := n0_
              clear n0_
              (try clear hb)
              (try clear hb2)
              (try clear hk)
              (try clear hi)
              refine hK.out _ _ ⟨((HB.out.cell (World.block_lt_of_cell? w _ hw186_0)).trans hw186_0), ((HB.out.cell (World.block_lt_of_cell? w _ hw186_1)).trans hw186_1), ((HB.out.cell (World.block_lt_of_cell? w _ hw186_2)).trans hw186_2), ((HB.out.cell (World.block_lt_of_cell? w _ hw186_3)).trans hw186_3), ((HB.out.cell (World.block_lt_of_cell? w _ hw186_4)).trans hw186_4), ((HB.out.cell (World.block_lt_of_cell? w _ hw186_5)).trans hw186_5), ((HB.out.cell (World.block_lt_of_cell? w _ hw186_6)).trans hw186_6), ((HB.out.cell (World.block_lt_of_cell? w _ hw186_7)).trans hw186_7), ((HB.out.cell (World.block_lt_of_cell? w _ hw186_8)).trans hw186_8), ((HB.out.cell (World.block_lt_of_cell? w _ hw186_9)).trans hw186_9), ((HB.out.cell (World.block_lt_of_cell? w _ hw188_0)).trans hw188_0), ((HB.out.cell (World.block_lt_of_cell? w _ hw188_1)).trans hw188_1), ((HB.out.cell (World.block_lt_of_cell? w _ hw188_2)).trans hw188_2), ((HB.out.cell (World.block_lt_of_cell? w _ hw188_3)).trans hw188_3), ((HB.out.cell (World.block_lt_of_cell? w _ hw188_4)).trans hw188_4), ((HB.out.cell (World.block_lt_of_cell? w _ hw188_5)).trans hw188_5), ((HB.out.cell (World.block_lt_of_cell? w _ hw188_6)).trans hw188_6), ((HB.out.cell (World.block_lt_of_cell? w _ hw188_7)).trans hw188_7), ((HB.out.cell (World.block_lt_of_cell? w _ hw188_8)).trans hw188_8), ((HB.out.cell (World.block_lt_of_cell? w _ hw188_9)).trans hw188_9)⟩ (fun hHeld => ?_)
              clear hK K
              refine norm_ (a' := ?_) ?_ ?_
              rotate_left
              · show Act.put _ (some 31) _ = _
                simp only [Act.put, List.setIfInBounds_toArray, List.set_cons_zero, List.set_cons_succ, i64_w, i32_w]
                rfl
              refine pure_ (i := 10) (N := some 32) (v := ?_) (a' := ?_) #[true, true, true, true, true, true, true, true, true, true, true] rfl rfl (any_of HT_.out (by kernel_rfl)) (fun _ _ _ h => h) (Or.inl ⟨by rfl, ?_⟩) ?_ ?_
              rotate_left
              · intro w'
                go_simp
                with_reducible rfl
              rotate_left
              · simp only [Act.put, List.setIfInBounds_toArray, List.set_cons_zero, List.set_cons_succ, i64_w, i32_w]
                rfl
              refine done_ (done_of HT_.out (by kernel_rfl)) ?_
              go_upto_region 9 with (fail)
              go_cut [33] (fun v33 wc => ∃ (kq : Nat) (x33_10 : Bool), v33 = .bool x33_10 ∧ Aside0 (quorumitelaw27_ReportAsks.j1 kq a0 l1 x5_1 x6_1 x7_1 x8_1 x33_10 = some r) ∧ Aside0 (kq ≤ k1) ∧ Aside0 (Below w.heap.size w wc))
              case first =>
                have H := HC11.out
                clear HC11
                by_cases c15 : ((rd_T29 l1 x8_1).f0) = 6
                · rw [if_pos c15] at H
                  have c15b0 : (((rd_T29 l1 x8_1).f0) == 6) = true := beq_iff_eq.mpr c15
                  have c15b1 : (((rd_T29 l1 x8_1).f0) != 6) = false := bne_eq_false_iff_eq.mpr c15
                  clear c15
                  (first | rw [c15b0] | (simp only [i64_w, i32_w]; rw [c15b0]) | skip)
                  by_cases c16 : ((rd_T29 l1 x8_1).f1) = 0
                  · rw [if_pos c16] at H
                    have c16b0 : (((rd_T29 l1 x8_1).f1) == 0) = true := beq_iff_eq.mpr c16
                    have c16b1 : (((rd_T29 l1 x8_1).f1) != 0) = false := bne_eq_false_iff_eq.mpr c16
                    clear c16
                    have H' := Aside0.mk H
                    clear H
                    have p190 : 0 ≤ (x8_1 : Int) := of_decide_eq_true (by first | (with_reducible assumption) | assumption)
                    have q190 : x8_1 < (l1.length : Int) := of_decide_eq_true (by first | (with_reducible assumption) | assumption)
                    obtain ⟨ad190, e190, hx190_0, hx190_1, hx190_2, hx190_3, hx190_4, hx190_5, hx190_6, hx190_7, hx190_8, hx190_9⟩ := at_T29 HR1.out x8_1 p190 q190
                    obtain rfl : ad186 = ad190 := (by injection e190)
                    replace hx190_0 := (HB.out.cell (World.block_lt_of_cell? w _ hx190_0)).trans hx190_0
                    replace hx190_1 := (HB.out.cell (World.block_lt_of_cell? w _ hx190_1)).trans hx190_1
                    replace hx190_2 := (HB.out.cell (World.block_lt_of_cell? w _ hx190_2)).trans hx190_2
                    replace hx190_3 := (HB.out.cell (World.block_lt_of_cell? w _ hx190_3)).trans hx190_3
                    replace hx190_4 := (HB.out.cell (World.block_lt_of_cell? w _ hx190_4)).trans hx190_4
                    replace hx190_5 := (HB.out.cell (World.block_lt_of_cell? w _ hx190_5)).trans hx190_5
                    replace hx190_6 := (HB.out.cell (World.block_lt_of_cell? w _ hx190_6)).trans hx190_6
                    replace hx190_7 := (HB.out.cell (World.block_lt_of_cell? w _ hx190_7)).trans hx190_7
                    replace hx190_8 := (HB.out.cell (World.block_lt_of_cell? w _ hx190_8)).trans hx190_8
                    replace hx190_9 := (HB.out.cell (World.block_lt_of_cell? w _ hx190_9)).trans hx190_9
                    replace p190 := eq_true p190
                    replace q190 := eq_true q190
                    have p191 : 0 ≤ (x8_1 : Int) := of_decide_eq_true (by first | (with_reducible assumption) | assumption)
                    have q191 : x8_1 < (l1.length : Int) := of_decide_eq_true (by first | (with_reducible assumption) | assumption)
                    obtain ⟨ad191, e191, hx191_0, hx191_1, hx191_2, hx191_3, hx191_4, hx191_5, hx191_6, hx191_7, hx191_8, hx191_9⟩ := at_T29 HR1.out x8_1 p191 q191
                    obtain rfl : ad186 = ad191 := (by injection e191)
                    replace hx191_0 := (HB.out.cell (World.block_lt_of_cell? w _ hx191_0)).trans hx191_0
                    replace hx191_1 := (HB.out.cell (World.block_lt_of_cell? w _ hx191_1)).trans hx191_1
                    replace hx191_2 := (HB.out.cell (World.block_lt_of_cell? w _ hx191_2)).trans hx191_2
                    replace hx191_3 := (HB.out.cell (World.block_lt_of_cell? w _ hx191_3)).trans hx191_3
                    replace hx191_4 := (HB.out.cell (World.block_lt_of_cell? w _ hx191_4)).trans hx191_4
                    replace hx191_5 := (HB.out.cell (World.block_lt_of_cell? w _ hx191_5)).trans hx191_5
                    replace hx191_6 := (HB.out.cell (World.block_lt_of_cell? w _ hx191_6)).trans hx191_6
                    replace hx191_7 := (HB.out.cell (World.block_lt_of_cell? w _ hx191_7)).trans hx191_7
                    replace hx191_8 := (HB.out.cell (World.block_lt_of_cell? w _ hx191_8)).trans hx191_8
                    replace hx191_9 := (HB.out.cell (World.block_lt_of_cell? w _ hx191_9)).trans hx191_9
                    replace p191 := eq_true p191
                    replace q191 := eq_true q191
                    have p192 : 0 ≤ (x8_1 : Int) := of_decide_eq_true (by first | (with_reducible assumption) | assumption)
                    have q192 : x8_1 < (l1.length : Int) := of_decide_eq_true (by first | (with_reducible assumption) | assumption)
                    obtain ⟨ad192, e192, hx192_0, hx192_1, hx192_2, hx192_3, hx192_4, hx192_5, hx192_6, hx192_7, hx192_8, hx192_9⟩ := at_T29 HR1.out x8_1 p192 q192
                    obtain rfl : ad186 = ad192 := (by injection e192)
                    replace hx192_0 := (HB.out.cell (World.block_lt_of_cell? w _ hx192_0)).trans hx192_0
                    replace hx192_1 := (HB.out.cell (World.block_lt_of_cell? w _ hx192_1)).trans hx192_1
                    replace hx192_2 := (HB.out.cell (World.block_lt_of_cell? w _ hx192_2)).trans hx192_2
                    replace hx192_3 := (HB.out.cell (World.block_lt_of_cell? w _ hx192_3)).trans hx192_3
                    replace hx192_4 := (HB.out.cell (World.block_lt_of_cell? w _ hx192_4)).trans hx192_4
                    replace hx192_5 := (HB.out.cell (World.block_lt_of_cell? w _ hx192_5)).trans hx192_5
                    replace hx192_6 := (HB.out.cell (World.block_lt_of_cell? w _ hx192_6)).trans hx192_6
                    replace hx192_7 := (HB.out.cell (World.block_lt_of_cell? w _ hx192_7)).trans hx192_7
                    replace hx192_8 := (HB.out.cell (World.block_lt_of_cell? w _ hx192_8)).trans hx192_8
                    replace hx192_9 := (HB.out.cell (World.block_lt_of_cell? w _ hx192_9)).trans hx192_9
                    replace p192 := eq_true p192
                    replace q192 := eq_true q192
                    go_wp2
                    go_meet
                    case rel => exact ⟨_, ((rd_T29 l1 x8_1).f2.f3), (by first | rfl | (simp; done) | (simp [*]; done)), H', ⟨by have := HK1.out; first | omega | exact Nat.le_refl _⟩, ⟨by repeat (first | (with_reducible first | exact HB.out | apply below_alloc | apply pw_below_drewN | apply below_drew1) | exact HB.out)⟩⟩
                  · rw [if_neg c16] at H
                    have c16b0 : (((rd_T29 l1 x8_1).f1) == 0) = false := beq_eq_false_iff_ne.mpr c16
                    have c16b1 : (((rd_T29 l1 x8_1).f1) != 0) = true := bne_iff_ne.mpr c16
                    have H' := Aside0.mk H
                    clear H
                    have p190 : 0 ≤ (x8_1 : Int) := of_decide_eq_true (by first | (with_reducible assumption) | assumption)
                    have q190 : x8_1 < (l1.length : Int) := of_decide_eq_true (by first | (with_reducible assumption) | assumption)
                    obtain ⟨ad190, e190, hx190_0, hx190_1, hx190_2, hx190_3, hx190_4, hx190_5, hx190_6, hx190_7, hx190_8, hx190_9⟩ := at_T29 HR1.out x8_1 p190 q190
                    obtain rfl : ad186 = ad190 := (by injection e190)
                    replace hx190_0 := (HB.out.cell (World.block_lt_of_cell? w _ hx190_0)).trans hx190_0
                    replace hx190_1 := (HB.out.cell (World.block_lt_of_cell? w _ hx190_1)).trans hx190_1
                    replace hx190_2 := (HB.out.cell (World.block_lt_of_cell? w _ hx190_2)).trans hx190_2
                    replace hx190_3 := (HB.out.cell (World.block_lt_of_cell? w _ hx190_3)).trans hx190_3
                    replace hx190_4 := (HB.out.cell (World.block_lt_of_cell? w _ hx190_4)).trans hx190_4
                    replace hx190_5 := (HB.out.cell (World.block_lt_of_cell? w _ hx190_5)).trans hx190_5
                    replace hx190_6 := (HB.out.cell (World.block_lt_of_cell? w _ hx190_6)).trans hx190_6
                    replace hx190_7 := (HB.out.cell (World.block_lt_of_cell? w _ hx190_7)).trans hx190_7
                    replace hx190_8 := (HB.out.cell (World.block_lt_of_cell? w _ hx190_8)).trans hx190_8
                    replace hx190_9 := (HB.out.cell (World.block_lt_of_cell? w _ hx190_9)).trans hx190_9
                    replace p190 := eq_true p190
                    replace q190 := eq_true q190
                    have p191 : 0 ≤ (x8_1 : Int) := of_decide_eq_true (by first | (with_reducible assumption) | assumption)
                    have q191 : x8_1 < (l1.length : Int) := of_decide_eq_true (by first | (with_reducible assumption) | assumption)
                    obtain ⟨ad191, e191, hx191_0, hx191_1, hx191_2, hx191_3, hx191_4, hx191_5, hx191_6, hx191_7, hx191_8, hx191_9⟩ := at_T29 HR1.out x8_1 p191 q191
                    obtain rfl : ad186 = ad191 := (by injection e191)
                    replace hx191_0 := (HB.out.cell (World.block_lt_of_cell? w _ hx191_0)).trans hx191_0
                    replace hx191_1 := (HB.out.cell (World.block_lt_of_cell? w _ hx191_1)).trans hx191_1
                    replace hx191_2 := (HB.out.cell (World.block_lt_of_cell? w _ hx191_2)).trans hx191_2
                    replace hx191_3 := (HB.out.cell (World.block_lt_of_cell? w _ hx191_3)).trans hx191_3
                    replace hx191_4 := (HB.out.cell (World.block_lt_of_cell? w _ hx191_4)).trans hx191_4
                    replace hx191_5 := (HB.out.cell (World.block_lt_of_cell? w _ hx191_5)).trans hx191_5
                    replace hx191_6 := (HB.out.cell (World.block_lt_of_cell? w _ hx191_6)).trans hx191_6
                    replace hx191_7 := (HB.out.cell (World.block_lt_of_cell? w _ hx191_7)).trans hx191_7
                    replace hx191_8 := (HB.out.cell (World.block_lt_of_cell? w _ hx191_8)).trans hx191_8
                    replace hx191_9 := (HB.out.cell (World.block_lt_of_cell? w _ hx191_9)).trans hx191_9
                    replace p191 := eq_true p191
                    replace q191 := eq_true q191
                    go_wp2
                    go_meet
                    case rel => exact ⟨_, (false), (by first | rfl | (simp; done) | (simp [*]; done)), H', ⟨by have := HK1.out; first | omega | exact Nat.le_refl _⟩, ⟨by repeat (first | (with_reducible first | exact HB.out | apply below_alloc | apply pw_below_drewN | apply below_drew1) | exact HB.out)⟩⟩
                · rw [if_neg c15] at H
                  have c15b0 : (((rd_T29 l1 x8_1).f0) == 6) = false := beq_eq_false_iff_ne.mpr c15
                  have c15b1 : (((rd_T29 l1 x8_1).f0) != 6) = true := bne_iff_ne.mpr c15
                  (first | rw [c15b0] | (simp only [i64_w, i32_w]; rw [c15b0]) | skip)
                  have H' := Aside0.mk H
                  clear H
                  have p190 : 0 ≤ (x8_1 : Int) := of_decide_eq_true (by first | (with_reducible assumption) | assumption)
                  have q190 : x8_1 < (l1.length : Int) := of_decide_eq_true (by first | (with_reducible assumption) | assumption)
                  obtain ⟨ad190, e190, hx190_0, hx190_1, hx190_2, hx190_3, hx190_4, hx190_5, hx190_6, hx190_7, hx190_8, hx190_9⟩ := at_T29 HR1.out x8_1 p190 q190
                  obtain rfl : ad186 = ad190 := (by injection e190)
                  replace hx190_0 := (HB.out.cell (World.block_lt_of_cell? w _ hx190_0)).trans hx190_0
                  replace hx190_1 := (HB.out.cell (World.block_lt_of_cell? w _ hx190_1)).trans hx190_1
                  replace hx190_2 := (HB.out.cell (World.block_lt_of_cell? w _ hx190_2)).trans hx190_2
                  replace hx190_3 := (HB.out.cell (World.block_lt_of_cell? w _ hx190_3)).trans hx190_3
                  replace hx190_4 := (HB.out.cell (World.block_lt_of_cell? w _ hx190_4)).trans hx190_4
                  replace hx190_5 := (HB.out.cell (World.block_lt_of_cell? w _ hx190_5)).trans hx190_5
                  replace hx190_6 := (HB.out.cell (World.block_lt_of_cell? w _ hx190_6)).trans hx190_6
                  replace hx190_7 := (HB.out.cell (World.block_lt_of_cell? w _ hx190_7)).trans hx190_7
                  replace hx190_8 := (HB.out.cell (World.block_lt_of_cell? w _ hx190_8)).trans hx190_8
                  replace hx190_9 := (HB.out.cell (World.block_lt_of_cell? w _ hx190_9)).trans hx190_9
                  replace p190 := eq_true p190
                  replace q190 := eq_true q190
                  go_wp2
                  go_meet
                  case rel => exact ⟨_, (false), (by first | rfl | (simp; done) | (simp [*]; done)), H', ⟨by have := HK1.out; first | omega | exact Nat.le_refl _⟩, ⟨by repeat (first | (with_reducible first | exact HB.out | apply below_alloc | apply pw_below_drewN | apply below_drew1) | exact HB.out)⟩⟩
              case rest =>
                clear HC11
                try clear c1
                try clear p1
                try clear q1
                try clear hx1
                try clear p2
                try clear c3
                try clear c3b0
                try clear c3b1
                try clear c5
                try clear c6
                try clear c6b0
                try clear c7
                try clear c7b0
                try clear c8
                try clear c10
                try clear c10b0
                try clear c10b1
                try clear c11
                try clear c15
                try clear c15b0
                try clear c15b1
                try clear c16
                try clear c16b0
                try clear c16b1
                try clear hx186_0
                try clear hx186_1
                try clear hx186_2
                try clear hx186_3
                try clear hx186_4
                try clear hx186_5
                try clear hx186_6
                try clear hx186_7
                try clear hx186_8
                try clear hx186_9
                try clear hx188_0
                try clear hx188_1
                try clear hx188_2
                try clear hx188_3
                try clear hx188_4
                try clear hx188_5
                try clear hx188_6
                try clear hx188_7
                try clear hx188_8
                try clear hx188_9
                try clear hx190_0
                try clear hx190_1
                try clear hx190_2
                try clear hx190_3
                try clear hx190_4
                try clear hx190_5
                try clear hx190_6
                try clear hx190_7
                try clear hx190_8
                try clear hx190_9
                try clear hx191_0
                try clear hx191_1
                try clear hx191_2
                try clear hx191_3
                try clear hx191_4
                try clear hx191_5
                try clear hx191_6
                try clear hx191_7
                try clear hx191_8
                try clear hx191_9
                try clear hx192_0
                try clear hx192_1
                try clear hx192_2
                try clear hx192_3
                try clear hx192_4
                try clear hx192_5
                try clear hx192_6
                try clear hx192_7
                try clear hx192_8
                try clear hx192_9
                try clear p186
                try clear p188
                try clear p190
                try clear p191
                try clear p192
                try clear p2
                try clear q186
                try clear q188
                try clear q190
                try clear q191
                try clear q192
                obtain ⟨kq, x33_10, rfl, HA, HJ10, HB⟩ := hcut
                cases kq with
                | zero => exact absurd HA.out (by simp [quorumitelaw27_ReportAsks.j1])
                | succ kj10 =>
                  have H := HA.out
                  clear HA
                  simp only [quorumitelaw27_ReportAsks.j1] at H
                  by_cases c17 : x33_10 = true
                  · subst c17
                    have H1 : (quorumitelaw27_ReportAsks.l0 kj10 a0 l1 x5_1 (wrap64 (x6_1 + 1)) x7_1 (wrap64 (x8_1 + 1))) = some r := by rw [if_pos rfl] at H; exact H
                    clear H
                    have H := H1
                    clear H1
                    have H' := Aside0.mk H
                    clear H
                    go_wp2
                    go_roundg kj10
                    case measure => have := HK1.out; have := HJ10.out; omega
                    case rel => exact ⟨(x5_1), (wrap64 (x6_1 + 1)), (x7_1), (wrap64 (x8_1 + 1)), (by first | rfl | (simp; done) | (simp [*]; done)), (by first | rfl | (simp; done) | (simp [*]; done)), (by first | rfl | (simp; done) | (simp [*]; done)), (by first | rfl | (simp; done) | (simp [*]; done)), H', ⟨by have := HK1.out; have := HJ10.out; omega⟩, ⟨by repeat (first | (with_reducible first | exact HB.out | apply below_alloc | apply pw_below_drewN | apply below_drew1) | exact HB.out)⟩⟩
                  · replace c17 := Bool.eq_false_iff.mpr c17
                    subst c17
                    have H1 : (if 0 ≤ x8_1 then (if x8_1 < (l1.length : Int) then (if ((rd_T29 l1 x8_1).f0) = 6 then (quorumitelaw27_ReportAsks.j2 kj10 a0 l1 x5_1 x6_1 x7_1 x8_1 (((rd_T29 l1 x8_1).f1) == 0)) else (quorumitelaw27_ReportAsks.j2 kj10 a0 l1 x5_1 x6_1 x7_1 x8_1 false)) else (none)) else (none)) = some r := by rw [if_neg (show ¬ (false = true) by decide)] at H; exact H
                    clear H
                    have H := H1
                    clear H1
                    have HC18 := Aside0.mk H
                    clear H
                    go_upto_region 11 with (fail)
                    go_cut [58] (fun v58 wc => ∃ (kq : Nat) (x58_17 : Bool), v58 = .bool x58_17 ∧ Aside0 (quorumitelaw27_ReportAsks.j2 kq a0 l1 x5_1 x6_1 x7_1 x8_1 x58_17 = some r) ∧ Aside0 (kq ≤ kj10) ∧ Aside0 (Below w.heap.size w wc))
                    case first =>
                      have H := HC18.out
                      clear HC18
                      by_cases c19 : 0 ≤ x8_1
                      · rw [if_pos c19] at H
                        have c19b0 : decide (0 ≤ x8_1) = true := decide_eq_true c19
                        clear c19
                        (first | rw [c19b0] | (simp only [i64_w, i32_w]; rw [c19b0]) | skip)
                        by_cases c20 : x8_1 < (l1.length : Int)
                        · rw [if_pos c20] at H
                          have c20b0 : decide (x8_1 < (l1.length : Int)) = true := decide_eq_true c20
                          clear c20
                          by_cases c21 : ((rd_T29 l1 x8_1).f0) = 6
                          · rw [if_pos c21] at H
                            have c21b0 : (((rd_T29 l1 x8_1).f0) == 6) = true := beq_iff_eq.mpr c21
                            have c21b1 : (((rd_T29 l1 x8_1).f0) != 6) = false := bne_eq_false_iff_eq.mpr c21
                            clear c21
                            have H' := Aside0.mk H
                            clear H
                            have p193 : 0 ≤ (x8_1 : Int) := of_decide_eq_true (by first | (with_reducible assumption) | assumption)
                            have q193 : x8_1 < (l1.length : Int) := of_decide_eq_true (by first | (with_reducible assumption) | assumption)
                            obtain ⟨ad193, e193, hx193_0, hx193_1, hx193_2, hx193_3, hx193_4, hx193_5, hx193_6, hx193_7, hx193_8, hx193_9⟩ := at_T29 HR1.out x8_1 p193 q193
                            obtain rfl : ad186 = ad193 := (by injection e193)
                            replace hx193_0 := (HB.out.cell (World.block_lt_of_cell? w _ hx193_0)).trans hx193_0
                            replace hx193_1 := (HB.out.cell (World.block_lt_of_cell? w _ hx193_1)).trans hx193_1
                            replace hx193_2 := (HB.out.cell (World.block_lt_of_cell? w _ hx193_2)).trans hx193_2
                            replace hx193_3 := (HB.out.cell (World.block_lt_of_cell? w _ hx193_3)).trans hx193_3
                            replace hx193_4 := (HB.out.cell (World.block_lt_of_cell? w _ hx193_4)).trans hx193_4
                            replace hx193_5 := (HB.out.cell (World.block_lt_of_cell? w _ hx193_5)).trans hx193_5
                            replace hx193_6 := (HB.out.cell (World.block_lt_of_cell? w _ hx193_6)).trans hx193_6
                            replace hx193_7 := (HB.out.cell (World.block_lt_of_cell? w _ hx193_7)).trans hx193_7
                            replace hx193_8 := (HB.out.cell (World.block_lt_of_cell? w _ hx193_8)).trans hx193_8
                            replace hx193_9 := (HB.out.cell (World.block_lt_of_cell? w _ hx193_9)).trans hx193_9
                            replace p193 := eq_true p193
                            replace q193 := eq_true q193
                            have p194 : 0 ≤ (x8_1 : Int) := of_decide_eq_true (by first | (with_reducible assumption) | assumption)
                            have q194 : x8_1 < (l1.length : Int) := of_decide_eq_true (by first | (with_reducible assumption) | assumption)
                            obtain ⟨ad194, e194, hx194_0, hx194_1, hx194_2, hx194_3, hx194_4, hx194_5, hx194_6, hx194_7, hx194_8, hx194_9⟩ := at_T29 HR1.out x8_1 p194 q194
                            obtain rfl : ad186 = ad194 := (by injection e194)
                            replace hx194_0 := (HB.out.cell (World.block_lt_of_cell? w _ hx194_0)).trans hx194_0
                            replace hx194_1 := (HB.out.cell (World.block_lt_of_cell? w _ hx194_1)).trans hx194_1
                            replace hx194_2 := (HB.out.cell (World.block_lt_of_cell? w _ hx194_2)).trans hx194_2
                            replace hx194_3 := (HB.out.cell (World.block_lt_of_cell? w _ hx194_3)).trans hx194_3
                            replace hx194_4 := (HB.out.cell (World.block_lt_of_cell? w _ hx194_4)).trans hx194_4
                            replace hx194_5 := (HB.out.cell (World.block_lt_of_cell? w _ hx194_5)).trans hx194_5
                            replace hx194_6 := (HB.out.cell (World.block_lt_of_cell? w _ hx194_6)).trans hx194_6
                            replace hx194_7 := (HB.out.cell (World.block_lt_of_cell? w _ hx194_7)).trans hx194_7
                            replace hx194_8 := (HB.out.cell (World.block_lt_of_cell? w _ hx194_8)).trans hx194_8
                            replace hx194_9 := (HB.out.cell (World.block_lt_of_cell? w _ hx194_9)).trans hx194_9
                            replace p194 := eq_true p194
                            replace q194 := eq_true q194
                            go_wp2
                            go_meet
                            case rel => exact ⟨_, ((((rd_T29 l1 x8_1).f1) == 0)), (by first | rfl | (simp; done) | (simp [*]; done)), H', ⟨by have := HK1.out; have := HJ10.out; first | omega | exact Nat.le_refl _⟩, ⟨by repeat (first | (with_reducible first | exact HB.out | apply below_alloc | apply pw_below_drewN | apply below_drew1) | exact HB.out)⟩⟩
                          · rw [if_neg c21] at H
                            have c21b0 : (((rd_T29 l1 x8_1).f0) == 6) = false := beq_eq_false_iff_ne.mpr c21
                            have c21b1 : (((rd_T29 l1 x8_1).f0) != 6) = true := bne_iff_ne.mpr c21
                            have H' := Aside0.mk H
                            clear H
                            have p193 : 0 ≤ (x8_1 : Int) := of_decide_eq_true (by first | (with_reducible assumption) | assumption)
                            have q193 : x8_1 < (l1.length : Int) := of_decide_eq_true (by first | (with_reducible assumption) | assumption)
                            obtain ⟨ad193, e193, hx193_0, hx193_1, hx193_2, hx193_3, hx193_4, hx193_5, hx193_6, hx193_7, hx193_8, hx193_9⟩ := at_T29 HR1.out x8_1 p193 q193
                            obtain rfl : ad186 = ad193 := (by injection e193)
                            replace hx193_0 := (HB.out.cell (World.block_lt_of_cell? w _ hx193_0)).trans hx193_0
                            replace hx193_1 := (HB.out.cell (World.block_lt_of_cell? w _ hx193_1)).trans hx193_1
                            replace hx193_2 := (HB.out.cell (World.block_lt_of_cell? w _ hx193_2)).trans hx193_2
                            replace hx193_3 := (HB.out.cell (World.block_lt_of_cell? w _ hx193_3)).trans hx193_3
                            replace hx193_4 := (HB.out.cell (World.block_lt_of_cell? w _ hx193_4)).trans hx193_4
                            replace hx193_5 := (HB.out.cell (World.block_lt_of_cell? w _ hx193_5)).trans hx193_5
                            replace hx193_6 := (HB.out.cell (World.block_lt_of_cell? w _ hx193_6)).trans hx193_6
                            replace hx193_7 := (HB.out.cell (World.block_lt_of_cell? w _ hx193_7)).trans hx193_7
                            replace hx193_8 := (HB.out.cell (World.block_lt_of_cell? w _ hx193_8)).trans hx193_8
                            replace hx193_9 := (HB.out.cell (World.block_lt_of_cell? w _ hx193_9)).trans hx193_9
                            replace p193 := eq_true p193
                            replace q193 := eq_true q193
                            go_wp2
                            go_meet
                            case rel => exact ⟨_, (false), (by first | rfl | (simp; done) | (simp [*]; done)), H', ⟨by have := HK1.out; have := HJ10.out; first | omega | exact Nat.le_refl _⟩, ⟨by repeat (first | (with_reducible first | exact HB.out | apply below_alloc | apply pw_below_drewN | apply below_drew1) | exact HB.out)⟩⟩
                        · rw [if_neg c20] at H
                          exact absurd H (by simp)
                      · rw [if_neg c19] at H
                        exact absurd H (by simp)
                    case rest =>
                      clear HC18
                      try clear c1
                      try clear p1
                      try clear q1
                      try clear hx1
                      try clear c2
                      try clear p2
                      try clear c3
                      try clear c3b0
                      try clear c3b1
                      try clear c5
                      try clear c6
                      try clear c6b0
                      try clear p6
                      try clear c7
                      try clear c7b0
                      try clear c8
                      try clear c10
                      try clear c10b0
                      try clear c10b1
                      try clear c11
                      try clear c15
                      try clear c15b0
                      try clear c15b1
                      try clear c16
                      try clear c16b0
                      try clear c16b1
                      try clear c17
                      try clear p18
                      try clear q18
                      try clear hx18
                      try clear c19
                      try clear c19b0
                      try clear p19
                      try clear q19
                      try clear hx19
                      try clear c20
                      try clear c20b0
                      try clear c21
                      try clear c21b0
                      try clear c21b1
                      try clear hx186_0
                      try clear hx186_1
                      try clear hx186_2
                      try clear hx186_3
                      try clear hx186_4
                      try clear hx186_5
                      try clear hx186_6
                      try clear hx186_7
                      try clear hx186_8
                      try clear hx186_9
                      try clear hx188_0
                      try clear hx188_1
                      try clear hx188_2
                      try clear hx188_3
                      try clear hx188_4
                      try clear hx188_5
                      try clear hx188_6
                      try clear hx188_7
                      try clear hx188_8
                      try clear hx188_9
                      try clear hx190_0
                      try clear hx190_1
                      try clear hx190_2
                      try clear hx190_3
                      try clear hx190_4
                      try clear hx190_5
                      try clear hx190_6
                      try clear hx190_7
                      try clear hx190_8
                      try clear hx190_9
                      try clear hx191_0
                      try clear hx191_1
                      try clear hx191_2
                      try clear hx191_3
                      try clear hx191_4
                      try clear hx191_5
                      try clear hx191_6
                      try clear hx191_7
                      try clear hx191_8
                      try clear hx191_9
                      try clear hx192_0
                      try clear hx192_1
                      try clear hx192_2
                      try clear hx192_3
                      try clear hx192_4
                      try clear hx192_5
                      try clear hx192_6
                      try clear hx192_7
                      try clear hx192_8
                      try clear hx192_9
                      try clear hx193_0
                      try clear hx193_1
                      try clear hx193_2
                      try clear hx193_3
                      try clear hx193_4
                      try clear hx193_5
                      try clear hx193_6
                      try clear hx193_7
                      try clear hx193_8
                      try clear hx193_9
                      try clear hx194_0
                      try clear hx194_1
                      try clear hx194_2
                      try clear hx194_3
                      try clear hx194_4
                      try clear hx194_5
                      try clear hx194_6
                      try clear hx194_7
                      try clear hx194_8
                      try clear hx194_9
                      try clear p1
                      try clear p186
                      try clear p188
                      try clear p190
                      try clear p191
                      try clear p192
                      try clear p193
                      try clear p194
                      try clear p2
                      try clear q1
                      try clear q186
                      try clear q188
                      try clear q190
                      try clear q191
                      try clear q192
                      try clear q193
                      try clear q194
                      obtain ⟨kq, x58_17, rfl, HA, HJ17, HB⟩ := hcut
                      cases kq with
                      | zero => exact absurd HA.out (by simp [quorumitelaw27_ReportAsks.j2])
                      | succ kj17 =>
                        have H := HA.out
                        clear HA
                        simp only [quorumitelaw27_ReportAsks.j2] at H
                        by_cases c22 : x58_17 = true
                        · subst c22
                          have H1 : (quorumitelaw27_ReportAsks.l0 kj17 a0 l1 (wrap64 (x5_1 + 1)) x6_1 x7_1 (wrap64 (x8_1 + 1))) = some r := by rw [if_pos rfl] at H; exact H
                          clear H
                          have H := H1
                          clear H1
                          have H' := Aside0.mk H
                          clear H
                          go_wp2
                          go_roundg kj17
                          case measure => have := HK1.out; have := HJ10.out; have := HJ17.out; omega
                          case rel => exact ⟨(wrap64 (x5_1 + 1)), (x6_1), (x7_1), (wrap64 (x8_1 + 1)), (by first | rfl | (simp; done) | (simp [*]; done)), (by first | rfl | (simp; done) | (simp [*]; done)), (by first | rfl | (simp; done) | (simp [*]; done)), (by first | rfl | (simp; done) | (simp [*]; done)), H', ⟨by have := HK1.out; have := HJ10.out; have := HJ17.out; omega⟩, ⟨by repeat (first | (with_reducible first | exact HB.out | apply below_alloc | apply pw_below_drewN | apply below_drew1) | exact HB.out)⟩⟩
                        · replace c22 := Bool.eq_false_iff.mpr c22
                          subst c22
                          have H1 : (if 0 ≤ x8_1 then (if x8_1 < (l1.length : Int) then (if ((rd_T29 l1 x8_1).f0) = 2 then (if ((rd_T29 l1 x8_1).f1) = 0 then (quorumitelaw27_ReportAsks.l0 kj17 a0 l1 x5_1 x6_1 x7_1 (wrap64 (x8_1 + 1))) else (quorumitelaw27_ReportAsks.l0 kj17 a0 l1 x5_1 x6_1 (wrap64 (x7_1 + 1)) (wrap64 (x8_1 + 1)))) else (quorumitelaw27_ReportAsks.l0 kj17 a0 l1 x5_1 x6_1 x7_1 (wrap64 (x8_1 + 1)))) else (none)) else (none)) = some r := by rw [if_neg (show ¬ (false = true) by decide)] at H; exact H
                          clear H
                          have H := H1
                          clear H1
                          by_cases c23 : 0 ≤ x8_1
                          · rw [if_pos c23] at H
                            have c23b0 : decide (0 ≤ x8_1) = true := decide_eq_true c23
                            clear c23
                            by_cases c24 : x8_1 < (l1.length : Int)
                            · rw [if_pos c24] at H
                              have c24b0 : decide (x8_1 < (l1.length : Int)) = true := decide_eq_true c24
                              clear c24
                              by_cases c25 : ((rd_T29 l1 x8_1).f0) = 2
                              · rw [if_pos c25] at H
                                have c25b0 : (((rd_T29 l1 x8_1).f0) == 2) = true := beq_iff_eq.mpr c25
                                have c25b1 : (((rd_T29 l1 x8_1).f0) != 2) = false := bne_eq_false_iff_eq.mpr c25
                                clear c25
                                by_cases c26 : ((rd_T29 l1 x8_1).f1) = 0
                                · rw [if_pos c26] at H
                                  have c26b0 : (((rd_T29 l1 x8_1).f1) == 0) = true := beq_iff_eq.mpr c26
                                  have c26b1 : (((rd_T29 l1 x8_1).f1) != 0) = false := bne_eq_false_iff_eq.mpr c26
                                  clear c26
                                  have H' := Aside0.mk H
                                  clear H
                                  have p195 : 0 ≤ (x8_1 : Int) := of_decide_eq_true (by first | (with_reducible assumption) | assumption)
                                  have q195 : x8_1 < (l1.length : Int) := of_decide_eq_true (by first | (with_reducible assumption) | assumption)
                                  obtain ⟨ad195, e195, hx195_0, hx195_1, hx195_2, hx195_3, hx195_4, hx195_5, hx195_6, hx195_7, hx195_8, hx195_9⟩ := at_T29 HR1.out x8_1 p195 q195
                                  obtain rfl : ad186 = ad195 := (by injection e195)
                                  replace hx195_0 := (HB.out.cell (World.block_lt_of_cell? w _ hx195_0)).trans hx195_0
                                  replace hx195_1 := (HB.out.cell (World.block_lt_of_cell? w _ hx195_1)).trans hx195_1
                                  replace hx195_2 := (HB.out.cell (World.block_lt_of_cell? w _ hx195_2)).trans hx195_2
                                  replace hx195_3 := (HB.out.cell (World.block_lt_of_cell? w _ hx195_3)).trans hx195_3
                                  replace hx195_4 := (HB.out.cell (World.block_lt_of_cell? w _ hx195_4)).trans hx195_4
                                  replace hx195_5 := (HB.out.cell (World.block_lt_of_cell? w _ hx195_5)).trans hx195_5
                                  replace hx195_6 := (HB.out.cell (World.block_lt_of_cell? w _ hx195_6)).trans hx195_6
                                  replace hx195_7 := (HB.out.cell (World.block_lt_of_cell? w _ hx195_7)).trans hx195_7
                                  replace hx195_8 := (HB.out.cell (World.block_lt_of_cell? w _ hx195_8)).trans hx195_8
                                  replace hx195_9 := (HB.out.cell (World.block_lt_of_cell? w _ hx195_9)).trans hx195_9
                                  replace p195 := eq_true p195
                                  replace q195 := eq_true q195
                                  have p196 : 0 ≤ (x8_1 : Int) := of_decide_eq_true (by first | (with_reducible assumption) | assumption)
                                  have q196 : x8_1 < (l1.length : Int) := of_decide_eq_true (by first | (with_reducible assumption) | assumption)
                                  obtain ⟨ad196, e196, hx196_0, hx196_1, hx196_2, hx196_3, hx196_4, hx196_5, hx196_6, hx196_7, hx196_8, hx196_9⟩ := at_T29 HR1.out x8_1 p196 q196
                                  obtain rfl : ad186 = ad196 := (by injection e196)
                                  replace hx196_0 := (HB.out.cell (World.block_lt_of_cell? w _ hx196_0)).trans hx196_0
                                  replace hx196_1 := (HB.out.cell (World.block_lt_of_cell? w _ hx196_1)).trans hx196_1
                                  replace hx196_2 := (HB.out.cell (World.block_lt_of_cell? w _ hx196_2)).trans hx196_2
                                  replace hx196_3 := (HB.out.cell (World.block_lt_of_cell? w _ hx196_3)).trans hx196_3
                                  replace hx196_4 := (HB.out.cell (World.block_lt_of_cell? w _ hx196_4)).trans hx196_4
                                  replace hx196_5 := (HB.out.cell (World.block_lt_of_cell? w _ hx196_5)).trans hx196_5
                                  replace hx196_6 := (HB.out.cell (World.block_lt_of_cell? w _ hx196_6)).trans hx196_6
                                  replace hx196_7 := (HB.out.cell (World.block_lt_of_cell? w _ hx196_7)).trans hx196_7
                                  replace hx196_8 := (HB.out.cell (World.block_lt_of_cell? w _ hx196_8)).trans hx196_8
                                  replace hx196_9 := (HB.out.cell (World.block_lt_of_cell? w _ hx196_9)).trans hx196_9
                                  replace p196 := eq_true p196
                                  replace q196 := eq_true q196
                                  go_wp2
                                  go_roundg kj17
                                  case measure => have := HK1.out; have := HJ10.out; have := HJ17.out; omega
                                  case rel => exact ⟨(x5_1), (x6_1), (x7_1), (wrap64 (x8_1 + 1)), (by first | rfl | (simp; done) | (simp [*]; done)), (by first | rfl | (simp; done) | (simp [*]; done)), (by first | rfl | (simp; done) | (simp [*]; done)), (by first | rfl | (simp; done) | (simp [*]; done)), H', ⟨by have := HK1.out; have := HJ10.out; have := HJ17.out; omega⟩, ⟨by repeat (first | (with_reducible first | exact HB.out | apply below_alloc | apply pw_below_drewN | apply below_drew1) | exact HB.out)⟩⟩
                                · rw [if_neg c26] at H
                                  have c26b0 : (((rd_T29 l1 x8_1).f1) == 0) = false := beq_eq_false_iff_ne.mpr c26
                                  have c26b1 : (((rd_T29 l1 x8_1).f1) != 0) = true := bne_iff_ne.mpr c26
                                  have H' := Aside0.mk H
                                  clear H
                                  have p195 : 0 ≤ (x8_1 : Int) := of_decide_eq_true (by first | (with_reducible assumption) | assumption)
                                  have q195 : x8_1 < (l1.length : Int) := of_decide_eq_true (by first | (with_reducible assumption) | assumption)
                                  obtain ⟨ad195, e195, hx195_0, hx195_1, hx195_2, hx195_3, hx195_4, hx195_5, hx195_6, hx195_7, hx195_8, hx195_9⟩ := at_T29 HR1.out x8_1 p195 q195
                                  obtain rfl : ad186 = ad195 := (by injection e195)
                                  replace hx195_0 := (HB.out.cell (World.block_lt_of_cell? w _ hx195_0)).trans hx195_0
                                  replace hx195_1 := (HB.out.cell (World.block_lt_of_cell? w _ hx195_1)).trans hx195_1
                                  replace hx195_2 := (HB.out.cell (World.block_lt_of_cell? w _ hx195_2)).trans hx195_2
                                  replace hx195_3 := (HB.out.cell (World.block_lt_of_cell? w _ hx195_3)).trans hx195_3
                                  replace hx195_4 := (HB.out.cell (World.block_lt_of_cell? w _ hx195_4)).trans hx195_4
                                  replace hx195_5 := (HB.out.cell (World.block_lt_of_cell? w _ hx195_5)).trans hx195_5
                                  replace hx195_6 := (HB.out.cell (World.block_lt_of_cell? w _ hx195_6)).trans hx195_6
                                  replace hx195_7 := (HB.out.cell (World.block_lt_of_cell? w _ hx195_7)).trans hx195_7
                                  replace hx195_8 := (HB.out.cell (World.block_lt_of_cell? w _ hx195_8)).trans hx195_8
                                  replace hx195_9 := (HB.out.cell (World.block_lt_of_cell? w _ hx195_9)).trans hx195_9
                                  replace p195 := eq_true p195
                                  replace q195 := eq_true q195
                                  have p196 : 0 ≤ (x8_1 : Int) := of_decide_eq_true (by first | (with_reducible assumption) | assumption)
                                  have q196 : x8_1 < (l1.length : Int) := of_decide_eq_true (by first | (with_reducible assumption) | assumption)
                                  obtain ⟨ad196, e196, hx196_0, hx196_1, hx196_2, hx196_3, hx196_4, hx196_5, hx196_6, hx196_7, hx196_8, hx196_9⟩ := at_T29 HR1.out x8_1 p196 q196
                                  obtain rfl : ad186 = ad196 := (by injection e196)
                                  replace hx196_0 := (HB.out.cell (World.block_lt_of_cell? w _ hx196_0)).trans hx196_0
                                  replace hx196_1 := (HB.out.cell (World.block_lt_of_cell? w _ hx196_1)).trans hx196_1
                                  replace hx196_2 := (HB.out.cell (World.block_lt_of_cell? w _ hx196_2)).trans hx196_2
                                  replace hx196_3 := (HB.out.cell (World.block_lt_of_cell? w _ hx196_3)).trans hx196_3
                                  replace hx196_4 := (HB.out.cell (World.block_lt_of_cell? w _ hx196_4)).trans hx196_4
                                  replace hx196_5 := (HB.out.cell (World.block_lt_of_cell? w _ hx196_5)).trans hx196_5
                                  replace hx196_6 := (HB.out.cell (World.block_lt_of_cell? w _ hx196_6)).trans hx196_6
                                  replace hx196_7 := (HB.out.cell (World.block_lt_of_cell? w _ hx196_7)).trans hx196_7
                                  replace hx196_8 := (HB.out.cell (World.block_lt_of_cell? w _ hx196_8)).trans hx196_8
                                  replace hx196_9 := (HB.out.cell (World.block_lt_of_cell? w _ hx196_9)).trans hx196_9
                                  replace p196 := eq_true p196
                                  replace q196 := eq_true q196
                                  go_wp2
                                  go_roundg kj17
                                  case measure => have := HK1.out; have := HJ10.out; have := HJ17.out; omega
                                  case rel => exact ⟨(x5_1), (x6_1), (wrap64 (x7_1 + 1)), (wrap64 (x8_1 + 1)), (by first | rfl | (simp; done) | (simp [*]; done)), (by first | rfl | (simp; done) | (simp [*]; done)), (by first | rfl | (simp; done) | (simp [*]; done)), (by first | rfl | (simp; done) | (simp [*]; done)), H', ⟨by have := HK1.out; have := HJ10.out; have := HJ17.out; omega⟩, ⟨by repeat (first | (with_reducible first | exact HB.out | apply below_alloc | apply pw_below_drewN | apply below_drew1) | exact HB.out)⟩⟩
                              · rw [if_neg c25] at H
                                have c25b0 : (((rd_T29 l1 x8_1).f0) == 2) = false := beq_eq_false_iff_ne.mpr c25
                                have c25b1 : (((rd_T29 l1 x8_1).f0) != 2) = true := bne_iff_ne.mpr c25
                                have H' := Aside0.mk H
                                clear H
                                have p195 : 0 ≤ (x8_1 : Int) := of_decide_eq_true (by first | (with_reducible assumption) | assumption)
                                have q195 : x8_1 < (l1.length : Int) := of_decide_eq_true (by first | (with_reducible assumption) | assumption)
                                obtain ⟨ad195, e195, hx195_0, hx195_1, hx195_2, hx195_3, hx195_4, hx195_5, hx195_6, hx195_7, hx195_8, hx195_9⟩ := at_T29 HR1.out x8_1 p195 q195
                                obtain rfl : ad186 = ad195 := (by injection e195)
                                replace hx195_0 := (HB.out.cell (World.block_lt_of_cell? w _ hx195_0)).trans hx195_0
                                replace hx195_1 := (HB.out.cell (World.block_lt_of_cell? w _ hx195_1)).trans hx195_1
                                replace hx195_2 := (HB.out.cell (World.block_lt_of_cell? w _ hx195_2)).trans hx195_2
                                replace hx195_3 := (HB.out.cell (World.block_lt_of_cell? w _ hx195_3)).trans hx195_3
                                replace hx195_4 := (HB.out.cell (World.block_lt_of_cell? w _ hx195_4)).trans hx195_4
                                replace hx195_5 := (HB.out.cell (World.block_lt_of_cell? w _ hx195_5)).trans hx195_5
                                replace hx195_6 := (HB.out.cell (World.block_lt_of_cell? w _ hx195_6)).trans hx195_6
                                replace hx195_7 := (HB.out.cell (World.block_lt_of_cell? w _ hx195_7)).trans hx195_7
                                replace hx195_8 := (HB.out.cell (World.block_lt_of_cell? w _ hx195_8)).trans hx195_8
                                replace hx195_9 := (HB.out.cell (World.block_lt_of_cell? w _ hx195_9)).trans hx195_9
                                replace p195 := eq_true p195
                                replace q195 := eq_true q195
                                go_wp2
                                go_roundg kj17
                                case measure => have := HK1.out; have := HJ10.out; have := HJ17.out; omega
                                case rel => exact ⟨(x5_1), (x6_1), (x7_1), (wrap64 (x8_1 + 1)), (by first | rfl | (simp; done) | (simp [*]; done)), (by first | rfl | (simp; done) | (simp [*]; done)), (by first | rfl | (simp; done) | (simp [*]; done)), (by first | rfl | (simp; done) | (simp [*]; done)), H', ⟨by have := HK1.out; have := HJ10.out; have := HJ17.out; omega⟩, ⟨by repeat (first | (with_reducible first | exact HB.out | apply below_alloc | apply pw_below_drewN | apply below_drew1) | exact HB.out)⟩⟩
                            · rw [if_neg c24] at H
                              exact absurd H (by simp)
                          · rw [if_neg c23] at H
                            exact absurd H (by simp)
            · rw [if_neg c10] at H
              have c10b0 : (t187.toList == t189.toList) = false := beq_eq_false_iff_ne.mpr c10
              have c10b1 : (t187.toList != t189.toList) = true := bne_iff_ne.mpr c10
              obtain rfl := Option.some.inj H
              try go_wp2
              have n0_ := Aside0.mk (below_drew1 HB.out)
              clear HB
              have HB := n0_
              clear n0_
              have p186 : 0 ≤ (x8_1 : Int) := of_decide_eq_true (by first | (with_reducible assumption) | assumption)
              have q186 : x8_1 < (l1.length : Int) := of_decide_eq_true (by first | (with_reducible assumption) | assumption)
              obtain ⟨ad186, e186, hx186_0, hx186_1, hx186_2, hx186_3, hx186_4, hx186_5, hx186_6, hx186_7, hx186_8, hx186_9⟩ := at_T29 HR1.out x8_1 p186 q186
              have hw186_9 := hx186_9
              have hw186_8 := hx186_8
              have hw186_7 := hx186_7
              have hw186_6 := hx186_6
              have hw186_5 := hx186_5
              have hw186_4 := hx186_4
              have hw186_3 := hx186_3
              have hw186_2 := hx186_2
              have hw186_1 := hx186_1
              have hw186_0 := hx186_0
              cases e186
              replace hx186_0 := (HB.out.cell (World.block_lt_of_cell? w _ hx186_0)).trans hx186_0
              replace hx186_1 := (HB.out.cell (World.block_lt_of_cell? w _ hx186_1)).trans hx186_1
              replace hx186_2 := (HB.out.cell (World.block_lt_of_cell? w _ hx186_2)).trans hx186_2
              replace hx186_3 := (HB.out.cell (World.block_lt_of_cell? w _ hx186_3)).trans hx186_3
              replace hx186_4 := (HB.out.cell (World.block_lt_of_cell? w _ hx186_4)).trans hx186_4
              replace hx186_5 := (HB.out.cell (World.block_lt_of_cell? w _ hx186_5)).trans hx186_5
              replace hx186_6 := (HB.out.cell (World.block_lt_of_cell? w _ hx186_6)).trans hx186_6
              replace hx186_7 := (HB.out.cell (World.block_lt_of_cell? w _ hx186_7)).trans hx186_7
              replace hx186_8 := (HB.out.cell (World.block_lt_of_cell? w _ hx186_8)).trans hx186_8
              replace hx186_9 := (HB.out.cell (World.block_lt_of_cell? w _ hx186_9)).trans hx186_9
              replace p186 := eq_true p186
              replace q186 := eq_true q186
              have p188 : 0 ≤ (x8_1 : Int) := of_decide_eq_true (by first | (with_reducible assumption) | assumption)
              have q188 : x8_1 < (l1.length : Int) := of_decide_eq_true (by first | (with_reducible assumption) | assumption)
              obtain ⟨ad188, e188, hx188_0, hx188_1, hx188_2, hx188_3, hx188_4, hx188_5, hx188_6, hx188_7, hx188_8, hx188_9⟩ := at_T29 HR1.out x8_1 p188 q188
              have hw188_9 := hx188_9
              have hw188_8 := hx188_8
              have hw188_7 := hx188_7
              have hw188_6 := hx188_6
              have hw188_5 := hx188_5
              have hw188_4 := hx188_4
              have hw188_3 := hx188_3
              have hw188_2 := hx188_2
              have hw188_1 := hx188_1
              have hw188_0 := hx188_0
              obtain rfl : ad186 = ad188 := (by injection e188)
              replace hx188_0 := (HB.out.cell (World.block_lt_of_cell? w _ hx188_0)).trans hx188_0
              replace hx188_1 := (HB.out.cell (World.block_lt_of_cell? w _ hx188_1)).trans hx188_1
              replace hx188_2 := (HB.out.cell (World.block_lt_of_cell? w _ hx188_2)).trans hx188_2
              replace hx188_3 := (HB.out.cell (World.block_lt_of_cell? w _ hx188_3)).trans hx188_3
              replace hx188_4 := (HB.out.cell (World.block_lt_of_cell? w _ hx188_4)).trans hx188_4
              replace hx188_5 := (HB.out.cell (World.block_lt_of_cell? w _ hx188_5)).trans hx188_5
              replace hx188_6 := (HB.out.cell (World.block_lt_of_cell? w _ hx188_6)).trans hx188_6
              replace hx188_7 := (HB.out.cell (World.block_lt_of_cell? w _ hx188_7)).trans hx188_7
              replace hx188_8 := (HB.out.cell (World.block_lt_of_cell? w _ hx188_8)).trans hx188_8
              replace hx188_9 := (HB.out.cell (World.block_lt_of_cell? w _ hx188_9)).trans hx188_9
              replace p188 := eq_true p188
              replace q188 := eq_true q188
              refine start_ (n := 11) (S := fun w' => w'.cell? (ad186.add ((x8_1).toNat * 10)) = some (.int .i64 ((rd_T29 l1 x8_1).f0)) ∧ w'.cell? ⟨(ad186.add ((x8_1).toNat * 10)).block, (ad186.add ((x8_1).toNat * 10)).off + 1, none⟩ = some (.int .i64 ((rd_T29 l1 x8_1).f1)) ∧ w'.cell? ⟨(ad186.add ((x8_1).toNat * 10)).block, (ad186.add ((x8_1).toNat * 10)).off + 2, none⟩ = some (.int .i64 ((rd_T29 l1 x8_1).f2.f0)) ∧ w'.cell? ⟨(ad186.add ((x8_1).toNat * 10)).block, (ad186.add ((x8_1).toNat * 10)).off + 3, none⟩ = some (.int .i64 ((rd_T29 l1 x8_1).f2.f1)) ∧ w'.cell? ⟨(ad186.add ((x8_1).toNat * 10)).block, (ad186.add ((x8_1).toNat * 10)).off + 4, none⟩ = some (.int .i64 ((rd_T29 l1 x8_1).f2.f2)) ∧ w'.cell? ⟨(ad186.add ((x8_1).toNat * 10)).block, (ad186.add ((x8_1).toNat * 10)).off + 5, none⟩ = some (.bool ((rd_T29 l1 x8_1).f2.f3)) ∧ w'.cell? ⟨(ad186.add ((x8_1).toNat * 10)).block, (ad186.add ((x8_1).toNat * 10)).off + 6, none⟩ = some (.int .i64 ((rd_T29 l1 x8_1).f2.f4.f0)) ∧ w'.cell? ⟨(ad186.add ((x8_1).toNat * 10)).block, (ad186.add ((x8_1).toNat * 10)).off + 7, none⟩ = some (.int .i64 ((rd_T29 l1 x8_1).f2.f4.f1)) ∧ w'.cell? ⟨(ad186.add ((x8_1).toNat * 10)).block, (ad186.add ((x8_1).toNat * 10)).off + 8, none⟩ = some (.int .i64 ((rd_T29 l1 x8_1).f2.f4.f2)) ∧ w'.cell? ⟨(ad186.add ((x8_1).toNat * 10)).block, (ad186.add ((x8_1).toNat * 10)).off + 9, none⟩ = some (.int .i64 ((rd_T29 l1 x8_1).f2.f4.f3)) ∧ w'.cell? (ad186.add ((x8_1).toNat * 10)) = some (.int .i64 ((rd_T29 l1 x8_1).f0)) ∧ w'.cell? ⟨(ad186.add ((x8_1).toNat * 10)).block, (ad186.add ((x8_1).toNat * 10)).off + 1, none⟩ = some (.int .i64 ((rd_T29 l1 x8_1).f1)) ∧ w'.cell? ⟨(ad186.add ((x8_1).toNat * 10)).block, (ad186.add ((x8_1).toNat * 10)).off + 2, none⟩ = some (.int .i64 ((rd_T29 l1 x8_1).f2.f0)) ∧ w'.cell? ⟨(ad186.add ((x8_1).toNat * 10)).block, (ad186.add ((x8_1).toNat * 10)).off + 3, none⟩ = some (.int .i64 ((rd_T29 l1 x8_1).f2.f1)) ∧ w'.cell? ⟨(ad186.add ((x8_1).toNat * 10)).block, (ad186.add ((x8_1).toNat * 10)).off + 4, none⟩ = some (.int .i64 ((rd_T29 l1 x8_1).f2.f2)) ∧ w'.cell? ⟨(ad186.add ((x8_1).toNat * 10)).block, (ad186.add ((x8_1).toNat * 10)).off + 5, none⟩ = some (.bool ((rd_T29 l1 x8_1).f2.f3)) ∧ w'.cell? ⟨(ad186.add ((x8_1).toNat * 10)).block, (ad186.add ((x8_1).toNat * 10)).off + 6, none⟩ = some (.int .i64 ((rd_T29 l1 x8_1).f2.f4.f0)) ∧ w'.cell? ⟨(ad186.add ((x8_1).toNat * 10)).block, (ad186.add ((x8_1).toNat * 10)).off + 7, none⟩ = some (.int .i64 ((rd_T29 l1 x8_1).f2.f4.f1)) ∧ w'.cell? ⟨(ad186.add ((x8_1).toNat * 10)).block, (ad186.add ((x8_1).toNat * 10)).off + 8, none⟩ = some (.int .i64 ((rd_T29 l1 x8_1).f2.f4.f2)) ∧ w'.cell? ⟨(ad186.add ((x8_1).toNat * 10)).block, (ad186.add ((x8_1).toNat * 10)).off + 9, none⟩ = some (.int .i64 ((rd_T29 l1 x8_1).f2.f4.f3))) (ds := []) #[false, false, false, false, false, false, false, false, false, false, false] (by kernel_rfl) rfl rfl ⟨((HB.out.cell (World.block_lt_of_cell? w _ hw186_0)).trans hw186_0), ((HB.out.cell (World.block_lt_of_cell? w _ hw186_1)).trans hw186_1), ((HB.out.cell (World.block_lt_of_cell? w _ hw186_2)).trans hw186_2), ((HB.out.cell (World.block_lt_of_cell? w _ hw186_3)).trans hw186_3), ((HB.out.cell (World.block_lt_of_cell? w _ hw186_4)).trans hw186_4), ((HB.out.cell (World.block_lt_of_cell? w _ hw186_5)).trans hw186_5), ((HB.out.cell (World.block_lt_of_cell? w _ hw186_6)).trans hw186_6), ((HB.out.cell (World.block_lt_of_cell? w _ hw186_7)).trans hw186_7), ((HB.out.cell (World.block_lt_of_cell? w _ hw186_8)).trans hw186_8), ((HB.out.cell (World.block_lt_of_cell? w _ hw186_9)).trans hw186_9), ((HB.out.cell (World.block_lt_of_cell? w _ hw188_0)).trans hw188_0), ((HB.out.cell (World.block_lt_of_cell? w _ hw188_1)).trans hw188_1), ((HB.out.cell (World.block_lt_of_cell? w _ hw188_2)).trans hw188_2), ((HB.out.cell (World.block_lt_of_cell? w _ hw188_3)).trans hw188_3), ((HB.out.cell (World.block_lt_of_cell? w _ hw188_4)).trans hw188_4), ((HB.out.cell (World.block_lt_of_cell? w _ hw188_5)).trans hw188_5), ((HB.out.cell (World.block_lt_of_cell? w _ hw188_6)).trans hw188_6), ((HB.out.cell (World.block_lt_of_cell? w _ hw188_7)).trans hw188_7), ((HB.out.cell (World.block_lt_of_cell? w _ hw188_8)).trans hw188_8), ((HB.out.cell (World.block_lt_of_cell? w _ hw188_9)).trans hw188_9)⟩ (fun hHeld => ?_); refine with_tabW quorumitelaw27_ReportAsks.tab7 quorumitelaw27_ReportAsks.bits7 (fun HT_ HW_ => ?_)
              generalize wr.drew = w27 at HB hx186_0 hx186_1 hx186_2 hx186_3 hx186_4 hx186_5 hx186_6 hx186_7 hx186_8 hx186_9 hx188_0 hx188_1 hx188_2 hx188_3 hx188_4 hx188_5 hx188_6 hx188_7 hx188_8 hx188_9 hHeld ⊢
              refine pure_ (i := 0) (N := some 22) (v := ?_) (a' := ?_) #[true, false, false, false, false, false, false, false, false, false, false] rfl rfl (any_of HT_.out (by kernel_rfl)) (fun _ _ _ h => h) (Or.inl ⟨by rfl, ?_⟩) ?_ ?_
              rotate_left
              · intro w'
                go_simp
                with_reducible rfl
              rotate_left
              · simp only [Act.put, List.setIfInBounds_toArray, List.set_cons_zero, List.set_cons_succ, i64_w, i32_w]
                rfl
              refine pure_ (i := 1) (N := some 23) (v := ?_) (a' := ?_) #[true, true, false, false, false, false, false, false, false, false, false] rfl rfl (any_of HT_.out (by kernel_rfl)) (fun _ _ _ h => h) (Or.inl ⟨by rfl, ?_⟩) ?_ ?_
              rotate_left
              · intro w'
                go_simp
                with_reducible rfl
              rotate_left
              · simp only [Act.put, List.setIfInBounds_toArray, List.set_cons_zero, List.set_cons_succ, i64_w, i32_w]
                rfl
              refine pure_ (i := 2) (N := some 24) (v := ?_) (a' := ?_) #[true, true, true, false, false, false, false, false, false, false, false] rfl rfl (any_of HT_.out (by kernel_rfl)) (fun _ _ _ h => h) (Or.inl ⟨by rfl, ?_⟩) ?_ ?_
              rotate_left
              · intro w'
                go_simp
                with_reducible rfl
              rotate_left
              · simp only [Act.put, List.setIfInBounds_toArray, List.set_cons_zero, List.set_cons_succ, i64_w, i32_w]
                rfl
              refine pure_ (i := 5) (N := some 27) (v := ?_) (a' := ?_) #[true, true, true, false, false, true, false, false, false, false, false] rfl rfl (any_of HT_.out (by kernel_rfl)) (fun _ _ _ h => h) (Or.inl ⟨by rfl, ?_⟩) ?_ ?_
              rotate_left
              · intro w'
                go_simp
                with_reducible rfl
              rotate_left
              · simp only [Act.put, List.setIfInBounds_toArray, List.set_cons_zero, List.set_cons_succ, i64_w, i32_w]
                rfl
              refine pure_ (i := 6) (N := some 28) (v := ?_) (a' := ?_) #[true, true, true, false, false, true, true, false, false, false, false] rfl rfl (any_of HT_.out (by kernel_rfl)) (fun _ _ _ h => h) (Or.inl ⟨by rfl, ?_⟩) ?_ ?_
              rotate_left
              · intro w'
                go_simp
                with_reducible rfl
              rotate_left
              · simp only [Act.put, List.setIfInBounds_toArray, List.set_cons_zero, List.set_cons_succ, i64_w, i32_w]
                rfl
              refine pure_ (i := 7) (N := some 29) (v := ?_) (a' := ?_) #[true, true, true, false, false, true, true, true, false, false, false] rfl rfl (any_of HT_.out (by kernel_rfl)) (fun _ _ _ h => h) (Or.inl ⟨by rfl, ?_⟩) ?_ ?_
              rotate_left
              · intro w'
                go_simp
                with_reducible rfl
              rotate_left
              · simp only [Act.put, List.setIfInBounds_toArray, List.set_cons_zero, List.set_cons_succ, i64_w, i32_w]
                rfl
              refine take_ (i := 3) (N := some 25) (v := ?_) (a' := ?_) #[true, true, true, true, false, true, true, true, false, false, false] rfl rfl (take_ofW HT_.out HW_.out (by kernel_rfl)) (fun _ _ _ h => h) (Or.inl ⟨by rfl, ?_⟩) hHeld ?_ ?_
              rotate_left
              · rintro w' ⟨s0, s1, s2, s3, s4, s5, s6, s7, s8, s9, s10, s11, s12, s13, s14, s15, s16, s17, s18, s19⟩
                go_simp
                with_reducible rfl
              rotate_left
              · simp only [Act.put, List.setIfInBounds_toArray, List.set_cons_zero, List.set_cons_succ, i64_w, i32_w]
                rfl
              refine take_ (i := 8) (N := some 30) (v := ?_) (a' := ?_) #[true, true, true, true, false, true, true, true, true, false, false] rfl rfl (take_ofW HT_.out HW_.out (by kernel_rfl)) (fun _ _ _ h => h) (Or.inl ⟨by rfl, ?_⟩) hHeld ?_ ?_
              rotate_left
              · rintro w' ⟨s0, s1, s2, s3, s4, s5, s6, s7, s8, s9, s10, s11, s12, s13, s14, s15, s16, s17, s18, s19⟩
                go_simp
                with_reducible rfl
              rotate_left
              · simp only [Act.put, List.setIfInBounds_toArray, List.set_cons_zero, List.set_cons_succ, i64_w, i32_w]
                rfl
              refine one_ (i := 4) (N := some 26) #[true, true, true, true, true, true, true, true, true, false, false] rfl rfl (one_of HT_.out (by kernel_rfl)) (by decide) (fun K hK => ?_)
              refine goes_ Tryd.func7 (by kernel_rfl) rfl #[.agg #[.int .i64 ((rd_T29 l1 x8_1).f0), .int .i64 ((rd_T29 l1 x8_1).f1), .int .i64 ((rd_T29 l1 x8_1).f2.f0), .int .i64 ((rd_T29 l1 x8_1).f2.f1), .int .i64 ((rd_T29 l1 x8_1).f2.f2), .bool ((rd_T29 l1 x8_1).f2.f3), .int .i64 ((rd_T29 l1 x8_1).f2.f4.f0), .int .i64 ((rd_T29 l1 x8_1).f2.f4.f1), .int .i64 ((rd_T29 l1 x8_1).f2.f4.f2), .int .i64 ((rd_T29 l1 x8_1).f2.f4.f3)]] (by rfl) rfl rfl (by (try simp only [List.map_toArray, List.map_cons, List.map_nil]); first | done | rfl | (simp only [List.length_drop, List.length_take]; rfl)) ?_
              with_reducible refine (report_Line.calls k1 ((rd_T29 l1 x8_1).f0) ((rd_T29 l1 x8_1).f1) ((rd_T29 l1 x8_1).f2.f0) ((rd_T29 l1 x8_1).f2.f1) ((rd_T29 l1 x8_1).f2.f2) ((rd_T29 l1 x8_1).f2.f3) ((rd_T29 l1 x8_1).f2.f4.f0) ((rd_T29 l1 x8_1).f2.f4.f1) ((rd_T29 l1 x8_1).f2.f4.f2) ((rd_T29 l1 x8_1).f2.f4.f3) t187 _ (tab_at HTB (by repeat (first | (with_reducible first | exact HB.out | apply below_alloc | apply pw_below_drewN | apply below_drew1) | exact HB.out))) A8.out).mono ?_
              rintro e w28 ⟨rfl, hb⟩
              refine ⟨_, rfl, ?_⟩
              have n0_ := Aside0.mk (below_step (by repeat (first | (with_reducible first | exact HB.out | apply below_alloc | apply pw_below_drewN | apply below_drew1) | exact HB.out)) hb)
              clear HB
              have HB := n0_
              clear n0_
              (try clear hb)
              (try clear hb2)
              (try clear hk)
              (try clear hi)
              refine hK.out _ _ ⟨((HB.out.cell (World.block_lt_of_cell? w _ hw186_0)).trans hw186_0), ((HB.out.cell (World.block_lt_of_cell? w _ hw186_1)).trans hw186_1), ((HB.out.cell (World.block_lt_of_cell? w _ hw186_2)).trans hw186_2), ((HB.out.cell (World.block_lt_of_cell? w _ hw186_3)).trans hw186_3), ((HB.out.cell (World.block_lt_of_cell? w _ hw186_4)).trans hw186_4), ((HB.out.cell (World.block_lt_of_cell? w _ hw186_5)).trans hw186_5), ((HB.out.cell (World.block_lt_of_cell? w _ hw186_6)).trans hw186_6), ((HB.out.cell (World.block_lt_of_cell? w _ hw186_7)).trans hw186_7), ((HB.out.cell (World.block_lt_of_cell? w _ hw186_8)).trans hw186_8), ((HB.out.cell (World.block_lt_of_cell? w _ hw186_9)).trans hw186_9), ((HB.out.cell (World.block_lt_of_cell? w _ hw188_0)).trans hw188_0), ((HB.out.cell (World.block_lt_of_cell? w _ hw188_1)).trans hw188_1), ((HB.out.cell (World.block_lt_of_cell? w _ hw188_2)).trans hw188_2), ((HB.out.cell (World.block_lt_of_cell? w _ hw188_3)).trans hw188_3), ((HB.out.cell (World.block_lt_of_cell? w _ hw188_4)).trans hw188_4), ((HB.out.cell (World.block_lt_of_cell? w _ hw188_5)).trans hw188_5), ((HB.out.cell (World.block_lt_of_cell? w _ hw188_6)).trans hw188_6), ((HB.out.cell (World.block_lt_of_cell? w _ hw188_7)).trans hw188_7), ((HB.out.cell (World.block_lt_of_cell? w _ hw188_8)).trans hw188_8), ((HB.out.cell (World.block_lt_of_cell? w _ hw188_9)).trans hw188_9)⟩ (fun hHeld => ?_)
              clear hK K
              refine norm_ (a' := ?_) ?_ ?_
              rotate_left
              · show Act.put _ (some 26) _ = _
                simp only [Act.put, List.setIfInBounds_toArray, List.set_cons_zero, List.set_cons_succ, i64_w, i32_w]
                rfl
              refine one_ (i := 9) (N := some 31) #[true, true, true, true, true, true, true, true, true, true, false] rfl rfl (one_of HT_.out (by kernel_rfl)) (by decide) (fun K hK => ?_)
              refine goes_ Tryd.func11 (by kernel_rfl) rfl #[.agg #[.int .i64 ((rd_T29 l1 x8_1).f0), .int .i64 ((rd_T29 l1 x8_1).f1), .int .i64 ((rd_T29 l1 x8_1).f2.f0), .int .i64 ((rd_T29 l1 x8_1).f2.f1), .int .i64 ((rd_T29 l1 x8_1).f2.f2), .bool ((rd_T29 l1 x8_1).f2.f3), .int .i64 ((rd_T29 l1 x8_1).f2.f4.f0), .int .i64 ((rd_T29 l1 x8_1).f2.f4.f1), .int .i64 ((rd_T29 l1 x8_1).f2.f4.f2), .int .i64 ((rd_T29 l1 x8_1).f2.f4.f3)]] (by rfl) rfl rfl (by (try simp only [List.map_toArray, List.map_cons, List.map_nil]); first | done | rfl | (simp only [List.length_drop, List.length_take]; rfl)) ?_
              with_reducible refine (quorumiteref25_Line.calls k1 ((rd_T29 l1 x8_1).f0) ((rd_T29 l1 x8_1).f1) ((rd_T29 l1 x8_1).f2.f0) ((rd_T29 l1 x8_1).f2.f1) ((rd_T29 l1 x8_1).f2.f2) ((rd_T29 l1 x8_1).f2.f3) ((rd_T29 l1 x8_1).f2.f4.f0) ((rd_T29 l1 x8_1).f2.f4.f1) ((rd_T29 l1 x8_1).f2.f4.f2) ((rd_T29 l1 x8_1).f2.f4.f3) t189 _ A9.out).mono ?_
              rintro e w29 ⟨rfl, hb⟩
              refine ⟨_, rfl, ?_⟩
              have n0_ := Aside0.mk (below_step (by repeat (first | (with_reducible first | exact HB.out | apply below_alloc | apply pw_below_drewN | apply below_drew1) | exact HB.out)) hb)
              clear HB
              have HB := n0_
              clear n0_
              (try clear hb)
              (try clear hb2)
              (try clear hk)
              (try clear hi)
              refine hK.out _ _ ⟨((HB.out.cell (World.block_lt_of_cell? w _ hw186_0)).trans hw186_0), ((HB.out.cell (World.block_lt_of_cell? w _ hw186_1)).trans hw186_1), ((HB.out.cell (World.block_lt_of_cell? w _ hw186_2)).trans hw186_2), ((HB.out.cell (World.block_lt_of_cell? w _ hw186_3)).trans hw186_3), ((HB.out.cell (World.block_lt_of_cell? w _ hw186_4)).trans hw186_4), ((HB.out.cell (World.block_lt_of_cell? w _ hw186_5)).trans hw186_5), ((HB.out.cell (World.block_lt_of_cell? w _ hw186_6)).trans hw186_6), ((HB.out.cell (World.block_lt_of_cell? w _ hw186_7)).trans hw186_7), ((HB.out.cell (World.block_lt_of_cell? w _ hw186_8)).trans hw186_8), ((HB.out.cell (World.block_lt_of_cell? w _ hw186_9)).trans hw186_9), ((HB.out.cell (World.block_lt_of_cell? w _ hw188_0)).trans hw188_0), ((HB.out.cell (World.block_lt_of_cell? w _ hw188_1)).trans hw188_1), ((HB.out.cell (World.block_lt_of_cell? w _ hw188_2)).trans hw188_2), ((HB.out.cell (World.block_lt_of_cell? w _ hw188_3)).trans hw188_3), ((HB.out.cell (World.block_lt_of_cell? w _ hw188_4)).trans hw188_4), ((HB.out.cell (World.block_lt_of_cell? w _ hw188_5)).trans hw188_5), ((HB.out.cell (World.block_lt_of_cell? w _ hw188_6)).trans hw188_6), ((HB.out.cell (World.block_lt_of_cell? w _ hw188_7)).trans hw188_7), ((HB.out.cell (World.block_lt_of_cell? w _ hw188_8)).trans hw188_8), ((HB.out.cell (World.block_lt_of_cell? w _ hw188_9)).trans hw188_9)⟩ (fun hHeld => ?_)
              clear hK K
              refine norm_ (a' := ?_) ?_ ?_
              rotate_left
              · show Act.put _ (some 31) _ = _
                simp only [Act.put, List.setIfInBounds_toArray, List.set_cons_zero, List.set_cons_succ, i64_w, i32_w]
                rfl
              refine pure_ (i := 10) (N := some 32) (v := ?_) (a' := ?_) #[true, true, true, true, true, true, true, true, true, true, true] rfl rfl (any_of HT_.out (by kernel_rfl)) (fun _ _ _ h => h) (Or.inl ⟨by rfl, ?_⟩) ?_ ?_
              rotate_left
              · intro w'
                go_simp
                with_reducible rfl
              rotate_left
              · simp only [Act.put, List.setIfInBounds_toArray, List.set_cons_zero, List.set_cons_succ, i64_w, i32_w]
                rfl
              refine done_ (done_of HT_.out (by kernel_rfl)) ?_
              try go_wp2
              go_ret
              exact ⟨by first | rfl | (simp [errW_none, errW_some] <;> rfl) | (simp [*, errW_none, errW_some] <;> rfl), by repeat (first | (with_reducible first | exact HB.out | apply below_alloc | apply pw_below_drewN | apply below_drew1) | exact HB.out)⟩
          · rw [if_neg c7] at H
            exact absurd H (by simp)
        · rw [if_neg c6] at H
          have c6b0 : decide (x8_1 < (l1.length : Int)) = false := decide_eq_false c6
          clear c6
          replace H := Option.bind_eq_some_iff.mp H
          obtain ⟨⟨t197, t198, t199⟩, A300, H⟩ := H
          replace H : ((quorumitelaw27_told.f k1).bind fun t200 => (if t200 = true then ((report_Code.f a0).bind fun t201 => ((quorumiteref25_Word.f a0).bind fun t202 => (if t201.toList = t202.toList then ((report_All.f k1 l1).bind fun t203 => ((quorumiteref25_Lines.f k1 l1).bind fun t204 => (if t203.toList = t204.toList then (if t197 = x5_1 then (if t198 = x6_1 then (some (t199 == x7_1)) else (some false)) else (some false)) else (some false)))) else (some false)))) else (some false))) = some r := H
          have A30 := Aside0.mk A300
          clear A300
          replace H := Option.bind_eq_some_iff.mp H
          obtain ⟨t200, A310, H⟩ := H
          replace H : (if t200 = true then ((report_Code.f a0).bind fun t201 => ((quorumiteref25_Word.f a0).bind fun t202 => (if t201.toList = t202.toList then ((report_All.f k1 l1).bind fun t203 => ((quorumiteref25_Lines.f k1 l1).bind fun t204 => (if t203.toList = t204.toList then (if t197 = x5_1 then (if t198 = x6_1 then (some (t199 == x7_1)) else (some false)) else (some false)) else (some false)))) else (some false)))) else (some false)) = some r := H
          have A31 := Aside0.mk A310
          clear A310
          by_cases c32 : t200 = true
          · subst c32
            have H1 : ((report_Code.f a0).bind fun t201 => ((quorumiteref25_Word.f a0).bind fun t202 => (if t201.toList = t202.toList then ((report_All.f k1 l1).bind fun t203 => ((quorumiteref25_Lines.f k1 l1).bind fun t204 => (if t203.toList = t204.toList then (if t197 = x5_1 then (if t198 = x6_1 then (some (t199 == x7_1)) else (some false)) else (some false)) else (some false)))) else (some false)))) = some r := by rw [if_pos rfl] at H; exact H
            clear H
            have H := H1
            clear H1
            replace H := Option.bind_eq_some_iff.mp H
            obtain ⟨t201, A330, H⟩ := H
            replace H : ((quorumiteref25_Word.f a0).bind fun t202 => (if t201.toList = t202.toList then ((report_All.f k1 l1).bind fun t203 => ((quorumiteref25_Lines.f k1 l1).bind fun t204 => (if t203.toList = t204.toList then (if t197 = x5_1 then (if t198 = x6_1 then (some (t199 == x7_1)) else (some false)) else (some false)) else (some false)))) else (some false))) = some r := H
            have A33 := Aside0.mk A330
            clear A330
            replace H := Option.bind_eq_some_iff.mp H
            obtain ⟨t202, A340, H⟩ := H
            replace H : (if t201.toList = t202.toList then ((report_All.f k1 l1).bind fun t203 => ((quorumiteref25_Lines.f k1 l1).bind fun t204 => (if t203.toList = t204.toList then (if t197 = x5_1 then (if t198 = x6_1 then (some (t199 == x7_1)) else (some false)) else (some false)) else (some false)))) else (some false)) = some r := H
            have A34 := Aside0.mk A340
            clear A340
            by_cases c35 : t201.toList = t202.toList
            · rw [if_pos c35] at H
              have c35b0 : (t201.toList == t202.toList) = true := beq_iff_eq.mpr c35
              have c35b1 : (t201.toList != t202.toList) = false := bne_eq_false_iff_eq.mpr c35
              clear c35
              replace H := Option.bind_eq_some_iff.mp H
              obtain ⟨t203, A360, H⟩ := H
              replace H : ((quorumiteref25_Lines.f k1 l1).bind fun t204 => (if t203.toList = t204.toList then (if t197 = x5_1 then (if t198 = x6_1 then (some (t199 == x7_1)) else (some false)) else (some false)) else (some false))) = some r := H
              have A36 := Aside0.mk A360
              clear A360
              replace H := Option.bind_eq_some_iff.mp H
              obtain ⟨t204, A370, H⟩ := H
              replace H : (if t203.toList = t204.toList then (if t197 = x5_1 then (if t198 = x6_1 then (some (t199 == x7_1)) else (some false)) else (some false)) else (some false)) = some r := H
              have A37 := Aside0.mk A370
              clear A370
              by_cases c38 : t203.toList = t204.toList
              · rw [if_pos c38] at H
                have c38b0 : (t203.toList == t204.toList) = true := beq_iff_eq.mpr c38
                have c38b1 : (t203.toList != t204.toList) = false := bne_eq_false_iff_eq.mpr c38
                clear c38
                by_cases c39 : t197 = x5_1
                · rw [if_pos c39] at H
                  have c39b0 : (t197 == x5_1) = true := beq_iff_eq.mpr c39
                  have c39b1 : (t197 != x5_1) = false := bne_eq_false_iff_eq.mpr c39
                  clear c39
                  by_cases c40 : t198 = x6_1
                  · rw [if_pos c40] at H
                    have c40b0 : (t198 == x6_1) = true := beq_iff_eq.mpr c40
                    have c40b1 : (t198 != x6_1) = false := bne_eq_false_iff_eq.mpr c40
                    clear c40
                    obtain rfl := Option.some.inj H
                    (try simp only [@List.append_eq Oper, @List.cons_append Oper, @List.nil_append Oper] at *)
                    go_wp2_with (first | ((with_reducible refine gate_callee (f := 9) rfl ?_); refine goesL_ (some 94) rfl rfl Tryd.func9 (by kernel_rfl) rfl #[.slice A1 l1.length c1] rfl (by (try simp only [List.map_toArray, List.map_cons, List.map_nil]); first | done | rfl | (simp only [List.length_drop, List.length_take]; rfl)) ?_; (with_reducible refine (report_Counts.calls k1 _ _ l1 t197 t198 t199 _ ?side1 ?side2 A30.out).mono ?_); (case side1 => repeat (first | exact (Kd.C_below HR1.out HB.out) | (with_reducible refine Kd.C_alloc ?_ _) | (with_reducible refine Kd.C_drewN ?_ _) | (with_reducible refine Kd.C_drew ?_))); (case side2 => exact HC1.out); rintro e w41 ⟨rfl, hb⟩; refine ⟨_, rfl, ?_⟩; have n0_ := Aside0.mk (below_step (by repeat (first | (with_reducible first | exact HB.out | apply below_alloc | apply pw_below_drewN | apply below_drew1) | exact HB.out)) hb); clear HB; have HB := n0_; clear n0_; (try clear hb); (try clear hb2); (try clear hk); (try clear hi)) | ((with_reducible refine gate_callee (f := 8) rfl ?_); refine goesL_ (some 98) rfl rfl Tryd.func8 (by kernel_rfl) rfl #[] rfl (by (try simp only [List.map_toArray, List.map_cons, List.map_nil]); first | done | rfl | (simp only [List.length_drop, List.length_take]; rfl)) ?_; (with_reducible refine (quorumitelaw27_told.calls k1  true _ (tab_at HTB (by repeat (first | (with_reducible first | exact HB.out | apply below_alloc | apply pw_below_drewN | apply below_drew1) | exact HB.out))) rfl A31.out).mono ?_); rintro e w42 ⟨rfl, hb⟩; refine ⟨_, rfl, ?_⟩; have n0_ := Aside0.mk (below_step (by repeat (first | (with_reducible first | exact HB.out | apply below_alloc | apply pw_below_drewN | apply below_drew1) | exact HB.out)) hb); clear HB; have HB := n0_; clear n0_; (try clear hb); (try clear hb2); (try clear hk); (try clear hi)) | (go_at_call 6; (with_reducible refine (report_Code.calls a0 t201 _ A33.out).mono ?_); rintro e w43 ⟨rfl, hb⟩; have n0_ := Aside0.mk (below_step (by repeat (first | (with_reducible first | exact HB.out | apply below_alloc | apply pw_below_drewN | apply below_drew1) | exact HB.out)) hb); clear HB; have HB := n0_; clear n0_; (try clear hb); (try clear hb2); (try clear hk); (try clear hi)) | (go_at_call 12; (with_reducible refine (quorumiteref25_Word.calls a0 t202 _ A34.out).mono ?_); rintro e w44 ⟨rfl, hb⟩; have n0_ := Aside0.mk (below_step (by repeat (first | (with_reducible first | exact HB.out | apply below_alloc | apply pw_below_drewN | apply below_drew1) | exact HB.out)) hb); clear HB; have HB := n0_; clear n0_; (try clear hb); (try clear hb2); (try clear hk); (try clear hi)) | (go_at_call 10; (with_reducible refine (report_All.calls k1 _ _ l1 t203 _ (tab_at HTB (by repeat (first | (with_reducible first | exact HB.out | apply below_alloc | apply pw_below_drewN | apply below_drew1) | exact HB.out))) ?side1 ?side2 A36.out).mono ?_); (case side1 => repeat (first | exact (Kd.C_below HR1.out HB.out) | (with_reducible refine Kd.C_alloc ?_ _) | (with_reducible refine Kd.C_drewN ?_ _) | (with_reducible refine Kd.C_drew ?_))); (case side2 => exact HC1.out); rintro e w45 ⟨rfl, hb⟩; have n0_ := Aside0.mk (below_step (by repeat (first | (with_reducible first | exact HB.out | apply below_alloc | apply pw_below_drewN | apply below_drew1) | exact HB.out)) hb); clear HB; have HB := n0_; clear n0_; (try clear hb); (try clear hb2); (try clear hk); (try clear hi)) | (go_at_call 13; (with_reducible refine (quorumiteref25_Lines.calls k1 _ _ l1 t204 _ ?side1 ?side2 A37.out).mono ?_); (case side1 => repeat (first | exact (Kd.C_below HR1.out HB.out) | (with_reducible refine Kd.C_alloc ?_ _) | (with_reducible refine Kd.C_drewN ?_ _) | (with_reducible refine Kd.C_drew ?_))); (case side2 => exact HC1.out); rintro e w46 ⟨rfl, hb⟩; have n0_ := Aside0.mk (below_step (by repeat (first | (with_reducible first | exact HB.out | apply below_alloc | apply pw_below_drewN | apply below_drew1) | exact HB.out)) hb); clear HB; have HB := n0_; clear n0_; (try clear hb); (try clear hb2); (try clear hk); (try clear hi)))
                    go_ret
                    exact ⟨by first | rfl | (simp [errW_none, errW_some] <;> rfl) | (simp [*, errW_none, errW_some] <;> rfl), by repeat (first | (with_reducible first | exact HB.out | apply below_alloc | apply pw_below_drewN | apply below_drew1) | exact HB.out)⟩
                  · rw [if_neg c40] at H
                    have c40b0 : (t198 == x6_1) = false := beq_eq_false_iff_ne.mpr c40
                    have c40b1 : (t198 != x6_1) = true := bne_iff_ne.mpr c40
                    exact absurd ((Option.some.inj H).trans HRT.out) (by decide)
                · rw [if_neg c39] at H
                  have c39b0 : (t197 == x5_1) = false := beq_eq_false_iff_ne.mpr c39
                  have c39b1 : (t197 != x5_1) = true := bne_iff_ne.mpr c39
                  exact absurd ((Option.some.inj H).trans HRT.out) (by decide)
              · rw [if_neg c38] at H
                have c38b0 : (t203.toList == t204.toList) = false := beq_eq_false_iff_ne.mpr c38
                have c38b1 : (t203.toList != t204.toList) = true := bne_iff_ne.mpr c38
                exact absurd ((Option.some.inj H).trans HRT.out) (by decide)
            · rw [if_neg c35] at H
              have c35b0 : (t201.toList == t202.toList) = false := beq_eq_false_iff_ne.mpr c35
              have c35b1 : (t201.toList != t202.toList) = true := bne_iff_ne.mpr c35
              exact absurd ((Option.some.inj H).trans HRT.out) (by decide)
          · replace c32 := Bool.eq_false_iff.mpr c32
            subst c32
            have H1 : (some false) = some r := by rw [if_neg (show ¬ (false = true) by decide)] at H; exact H
            clear H
            have H := H1
            clear H1
            exact absurd ((Option.some.inj H).trans HRT.out) (by decide)

end Go.Proofs.YtjcjibghnpjegaaDoor.Pd
