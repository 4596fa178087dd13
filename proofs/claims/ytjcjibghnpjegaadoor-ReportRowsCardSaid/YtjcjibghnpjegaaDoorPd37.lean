-- Made by a program of this session (wip: patch_print.py, patch_arr.py, prD.sh) out of the kit's print: functions over lists and the proof that the Go code comes to them.
import Derived.Test.YtjcjibghnpjegaaDoorPd0
import Derived.Test.YtjcjibghnpjegaaDoorPd26
import Derived.Test.YtjcjibghnpjegaaDoorPd27
import Derived.Test.YtjcjibghnpjegaaDoorPd28
import Derived.Test.YtjcjibghnpjegaaDoorPd29
namespace Go.Proofs.YtjcjibghnpjegaaDoor.Pd
open Go.RowKit Go.Proofs.YtjcjibghnpjegaaDoorW.PrintWords Go.Proofs.YtjcjibghnpjegaaDoorW.PrintLast Go.Proofs.YtjcjibghnpjegaaDoorW.PrintMore
attribute [local go_sem] max2_int min2_int max_two min_two max_three min_three max_four min_four   -- for this text's walks alone
set_option linter.unusedVariables false
set_option linter.unusedSimpArgs false

/-! ### quorumitelaw27_ReportRows: function 4 -/
mutual
def quorumitelaw27_ReportRows.j0 : Nat → List (S29) → List (S29) → Bool → Option (Bool)
  | 0, _, _, _ => none
  | k + 1, x0, x1, x24 => if x24 = true then ((quorumitelaw27_told.f k).bind fun t211 => (some t211)) else ((some (([] : List (S29)) : List (S29))).bind fun y212 => (if y212.length + x0.length < 1759218604441 then ((some (y212 ++ x0 : List (S29))).bind fun y215 => (if y215.length + x1.length < 1759218604441 then (quorumitelaw27_ReportRows.l0 k x0 x1 (y215 ++ x1) (⟨#[]⟩ : ByteArray) 0) else (none))) else (none)))
def quorumitelaw27_ReportRows.l0 : Nat → List (S29) → List (S29) → List (S29) → ByteArray → Int → Option (Bool)
  | 0, _, _, _, _, _ => none
  | k + 1, x0, x1, x5, x6, x7 => if x7 < (x5.length : Int) then (if 0 ≤ x7 then ((report_Line.f k ((rd_T29 x5 x7).f0) ((rd_T29 x5 x7).f1) ((rd_T29 x5 x7).f2.f0) ((rd_T29 x5 x7).f2.f1) ((rd_T29 x5 x7).f2.f2) ((rd_T29 x5 x7).f2.f3) ((rd_T29 x5 x7).f2.f4.f0) ((rd_T29 x5 x7).f2.f4.f1) ((rd_T29 x5 x7).f2.f4.f2) ((rd_T29 x5 x7).f2.f4.f3)).bind fun t222 => (if x6.size + t222.size ≤ 9223372036854775807 then (if (x6 ++ t222).size + 1 ≤ 9223372036854775807 then (quorumitelaw27_ReportRows.l0 k x0 x1 x5 ((x6 ++ t222) ++ (⟨#[10]⟩ : ByteArray)) (wrap64 (x7 + 1))) else (none)) else (none))) else (none)) else ((report_Counts.f k x0).bind fun bt223 => ((report_Counts.f k x1).bind fun bt226 => ((report_Counts.f k x5).bind fun bt229 => ((quorumitelaw27_told.f k).bind fun t232 => (if t232 = true then ((report_All.f k x5).bind fun t233 => (if t233.toList = x6.toList then ((report_All.f k x5).bind fun t234 => ((report_All.f k x0).bind fun t235 => ((report_All.f k x1).bind fun t236 => (if t235.size + t236.size ≤ 9223372036854775807 then (if t234.toList = (t235 ++ t236).toList then (if bt229.1 = (wrap64 (bt223.1 + bt226.1)) then (if bt229.2.1 = (wrap64 (bt223.2.1 + bt226.2.1)) then (some (bt229.2.2 == (wrap64 (bt223.2.2 + bt226.2.2)))) else (some false)) else (some false)) else (some false)) else (none))))) else (some false))) else (some false))))))
end
def quorumitelaw27_ReportRows.f (k : Nat) (l0 : List (S29)) (l1 : List (S29)) : Option (Bool) := if (l0.length : Int) > 15 then (quorumitelaw27_ReportRows.j0 k l0 l1 true) else (quorumitelaw27_ReportRows.j0 k l0 l1 (decide ((l1.length : Int) > 15)))
theorem quorumitelaw27_ReportRows.mono_l : ∀ k, (∀ y0 y1 y2, LeO (quorumitelaw27_ReportRows.j0 k y0 y1 y2) (quorumitelaw27_ReportRows.j0 (k + 1) y0 y1 y2)) ∧ (∀ y0 y1 y2 y3 y4, LeO (quorumitelaw27_ReportRows.l0 k y0 y1 y2 y3 y4) (quorumitelaw27_ReportRows.l0 (k + 1) y0 y1 y2 y3 y4))
  | 0 => ⟨fun _ _ _ r h => by simp [quorumitelaw27_ReportRows.j0] at h, fun _ _ _ _ _ r h => by simp [quorumitelaw27_ReportRows.l0] at h⟩
  | k + 1 => by
    obtain ⟨ih0, ih1⟩ := quorumitelaw27_ReportRows.mono_l k
    refine ⟨?_, ?_⟩
    · intro y0 y1 y2
      unfold quorumitelaw27_ReportRows.j0
      repeat' first
      | (with_reducible exact ih0 _ _ _)
      | (with_reducible exact ih1 _ _ _ _ _)
      | (with_reducible exact quorumitelaw27_told.mono _)
      | (with_reducible exact report_All.mono _ _)
      | (with_reducible exact report_Counts.mono _ _)
      | (with_reducible exact report_Line.mono _ _ _ _ _ _ _ _ _ _ _)
      | (with_reducible exact LeO.refl _)
      | (with_reducible exact LeO.none _)
      | (with_reducible refine LeO.ite ?_ ?_)
      | (with_reducible refine LeO.bind ?_ (fun _ => ?_))
      | exact ih0 _ _ _
      | exact ih1 _ _ _ _ _
      | exact quorumitelaw27_told.mono _
      | exact report_All.mono _ _
      | exact report_Counts.mono _ _
      | exact report_Line.mono _ _ _ _ _ _ _ _ _ _ _
      | exact LeO.none _
      | refine LeO.ite ?_ ?_
      | refine LeO.bind ?_ (fun _ => ?_)
    · intro y0 y1 y2 y3 y4
      unfold quorumitelaw27_ReportRows.l0
      repeat' first
      | (with_reducible exact ih0 _ _ _)
      | (with_reducible exact ih1 _ _ _ _ _)
      | (with_reducible exact quorumitelaw27_told.mono _)
      | (with_reducible exact report_All.mono _ _)
      | (with_reducible exact report_Counts.mono _ _)
      | (with_reducible exact report_Line.mono _ _ _ _ _ _ _ _ _ _ _)
      | (with_reducible exact LeO.refl _)
      | (with_reducible exact LeO.none _)
      | (with_reducible refine LeO.ite ?_ ?_)
      | (with_reducible refine LeO.bind ?_ (fun _ => ?_))
      | exact ih0 _ _ _
      | exact ih1 _ _ _ _ _
      | exact quorumitelaw27_told.mono _
      | exact report_All.mono _ _
      | exact report_Counts.mono _ _
      | exact report_Line.mono _ _ _ _ _ _ _ _ _ _ _
      | exact LeO.none _
      | refine LeO.ite ?_ ?_
      | refine LeO.bind ?_ (fun _ => ?_)
theorem quorumitelaw27_ReportRows.mono : ∀ a0 a1 k, LeO (quorumitelaw27_ReportRows.f k a0 a1) (quorumitelaw27_ReportRows.f (k + 1) a0 a1) := by
  intro a0 a1 k
  obtain ⟨ih0, ih1⟩ := quorumitelaw27_ReportRows.mono_l k
  unfold quorumitelaw27_ReportRows.f
  repeat' first
      | (with_reducible exact ih0 _ _ _)
      | (with_reducible exact ih1 _ _ _ _ _)
      | (with_reducible exact quorumitelaw27_told.mono _)
      | (with_reducible exact report_All.mono _ _)
      | (with_reducible exact report_Counts.mono _ _)
      | (with_reducible exact report_Line.mono _ _ _ _ _ _ _ _ _ _ _)
      | (with_reducible exact LeO.refl _)
      | (with_reducible exact LeO.none _)
      | (with_reducible refine LeO.ite ?_ ?_)
      | (with_reducible refine LeO.bind ?_ (fun _ => ?_))
      | exact ih0 _ _ _
      | exact ih1 _ _ _ _ _
      | exact quorumitelaw27_told.mono _
      | exact report_All.mono _ _
      | exact report_Counts.mono _ _
      | exact report_Line.mono _ _ _ _ _ _ _ _ _ _ _
      | exact LeO.none _
      | refine LeO.ite ?_ ?_
      | refine LeO.bind ?_ (fun _ => ?_)
set_option maxHeartbeats 8000000 in
set_option maxRecDepth 100000 in
theorem quorumitelaw27_ReportRows.calls (k : Nat) (A0 : Option Addr) (c0 : Nat) (l0 : List (S29)) (A1 : Option Addr) (c1 : Nat) (l1 : List (S29)) (r : Bool) (w : World) (HTB : Aside0 (TabOk w)) (hr0 : Kd.C k29 w A0 l0.length l0) (hc0 : l0.length ≤ c0) (hr1 : Kd.C k29 w A1 l1.length l1) (hc1 : l1.length ≤ c1) (hrt : r = true) (h : quorumitelaw27_ReportRows.f k l0 l1 = some r) :
    Calls Tryd.prog 4 #[.slice A0 l0.length c0, .slice A1 l1.length c1] w fun e w' => e = .returned (.bool r) ∧ Below w.heap.size w w' := by
  have HRT := Aside0.mk hrt
  clear hrt
  have hu29 := Tryd.underlying29
  have HR0 := Aside0.mk hr0
  have HC0 := Aside0.mk hc0
  clear hr0 hc0
  have HR1 := Aside0.mk hr1
  have HC1 := Aside0.mk hc1
  clear hr1 hc1
  have HB := Aside0.mk (Below.refl w.heap.size w)
  have H : (if (l0.length : Int) > 15 then (quorumitelaw27_ReportRows.j0 k l0 l1 true) else (quorumitelaw27_ReportRows.j0 k l0 l1 (decide ((l1.length : Int) > 15)))) = some r := h
  clear h
  have HC3 := Aside0.mk H
  clear H
  go_enter Tryd.func4, Tryd.ntmps4
  go_upto_region 1 with (fail)
  go_cut [24] (fun v24 wc => ∃ (kq : Nat) (x24_2 : Bool), v24 = .bool x24_2 ∧ Aside0 (quorumitelaw27_ReportRows.j0 kq l0 l1 x24_2 = some r) ∧ Aside0 (kq ≤ k) ∧ Aside0 (Below w.heap.size w wc))
  case first =>
    have H := HC3.out
    clear HC3
    by_cases c4 : (l0.length : Int) > 15
    · rw [if_pos c4] at H
      have c4b0 : decide (15 < (l0.length : Int)) = true := decide_eq_true c4
      have c4b1 : decide (15 < l0.length) = true := decide_eq_true (by omega)
      clear c4
      (first | rw [c4b0] | (simp only [i64_w, i32_w]; rw [c4b0]) | skip)
      have H' := Aside0.mk H
      clear H
      go_wp2
      go_meet
      case rel => exact ⟨_, (true), (by first | rfl | (simp; done) | (simp [*]; done)), H', ⟨by first | omega | exact Nat.le_refl _⟩, ⟨by repeat (first | (with_reducible first | exact HB.out | apply below_alloc | apply pw_below_drewN | apply below_drew1) | exact HB.out)⟩⟩
    · rw [if_neg c4] at H
      have c4b0 : decide (15 < (l0.length : Int)) = false := decide_eq_false c4
      have c4b1 : decide (15 < l0.length) = false := decide_eq_false (by omega)
      clear c4
      (first | rw [c4b0] | (simp only [i64_w, i32_w]; rw [c4b0]) | skip)
      have H' := Aside0.mk H
      clear H
      go_wp2
      go_meet
      case rel => exact ⟨_, (decide ((l1.length : Int) > 15)), (by first | rfl | (simp; done) | (simp [*]; done)), H', ⟨by first | omega | exact Nat.le_refl _⟩, ⟨by repeat (first | (with_reducible first | exact HB.out | apply below_alloc | apply pw_below_drewN | apply below_drew1) | exact HB.out)⟩⟩
  case rest =>
    clear HC3
    try clear c1
    try clear p2
    try clear c4
    try clear c4b0
    try clear c4b1
    obtain ⟨kq, x24_2, rfl, HA, HJ2, HB⟩ := hcut
    cases kq with
    | zero => exact absurd HA.out (by simp [quorumitelaw27_ReportRows.j0])
    | succ kj2 =>
      have H := HA.out
      clear HA
      simp only [quorumitelaw27_ReportRows.j0] at H
      by_cases c5 : x24_2 = true
      · subst c5
        have H1 : ((quorumitelaw27_told.f kj2).bind fun t211 => (some t211)) = some r := by rw [if_pos rfl] at H; exact H
        clear H
        have H := H1
        clear H1
        replace H := Option.bind_eq_some_iff.mp H
        obtain ⟨t211, A60, H⟩ := H
        replace H : (some t211) = some r := H
        have A6 := Aside0.mk A60
        clear A60
        obtain rfl := Option.some.inj H
        (try simp only [@List.append_eq Oper, @List.cons_append Oper, @List.nil_append Oper] at *)
        go_wp2_with (first | ((with_reducible refine gate_callee (f := 8) rfl ?_); refine goesL_ (some 25) rfl rfl Tryd.func8 (by kernel_rfl) rfl #[] rfl (by (try simp only [List.map_toArray, List.map_cons, List.map_nil]); first | done | rfl | (simp only [List.length_drop, List.length_take]; rfl)) ?_; (with_reducible refine (quorumitelaw27_told.calls kj2  t211 _ (tab_at HTB (by repeat (first | (with_reducible first | exact HB.out | apply below_alloc | apply pw_below_drewN | apply below_drew1) | exact HB.out))) HRT.out A6.out).mono ?_); rintro e w7 ⟨rfl, hb⟩; refine ⟨_, rfl, ?_⟩; have n0_ := Aside0.mk (below_step (by repeat (first | (with_reducible first | exact HB.out | apply below_alloc | apply pw_below_drewN | apply below_drew1) | exact HB.out)) hb); clear HB; have HB := n0_; clear n0_; (try clear hb); (try clear hb2); (try clear hk); (try clear hi)))
        go_ret
        exact ⟨by first | rfl | (simp [errW_none, errW_some] <;> rfl) | (simp [*, errW_none, errW_some] <;> rfl), by repeat (first | (with_reducible first | exact HB.out | apply below_alloc | apply pw_below_drewN | apply below_drew1) | exact HB.out)⟩
      · replace c5 := Bool.eq_false_iff.mpr c5
        subst c5
        have H1 : ((some (([] : List (S29)) : List (S29))).bind fun y212 => (if y212.length + l0.length < 1759218604441 then ((some (y212 ++ l0 : List (S29))).bind fun y215 => (if y215.length + l1.length < 1759218604441 then (quorumitelaw27_ReportRows.l0 kj2 l0 l1 (y215 ++ l1) (⟨#[]⟩ : ByteArray) 0) else (none))) else (none))) = some r := by rw [if_neg (show ¬ (false = true) by decide)] at H; exact H
        clear H
        have H := H1
        clear H1
        obtain ⟨y212, hy212⟩ : ∃ y_ : List (S29), y_ = (([] : List (S29))) := ⟨_, rfl⟩
        replace H : (if y212.length + l0.length < 1759218604441 then ((some (y212 ++ l0 : List (S29))).bind fun y215 => (if y215.length + l1.length < 1759218604441 then (quorumitelaw27_ReportRows.l0 kj2 l0 l1 (y215 ++ l1) (⟨#[]⟩ : ByteArray) 0) else (none))) else (none)) = some r := by first | (rw [hy212]; with_reducible exact H) | (have H2_ := (Option.bind_some _ _).symm.trans H; rw [hy212]; with_reducible exact H2_) | (have H2_ := (Option.bind_some _ _).symm.trans H; with_reducible exact H2_) | with_reducible exact H | (rw [hy212]; exact H) | exact H
        have Ny212 := Aside0.mk hy212
        clear hy212
        by_cases c8 : y212.length + l0.length < 1759218604441
        · rw [if_pos c8] at H
          have LMc8 := Aside0.mk c8
          clear c8
          obtain ⟨y215, hy215⟩ : ∃ y_ : List (S29), y_ = (y212 ++ l0) := ⟨_, rfl⟩
          replace H : (if y215.length + l1.length < 1759218604441 then (quorumitelaw27_ReportRows.l0 kj2 l0 l1 (y215 ++ l1) (⟨#[]⟩ : ByteArray) 0) else (none)) = some r := by first | (rw [hy215]; with_reducible exact H) | (have H2_ := (Option.bind_some _ _).symm.trans H; rw [hy215]; with_reducible exact H2_) | (have H2_ := (Option.bind_some _ _).symm.trans H; with_reducible exact H2_) | with_reducible exact H | (rw [hy215]; exact H) | exact H
          have Ny215 := Aside0.mk hy215
          clear hy215
          by_cases c9 : y215.length + l1.length < 1759218604441
          · rw [if_pos c9] at H
            have LMc9 := Aside0.mk c9
            clear c9
            obtain ⟨y218, hy218⟩ : ∃ y_ : List (S29), y_ = (y215 ++ l1) := ⟨_, rfl⟩
            replace H : (quorumitelaw27_ReportRows.l0 kj2 l0 l1 y218 (⟨#[]⟩ : ByteArray) 0) = some r := by first | (rw [hy218]; with_reducible exact H) | (have H2_ := (Option.bind_some _ _).symm.trans H; rw [hy218]; with_reducible exact H2_) | (have H2_ := (Option.bind_some _ _).symm.trans H; with_reducible exact H2_) | with_reducible exact H | (rw [hy218]; exact H) | exact H
            have Ny218 := Aside0.mk hy218
            clear hy218
            have H' := Aside0.mk H
            clear H
            (try simp only [@List.append_eq Oper, @List.cons_append Oper, @List.nil_append Oper] at *)
            go_wp2_with (first | ((with_reducible refine gate_dst (N := 26) rfl ?_); (try (refine gate_guard (by rfl) ?_; dsimp only)); refine Kd.R_lit k29 _ 29 ?hg (N := 26) ?hd (xs := ([] : List (S29))) (inner := []) (ok := fun _ => True) (okp := fun _ => True) ?hr ?hp (fun _ hk => hk) trivial (Below.refl _ _) (Nat.le_refl _) (by simp) ?_; (case hd => rfl); (case hg => rfl); (case hr => first | (go_simp; done) | (go_simp; rfl)); (case hp => exact (Reps.none _ _)); intro v213 w10 ho11 hb hg_ hnew_; clear hg_ hnew_; (first | rw [← Ny212.out] at ho11 | (simp only [Int.reduceToNat] at ho11; rw [← Ny212.out] at ho11)); have n0_ := Aside0.mk (Kd.R_lower ho11 (below_size (by repeat (first | (with_reducible first | exact HB.out | apply below_alloc | apply pw_below_drewN | apply below_drew1) | exact HB.out)))); have n1_ := Aside0.mk (below_step (by repeat (first | (with_reducible first | exact HB.out | apply below_alloc | apply pw_below_drewN | apply below_drew1) | exact HB.out)) hb); clear HB; have HO214 := n0_; have HB := n1_; clear n0_ n1_; clear hb ho11) | ((with_reducible refine gate_builtin (b := .append) (xs := #[.tmp 26, .tmp 27]) rfl ?_); (try (refine gate_guard (by rfl) ?_; dsimp only)); at_builtin; refine Kd.R_append_rows k29 (w0 := w) w.heap.size rfl (.tmp 26) (.tmp 27) 32 29 (.agg #[(.int .i64 0), (.int .i64 0), (.int .i64 0), (.int .i64 0), (.int .i64 0), (.bool false), (.int .i64 0), (.int .i64 0), (.int .i64 0), (.int .i64 0)]) 80 rfl Tryd.underlying32 info29 rfl (by decide) (by omega) v213 y212 l0 _ _ _ (fun _ => True) (fun _ => False) rfl rfl ?aO ?aR (fun _ _ h => h) (fun _ h => h.elim) ?aF ?aB ?aS ?aL ?_; (case aR => repeat (first | exact (Kd.C_below HR0.out HB.out) | (with_reducible refine Kd.C_alloc ?_ _) | (with_reducible refine Kd.C_drewN ?_ _) | (with_reducible refine Kd.C_drew ?_))); (case aB => exact (by repeat (first | (with_reducible first | exact HB.out | apply below_alloc | apply pw_below_drewN | apply below_drew1) | exact HB.out))); (case aF => exact (fun _ _ => trivial)); (case aO => exact (by (with_reducible repeat (first | apply Kd.R_alloc | apply Kd.R_drewN | apply Kd.R_drew)); exact HO214.out)); (case aS => exact (below_size (by repeat (first | (with_reducible first | exact HB.out | apply below_alloc | apply pw_below_drewN | apply below_drew1) | exact HB.out)))); (case aL => have := LMc8.out; omega); intro v216 w12 ho hb hg hat; rw [← Ny215.out] at ho; have n0_ := Aside0.mk (hb); have n1_ := Aside0.mk (ho); clear HB; clear HO214; have HB := n0_; have HO217 := n1_; clear n0_ n1_; clear ho hb hg hat) | ((with_reducible refine gate_builtin (b := .append) (xs := #[.tmp 28, .tmp 29]) rfl ?_); (try (refine gate_guard (by rfl) ?_; dsimp only)); at_builtin; refine Kd.R_append_rows k29 (w0 := w) w.heap.size rfl (.tmp 28) (.tmp 29) 32 29 (.agg #[(.int .i64 0), (.int .i64 0), (.int .i64 0), (.int .i64 0), (.int .i64 0), (.bool false), (.int .i64 0), (.int .i64 0), (.int .i64 0), (.int .i64 0)]) 80 rfl Tryd.underlying32 info29 rfl (by decide) (by omega) v216 y215 l1 _ _ _ (fun _ => True) (fun _ => False) rfl rfl ?aO ?aR (fun _ _ h => h) (fun _ h => h.elim) ?aF ?aB ?aS ?aL ?_; (case aR => repeat (first | exact (Kd.C_below HR1.out HB.out) | (with_reducible refine Kd.C_alloc ?_ _) | (with_reducible refine Kd.C_drewN ?_ _) | (with_reducible refine Kd.C_drew ?_))); (case aB => exact (by repeat (first | (with_reducible first | exact HB.out | apply below_alloc | apply pw_below_drewN | apply below_drew1) | exact HB.out))); (case aF => exact (fun _ _ => trivial)); (case aO => exact (by (with_reducible repeat (first | apply Kd.R_alloc | apply Kd.R_drewN | apply Kd.R_drew)); exact HO217.out)); (case aS => exact (below_size (by repeat (first | (with_reducible first | exact HB.out | apply below_alloc | apply pw_below_drewN | apply below_drew1) | exact HB.out)))); (case aL => have := LMc9.out; omega); intro v219 w13 ho hb hg hat; rw [← Ny218.out] at ho; have n0_ := Aside0.mk (hb); have n1_ := Aside0.mk (ho); clear HB; clear HO217; have HB := n0_; have HO220 := n1_; clear n0_ n1_; clear ho hb hg hat))
            go_loopg [6, 7] kj2 (fun kq v6 v7 w' => ∃ (x6_2 : ByteArray) (x7_2 : Int), v6 = .string x6_2 ∧ v7 = .int .i64 x7_2 ∧ Aside0 (quorumitelaw27_ReportRows.l0 kq l0 l1 y218 x6_2 x7_2 = some r) ∧ Aside0 (kq ≤ kj2) ∧ Aside0 (Kd.R k29 29 w' w.heap.size (fun _ => True) v219 y218) ∧ Aside0 (Below w.heap.size w w'))
            case atStart => exact ⟨((⟨#[]⟩ : ByteArray)), (0), (by first | rfl | (simp; done) | (simp [*]; done)), (by first | rfl | (simp; done) | (simp [*]; done)), H', ⟨Nat.le_refl _⟩, ⟨by (with_reducible repeat (first | apply Kd.R_alloc | apply Kd.R_drewN | apply Kd.R_drew)); exact HO220.out⟩, ⟨by repeat (first | (with_reducible first | exact HB.out | apply below_alloc | apply pw_below_drewN | apply below_drew1) | exact HB.out)⟩⟩
            case round =>
              clear H'
              try clear c1
              try clear p2
              try clear c4
              try clear c4b0
              try clear c4b1
              try clear c5
              try clear c8
              try clear c9
              try clear p2
              obtain ⟨x6_2, x7_2, rfl, rfl, HA, HK2, HO_5, HB⟩ := hrel
              cases gk with
              | zero => exact absurd HA.out (by simp [quorumitelaw27_ReportRows.l0])
              | succ k2 =>
                have H := HA.out
                clear HA
                simp only [quorumitelaw27_ReportRows.l0] at H
                by_cases c14 : x7_2 < (y218.length : Int)
                · rw [if_pos c14] at H
                  have c14b0 : decide (x7_2 < (y218.length : Int)) = true := decide_eq_true c14
                  clear c14
                  by_cases c15 : 0 ≤ x7_2
                  · rw [if_pos c15] at H
                    have c15b0 : decide (0 ≤ x7_2) = true := decide_eq_true c15
                    clear c15
                    replace H := Option.bind_eq_some_iff.mp H
                    obtain ⟨t222, A160, H⟩ := H
                    replace H : (if x6_2.size + t222.size ≤ 9223372036854775807 then (if (x6_2 ++ t222).size + 1 ≤ 9223372036854775807 then (quorumitelaw27_ReportRows.l0 k2 l0 l1 y218 ((x6_2 ++ t222) ++ (⟨#[10]⟩ : ByteArray)) (wrap64 (x7_2 + 1))) else (none)) else (none)) = some r := H
                    have A16 := Aside0.mk A160
                    clear A160
                    by_cases c17 : x6_2.size + t222.size ≤ 9223372036854775807
                    · rw [if_pos c17] at H
                      have c17b0 := eq_true c17
                      have c17b1 : decide (x6_2.size + t222.size ≤ 9223372036854775807) = true := decide_eq_true c17
                      try have c17b2 : (9223372036854775807 < x6_2.size + t222.size) = False := eq_false (Nat.not_lt.2 c17)
                      by_cases c18 : (x6_2 ++ t222).size + 1 ≤ 9223372036854775807
                      · rw [if_pos c18] at H
                        have c18b0 := eq_true c18
                        have c18b1 : decide ((x6_2 ++ t222).size + 1 ≤ 9223372036854775807) = true := decide_eq_true c18
                        try have c18b2 : (9223372036854775807 < (x6_2 ++ t222).size + 1) = False := eq_false (Nat.not_lt.2 c18)
                        (try have c18b8 : (9223372036854775807 < x6_2.size + t222.size + 1) = False := eq_false (Nat.not_lt.2 (by have h_ := of_decide_eq_true c18b1; simp only [ByteArray.size_append] at h_; exact h_)))
                        have H' := Aside0.mk H
                        clear H
                        obtain ⟨Ao19, co19, eo19⟩ := Kd.R_slice HO_5.out
                        subst eo19
                        have p221 : 0 ≤ (x7_2 : Int) := of_decide_eq_true (by first | (with_reducible assumption) | assumption)
                        have q221 : x7_2 < (y218.length : Int) := of_decide_eq_true (by first | (with_reducible assumption) | assumption)
                        obtain ⟨ad221, e221, hx221_0, hx221_1, hx221_2, hx221_3, hx221_4, hx221_5, hx221_6, hx221_7, hx221_8, hx221_9⟩ := at_T29 (Kd.R_reads' HO_5.out).2.2 x7_2 p221 q221
                        cases e221
                        replace p221 := eq_true p221
                        replace q221 := eq_true q221
                        (try simp only [@List.append_eq Oper, @List.cons_append Oper, @List.nil_append Oper] at *)
                        go_wp2_with (first | ((with_reducible refine gate_callee (f := 7) rfl ?_); refine goesL_ (some 42) rfl rfl Tryd.func7 (by kernel_rfl) rfl #[.agg #[.int .i64 ((rd_T29 y218 x7_2).f0), .int .i64 ((rd_T29 y218 x7_2).f1), .int .i64 ((rd_T29 y218 x7_2).f2.f0), .int .i64 ((rd_T29 y218 x7_2).f2.f1), .int .i64 ((rd_T29 y218 x7_2).f2.f2), .bool ((rd_T29 y218 x7_2).f2.f3), .int .i64 ((rd_T29 y218 x7_2).f2.f4.f0), .int .i64 ((rd_T29 y218 x7_2).f2.f4.f1), .int .i64 ((rd_T29 y218 x7_2).f2.f4.f2), .int .i64 ((rd_T29 y218 x7_2).f2.f4.f3)]] rfl (by (try simp only [List.map_toArray, List.map_cons, List.map_nil]); first | done | rfl | (simp only [List.length_drop, List.length_take]; rfl)) ?_; (with_reducible refine (report_Line.calls k2 ((rd_T29 y218 x7_2).f0) ((rd_T29 y218 x7_2).f1) ((rd_T29 y218 x7_2).f2.f0) ((rd_T29 y218 x7_2).f2.f1) ((rd_T29 y218 x7_2).f2.f2) ((rd_T29 y218 x7_2).f2.f3) ((rd_T29 y218 x7_2).f2.f4.f0) ((rd_T29 y218 x7_2).f2.f4.f1) ((rd_T29 y218 x7_2).f2.f4.f2) ((rd_T29 y218 x7_2).f2.f4.f3) t222 _ (tab_at HTB (by repeat (first | (with_reducible first | exact HB.out | apply below_alloc | apply pw_below_drewN | apply below_drew1) | exact HB.out))) A16.out).mono ?_); rintro e w20 ⟨rfl, hb⟩; refine ⟨_, rfl, ?_⟩; have n0_ := Aside0.mk (Kd.R_below (by (with_reducible repeat (first | apply Kd.R_alloc | apply Kd.R_drewN | apply Kd.R_drew)); exact HO_5.out) hb); have n1_ := Aside0.mk (below_step (by repeat (first | (with_reducible first | exact HB.out | apply below_alloc | apply pw_below_drewN | apply below_drew1) | exact HB.out)) hb); clear HO_5; clear HB; have HO_5 := n0_; have HB := n1_; clear n0_ n1_; (try clear hb); (try clear hb2); (try clear hk); (try clear hi)))
                        go_roundg k2
                        case measure => have := HJ2.out; have := HK2.out; omega
                        case rel => exact ⟨((x6_2 ++ t222) ++ (⟨#[10]⟩ : ByteArray)), (wrap64 (x7_2 + 1)), (by first | rfl | (simp; done) | (simp [*]; done)), (by first | rfl | (simp; done) | (simp [*]; done)), H', ⟨by have := HJ2.out; have := HK2.out; omega⟩, ⟨by (with_reducible repeat (first | apply Kd.R_alloc | apply Kd.R_drewN | apply Kd.R_drew)); exact HO_5.out⟩, ⟨by repeat (first | (with_reducible first | exact HB.out | apply below_alloc | apply pw_below_drewN | apply below_drew1) | exact HB.out)⟩⟩
                      · rw [if_neg c18] at H
                        exact absurd H (by simp)
                    · rw [if_neg c17] at H
                      exact absurd H (by simp)
                  · rw [if_neg c15] at H
                    exact absurd H (by simp)
                · rw [if_neg c14] at H
                  have c14b0 : decide (x7_2 < (y218.length : Int)) = false := decide_eq_false c14
                  clear c14
                  replace H := Option.bind_eq_some_iff.mp H
                  obtain ⟨⟨t223, t224, t225⟩, A210, H⟩ := H
                  replace H : ((report_Counts.f k2 l1).bind fun bt226 => ((report_Counts.f k2 y218).bind fun bt229 => ((quorumitelaw27_told.f k2).bind fun t232 => (if t232 = true then ((report_All.f k2 y218).bind fun t233 => (if t233.toList = x6_2.toList then ((report_All.f k2 y218).bind fun t234 => ((report_All.f k2 l0).bind fun t235 => ((report_All.f k2 l1).bind fun t236 => (if t235.size + t236.size ≤ 9223372036854775807 then (if t234.toList = (t235 ++ t236).toList then (if bt229.1 = (wrap64 (t223 + bt226.1)) then (if bt229.2.1 = (wrap64 (t224 + bt226.2.1)) then (some (bt229.2.2 == (wrap64 (t225 + bt226.2.2)))) else (some false)) else (some false)) else (some false)) else (none))))) else (some false))) else (some false))))) = some r := H
                  have A21 := Aside0.mk A210
                  clear A210
                  replace H := Option.bind_eq_some_iff.mp H
                  obtain ⟨⟨t226, t227, t228⟩, A220, H⟩ := H
                  replace H : ((report_Counts.f k2 y218).bind fun bt229 => ((quorumitelaw27_told.f k2).bind fun t232 => (if t232 = true then ((report_All.f k2 y218).bind fun t233 => (if t233.toList = x6_2.toList then ((report_All.f k2 y218).bind fun t234 => ((report_All.f k2 l0).bind fun t235 => ((report_All.f k2 l1).bind fun t236 => (if t235.size + t236.size ≤ 9223372036854775807 then (if t234.toList = (t235 ++ t236).toList then (if bt229.1 = (wrap64 (t223 + t226)) then (if bt229.2.1 = (wrap64 (t224 + t227)) then (some (bt229.2.2 == (wrap64 (t225 + t228)))) else (some false)) else (some false)) else (some false)) else (none))))) else (some false))) else (some false)))) = some r := H
                  have A22 := Aside0.mk A220
                  clear A220
                  replace H := Option.bind_eq_some_iff.mp H
                  obtain ⟨⟨t229, t230, t231⟩, A230, H⟩ := H
                  replace H : ((quorumitelaw27_told.f k2).bind fun t232 => (if t232 = true then ((report_All.f k2 y218).bind fun t233 => (if t233.toList = x6_2.toList then ((report_All.f k2 y218).bind fun t234 => ((report_All.f k2 l0).bind fun t235 => ((report_All.f k2 l1).bind fun t236 => (if t235.size + t236.size ≤ 9223372036854775807 then (if t234.toList = (t235 ++ t236).toList then (if t229 = (wrap64 (t223 + t226)) then (if t230 = (wrap64 (t224 + t227)) then (some (t231 == (wrap64 (t225 + t228)))) else (some false)) else (some false)) else (some false)) else (none))))) else (some false))) else (some false))) = some r := H
                  have A23 := Aside0.mk A230
                  clear A230
                  replace H := Option.bind_eq_some_iff.mp H
                  obtain ⟨t232, A240, H⟩ := H
                  replace H : (if t232 = true then ((report_All.f k2 y218).bind fun t233 => (if t233.toList = x6_2.toList then ((report_All.f k2 y218).bind fun t234 => ((report_All.f k2 l0).bind fun t235 => ((report_All.f k2 l1).bind fun t236 => (if t235.size + t236.size ≤ 9223372036854775807 then (if t234.toList = (t235 ++ t236).toList then (if t229 = (wrap64 (t223 + t226)) then (if t230 = (wrap64 (t224 + t227)) then (some (t231 == (wrap64 (t225 + t228)))) else (some false)) else (some false)) else (some false)) else (none))))) else (some false))) else (some false)) = some r := H
                  have A24 := Aside0.mk A240
                  clear A240
                  by_cases c25 : t232 = true
                  · subst c25
                    have H1 : ((report_All.f k2 y218).bind fun t233 => (if t233.toList = x6_2.toList then ((report_All.f k2 y218).bind fun t234 => ((report_All.f k2 l0).bind fun t235 => ((report_All.f k2 l1).bind fun t236 => (if t235.size + t236.size ≤ 9223372036854775807 then (if t234.toList = (t235 ++ t236).toList then (if t229 = (wrap64 (t223 + t226)) then (if t230 = (wrap64 (t224 + t227)) then (some (t231 == (wrap64 (t225 + t228)))) else (some false)) else (some false)) else (some false)) else (none))))) else (some false))) = some r := by rw [if_pos rfl] at H; exact H
                    clear H
                    have H := H1
                    clear H1
                    replace H := Option.bind_eq_some_iff.mp H
                    obtain ⟨t233, A260, H⟩ := H
                    replace H : (if t233.toList = x6_2.toList then ((report_All.f k2 y218).bind fun t234 => ((report_All.f k2 l0).bind fun t235 => ((report_All.f k2 l1).bind fun t236 => (if t235.size + t236.size ≤ 9223372036854775807 then (if t234.toList = (t235 ++ t236).toList then (if t229 = (wrap64 (t223 + t226)) then (if t230 = (wrap64 (t224 + t227)) then (some (t231 == (wrap64 (t225 + t228)))) else (some false)) else (some false)) else (some false)) else (none))))) else (some false)) = some r := H
                    have A26 := Aside0.mk A260
                    clear A260
                    by_cases c27 : t233.toList = x6_2.toList
                    · rw [if_pos c27] at H
                      have c27b0 : (t233.toList == x6_2.toList) = true := beq_iff_eq.mpr c27
                      have c27b1 : (t233.toList != x6_2.toList) = false := bne_eq_false_iff_eq.mpr c27
                      clear c27
                      replace H := Option.bind_eq_some_iff.mp H
                      obtain ⟨t234, A280, H⟩ := H
                      replace H : ((report_All.f k2 l0).bind fun t235 => ((report_All.f k2 l1).bind fun t236 => (if t235.size + t236.size ≤ 9223372036854775807 then (if t234.toList = (t235 ++ t236).toList then (if t229 = (wrap64 (t223 + t226)) then (if t230 = (wrap64 (t224 + t227)) then (some (t231 == (wrap64 (t225 + t228)))) else (some false)) else (some false)) else (some false)) else (none)))) = some r := H
                      have A28 := Aside0.mk A280
                      clear A280
                      replace H := Option.bind_eq_some_iff.mp H
                      obtain ⟨t235, A290, H⟩ := H
                      replace H : ((report_All.f k2 l1).bind fun t236 => (if t235.size + t236.size ≤ 9223372036854775807 then (if t234.toList = (t235 ++ t236).toList then (if t229 = (wrap64 (t223 + t226)) then (if t230 = (wrap64 (t224 + t227)) then (some (t231 == (wrap64 (t225 + t228)))) else (some false)) else (some false)) else (some false)) else (none))) = some r := H
                      have A29 := Aside0.mk A290
                      clear A290
                      replace H := Option.bind_eq_some_iff.mp H
                      obtain ⟨t236, A300, H⟩ := H
                      replace H : (if t235.size + t236.size ≤ 9223372036854775807 then (if t234.toList = (t235 ++ t236).toList then (if t229 = (wrap64 (t223 + t226)) then (if t230 = (wrap64 (t224 + t227)) then (some (t231 == (wrap64 (t225 + t228)))) else (some false)) else (some false)) else (some false)) else (none)) = some r := H
                      have A30 := Aside0.mk A300
                      clear A300
                      by_cases c31 : t235.size + t236.size ≤ 9223372036854775807
                      · rw [if_pos c31] at H
                        have c31b0 := eq_true c31
                        have c31b1 : decide (t235.size + t236.size ≤ 9223372036854775807) = true := decide_eq_true c31
                        try have c31b2 : (9223372036854775807 < t235.size + t236.size) = False := eq_false (Nat.not_lt.2 c31)
                        by_cases c32 : t234.toList = (t235 ++ t236).toList
                        · rw [if_pos c32] at H
                          have c32b0 : (t234.toList == (t235 ++ t236).toList) = true := beq_iff_eq.mpr c32
                          have c32b1 : (t234.toList != (t235 ++ t236).toList) = false := bne_eq_false_iff_eq.mpr c32
                          clear c32
                          by_cases c33 : t229 = (wrap64 (t223 + t226))
                          · rw [if_pos c33] at H
                            have c33b0 : (t229 == (wrap64 (t223 + t226))) = true := beq_iff_eq.mpr c33
                            have c33b1 : (t229 != (wrap64 (t223 + t226))) = false := bne_eq_false_iff_eq.mpr c33
                            clear c33
                            by_cases c34 : t230 = (wrap64 (t224 + t227))
                            · rw [if_pos c34] at H
                              have c34b0 : (t230 == (wrap64 (t224 + t227))) = true := beq_iff_eq.mpr c34
                              have c34b1 : (t230 != (wrap64 (t224 + t227))) = false := bne_eq_false_iff_eq.mpr c34
                              clear c34
                              obtain rfl := Option.some.inj H
                              have e34 : t233 = t234 := Option.some.inj (A26.out.symm.trans A28.out)
                              subst e34
                              obtain ⟨Ao35, co35, eo35⟩ := Kd.R_slice HO_5.out
                              subst eo35
                              (try simp only [@List.append_eq Oper, @List.cons_append Oper, @List.nil_append Oper] at *)
                              go_wp2_with (first | ((with_reducible refine gate_callee (f := 9) rfl ?_); refine goesL_ (some 47) rfl rfl Tryd.func9 (by kernel_rfl) rfl #[.slice A0 l0.length c0] rfl (by (try simp only [List.map_toArray, List.map_cons, List.map_nil]); first | done | rfl | (simp only [List.length_drop, List.length_take]; rfl)) ?_; (with_reducible refine (report_Counts.calls k2 _ _ l0 t223 t224 t225 _ ?side1 ?side2 A21.out).mono ?_); (case side1 => repeat (first | exact (Kd.C_below HR0.out HB.out) | (with_reducible refine Kd.C_alloc ?_ _) | (with_reducible refine Kd.C_drewN ?_ _) | (with_reducible refine Kd.C_drew ?_))); (case side2 => exact HC0.out); rintro e w36 ⟨rfl, hb⟩; refine ⟨_, rfl, ?_⟩; have n0_ := Aside0.mk (Kd.R_below (by (with_reducible repeat (first | apply Kd.R_alloc | apply Kd.R_drewN | apply Kd.R_drew)); exact HO_5.out) hb); have n1_ := Aside0.mk (below_step (by repeat (first | (with_reducible first | exact HB.out | apply below_alloc | apply pw_below_drewN | apply below_drew1) | exact HB.out)) hb); clear HO_5; clear HB; have HO_5 := n0_; have HB := n1_; clear n0_ n1_; (try clear hb); (try clear hb2); (try clear hk); (try clear hi)) | ((with_reducible refine gate_callee (f := 9) rfl ?_); refine goesL_ (some 53) rfl rfl Tryd.func9 (by kernel_rfl) rfl #[.slice A1 l1.length c1] rfl (by (try simp only [List.map_toArray, List.map_cons, List.map_nil]); first | done | rfl | (simp only [List.length_drop, List.length_take]; rfl)) ?_; (with_reducible refine (report_Counts.calls k2 _ _ l1 t226 t227 t228 _ ?side1 ?side2 A22.out).mono ?_); (case side1 => repeat (first | exact (Kd.C_below HR1.out HB.out) | (with_reducible refine Kd.C_alloc ?_ _) | (with_reducible refine Kd.C_drewN ?_ _) | (with_reducible refine Kd.C_drew ?_))); (case side2 => exact HC1.out); rintro e w37 ⟨rfl, hb⟩; refine ⟨_, rfl, ?_⟩; have n0_ := Aside0.mk (Kd.R_below (by (with_reducible repeat (first | apply Kd.R_alloc | apply Kd.R_drewN | apply Kd.R_drew)); exact HO_5.out) hb); have n1_ := Aside0.mk (below_step (by repeat (first | (with_reducible first | exact HB.out | apply below_alloc | apply pw_below_drewN | apply below_drew1) | exact HB.out)) hb); clear HO_5; clear HB; have HO_5 := n0_; have HB := n1_; clear n0_ n1_; (try clear hb); (try clear hb2); (try clear hk); (try clear hi)) | ((with_reducible refine gate_callee (f := 9) rfl ?_); refine goesL_ (some 59) rfl rfl Tryd.func9 (by kernel_rfl) rfl #[.slice Ao35 y218.length co35] rfl (by (try simp only [List.map_toArray, List.map_cons, List.map_nil]); first | done | rfl | (simp only [List.length_drop, List.length_take]; rfl)) ?_; (with_reducible refine (report_Counts.calls k2 _ _ y218 t229 t230 t231 _ ?side1 ?side2 A23.out).mono ?_); (case side1 => repeat (first | exact (Kd.R_reads' HO_5.out).2.2 | (with_reducible refine Kd.C_alloc ?_ _) | (with_reducible refine Kd.C_drewN ?_ _) | (with_reducible refine Kd.C_drew ?_))); (case side2 => exact (Kd.R_reads' HO_5.out).2.1); rintro e w38 ⟨rfl, hb⟩; refine ⟨_, rfl, ?_⟩; have n0_ := Aside0.mk (Kd.R_below (by (with_reducible repeat (first | apply Kd.R_alloc | apply Kd.R_drewN | apply Kd.R_drew)); exact HO_5.out) hb); have n1_ := Aside0.mk (below_step (by repeat (first | (with_reducible first | exact HB.out | apply below_alloc | apply pw_below_drewN | apply below_drew1) | exact HB.out)) hb); clear HO_5; clear HB; have HO_5 := n0_; have HB := n1_; clear n0_ n1_; (try clear hb); (try clear hb2); (try clear hk); (try clear hi)) | ((with_reducible refine gate_callee (f := 8) rfl ?_); refine goesL_ (some 63) rfl rfl Tryd.func8 (by kernel_rfl) rfl #[] rfl (by (try simp only [List.map_toArray, List.map_cons, List.map_nil]); first | done | rfl | (simp only [List.length_drop, List.length_take]; rfl)) ?_; (with_reducible refine (quorumitelaw27_told.calls k2  true _ (tab_at HTB (by repeat (first | (with_reducible first | exact HB.out | apply below_alloc | apply pw_below_drewN | apply below_drew1) | exact HB.out))) rfl A24.out).mono ?_); rintro e w39 ⟨rfl, hb⟩; refine ⟨_, rfl, ?_⟩; have n0_ := Aside0.mk (Kd.R_below (by (with_reducible repeat (first | apply Kd.R_alloc | apply Kd.R_drewN | apply Kd.R_drew)); exact HO_5.out) hb); have n1_ := Aside0.mk (below_step (by repeat (first | (with_reducible first | exact HB.out | apply below_alloc | apply pw_below_drewN | apply below_drew1) | exact HB.out)) hb); clear HO_5; clear HB; have HO_5 := n0_; have HB := n1_; clear n0_ n1_; (try clear hb); (try clear hb2); (try clear hk); (try clear hi)) | (go_at_call 10; (with_reducible refine (report_All.calls k2 _ _ y218 t233 _ (tab_at HTB (by repeat (first | (with_reducible first | exact HB.out | apply below_alloc | apply pw_below_drewN | apply below_drew1) | exact HB.out))) ?side1 ?side2 A26.out).mono ?_); (case side1 => repeat (first | exact (Kd.R_reads' HO_5.out).2.2 | (with_reducible refine Kd.C_alloc ?_ _) | (with_reducible refine Kd.C_drewN ?_ _) | (with_reducible refine Kd.C_drew ?_))); (case side2 => exact (Kd.R_reads' HO_5.out).2.1); rintro e w40 ⟨rfl, hb⟩; have n0_ := Aside0.mk (Kd.R_below (by (with_reducible repeat (first | apply Kd.R_alloc | apply Kd.R_drewN | apply Kd.R_drew)); exact HO_5.out) hb); have n1_ := Aside0.mk (below_step (by repeat (first | (with_reducible first | exact HB.out | apply below_alloc | apply pw_below_drewN | apply below_drew1) | exact HB.out)) hb); clear HO_5; clear HB; have HO_5 := n0_; have HB := n1_; clear n0_ n1_; (try clear hb); (try clear hb2); (try clear hk); (try clear hi)) | (go_at_call 10; (with_reducible refine (report_All.calls k2 _ _ y218 t233 _ (tab_at HTB (by repeat (first | (with_reducible first | exact HB.out | apply below_alloc | apply pw_below_drewN | apply below_drew1) | exact HB.out))) ?side1 ?side2 A28.out).mono ?_); (case side1 => repeat (first | exact (Kd.R_reads' HO_5.out).2.2 | (with_reducible refine Kd.C_alloc ?_ _) | (with_reducible refine Kd.C_drewN ?_ _) | (with_reducible refine Kd.C_drew ?_))); (case side2 => exact (Kd.R_reads' HO_5.out).2.1); rintro e w41 ⟨rfl, hb⟩; have n0_ := Aside0.mk (Kd.R_below (by (with_reducible repeat (first | apply Kd.R_alloc | apply Kd.R_drewN | apply Kd.R_drew)); exact HO_5.out) hb); have n1_ := Aside0.mk (below_step (by repeat (first | (with_reducible first | exact HB.out | apply below_alloc | apply pw_below_drewN | apply below_drew1) | exact HB.out)) hb); clear HO_5; clear HB; have HO_5 := n0_; have HB := n1_; clear n0_ n1_; (try clear hb); (try clear hb2); (try clear hk); (try clear hi)) | (go_at_call 10; (with_reducible refine (report_All.calls k2 _ _ l0 t235 _ (tab_at HTB (by repeat (first | (with_reducible first | exact HB.out | apply below_alloc | apply pw_below_drewN | apply below_drew1) | exact HB.out))) ?side1 ?side2 A29.out).mono ?_); (case side1 => repeat (first | exact (Kd.C_below HR0.out HB.out) | (with_reducible refine Kd.C_alloc ?_ _) | (with_reducible refine Kd.C_drewN ?_ _) | (with_reducible refine Kd.C_drew ?_))); (case side2 => exact HC0.out); rintro e w42 ⟨rfl, hb⟩; have n0_ := Aside0.mk (Kd.R_below (by (with_reducible repeat (first | apply Kd.R_alloc | apply Kd.R_drewN | apply Kd.R_drew)); exact HO_5.out) hb); have n1_ := Aside0.mk (below_step (by repeat (first | (with_reducible first | exact HB.out | apply below_alloc | apply pw_below_drewN | apply below_drew1) | exact HB.out)) hb); clear HO_5; clear HB; have HO_5 := n0_; have HB := n1_; clear n0_ n1_; (try clear hb); (try clear hb2); (try clear hk); (try clear hi)) | (go_at_call 10; (with_reducible refine (report_All.calls k2 _ _ l1 t236 _ (tab_at HTB (by repeat (first | (with_reducible first | exact HB.out | apply below_alloc | apply pw_below_drewN | apply below_drew1) | exact HB.out))) ?side1 ?side2 A30.out).mono ?_); (case side1 => repeat (first | exact (Kd.C_below HR1.out HB.out) | (with_reducible refine Kd.C_alloc ?_ _) | (with_reducible refine Kd.C_drewN ?_ _) | (with_reducible refine Kd.C_drew ?_))); (case side2 => exact HC1.out); rintro e w43 ⟨rfl, hb⟩; have n0_ := Aside0.mk (Kd.R_below (by (with_reducible repeat (first | apply Kd.R_alloc | apply Kd.R_drewN | apply Kd.R_drew)); exact HO_5.out) hb); have n1_ := Aside0.mk (below_step (by repeat (first | (with_reducible first | exact HB.out | apply below_alloc | apply pw_below_drewN | apply below_drew1) | exact HB.out)) hb); clear HO_5; clear HB; have HO_5 := n0_; have HB := n1_; clear n0_ n1_; (try clear hb); (try clear hb2); (try clear hk); (try clear hi)))
                              go_ret
                              exact ⟨by first | rfl | (simp [errW_none, errW_some] <;> rfl) | (simp [*, errW_none, errW_some] <;> rfl), by repeat (first | (with_reducible first | exact HB.out | apply below_alloc | apply pw_below_drewN | apply below_drew1) | exact HB.out)⟩
                            · rw [if_neg c34] at H
                              have c34b0 : (t230 == (wrap64 (t224 + t227))) = false := beq_eq_false_iff_ne.mpr c34
                              have c34b1 : (t230 != (wrap64 (t224 + t227))) = true := bne_iff_ne.mpr c34
                              exact absurd ((Option.some.inj H).trans HRT.out) (by decide)
                          · rw [if_neg c33] at H
                            have c33b0 : (t229 == (wrap64 (t223 + t226))) = false := beq_eq_false_iff_ne.mpr c33
                            have c33b1 : (t229 != (wrap64 (t223 + t226))) = true := bne_iff_ne.mpr c33
                            exact absurd ((Option.some.inj H).trans HRT.out) (by decide)
                        · rw [if_neg c32] at H
                          have c32b0 : (t234.toList == (t235 ++ t236).toList) = false := beq_eq_false_iff_ne.mpr c32
                          have c32b1 : (t234.toList != (t235 ++ t236).toList) = true := bne_iff_ne.mpr c32
                          exact absurd ((Option.some.inj H).trans HRT.out) (by decide)
                      · rw [if_neg c31] at H
                        exact absurd H (by simp)
                    · rw [if_neg c27] at H
                      have c27b0 : (t233.toList == x6_2.toList) = false := beq_eq_false_iff_ne.mpr c27
                      have c27b1 : (t233.toList != x6_2.toList) = true := bne_iff_ne.mpr c27
                      exact absurd ((Option.some.inj H).trans HRT.out) (by decide)
                  · replace c25 := Bool.eq_false_iff.mpr c25
                    subst c25
                    have H1 : (some false) = some r := by rw [if_neg (show ¬ (false = true) by decide)] at H; exact H
                    clear H
                    have H := H1
                    clear H1
                    exact absurd ((Option.some.inj H).trans HRT.out) (by decide)
          · rw [if_neg c9] at H
            exact absurd H (by simp)
        · rw [if_neg c8] at H
          exact absurd H (by simp)

end Go.Proofs.YtjcjibghnpjegaaDoor.Pd
