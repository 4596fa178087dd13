-- Made by a program of this session (wip: patch_print.py, patch_arr.py, prD.sh) out of the kit's print: functions over lists and the proof that the Go code comes to them.
import Derived.Test.YtjcjibghnpjegaaDoorPd0
namespace Go.Proofs.YtjcjibghnpjegaaDoor.Pd
open Go.RowKit Go.Proofs.YtjcjibghnpjegaaDoorW.PrintWords Go.Proofs.YtjcjibghnpjegaaDoorW.PrintLast Go.Proofs.YtjcjibghnpjegaaDoorW.PrintMore
attribute [local go_sem] max2_int min2_int max_two min_two max_three min_three max_four min_four   -- for this text's walks alone
set_option linter.unusedVariables false
set_option linter.unusedSimpArgs false

/-! ### report_Counts: function 9 -/
mutual
def report_Counts.l0 : Nat → Int → Int → Int → List (S29) → Int → Int → Option (Int × Int × Int)
  | 0, _, _, _, _, _, _ => none
  | k + 1, x5, x6, x7, x10, x11, x12 => if x12 < x11 then (if 0 ≤ x12 then (if x12 < (x10.length : Int) then (if ((rd_T29 x10 x12).f0) = 2 then (report_Counts.j1 k x5 x6 x7 x10 x11 x12 (((rd_T29 x10 x12).f1) != 0) ((rd_T29 x10 x12).f0) ((rd_T29 x10 x12).f1) ((rd_T29 x10 x12).f2.f0) ((rd_T29 x10 x12).f2.f1) ((rd_T29 x10 x12).f2.f2) ((rd_T29 x10 x12).f2.f3) ((rd_T29 x10 x12).f2.f4.f0) ((rd_T29 x10 x12).f2.f4.f1) ((rd_T29 x10 x12).f2.f4.f2) ((rd_T29 x10 x12).f2.f4.f3)) else (report_Counts.j1 k x5 x6 x7 x10 x11 x12 false ((rd_T29 x10 x12).f0) ((rd_T29 x10 x12).f1) ((rd_T29 x10 x12).f2.f0) ((rd_T29 x10 x12).f2.f1) ((rd_T29 x10 x12).f2.f2) ((rd_T29 x10 x12).f2.f3) ((rd_T29 x10 x12).f2.f4.f0) ((rd_T29 x10 x12).f2.f4.f1) ((rd_T29 x10 x12).f2.f4.f2) ((rd_T29 x10 x12).f2.f4.f3))) else (none)) else (none)) else (some (x5, x6, x7))
def report_Counts.j1 : Nat → Int → Int → Int → List (S29) → Int → Int → Bool → Int → Int → Int → Int → Int → Bool → Int → Int → Int → Int → Option (Int × Int × Int)
  | 0, _, _, _, _, _, _, _, _, _, _, _, _, _, _, _, _, _ => none
  | k + 1, x5, x6, x7, x10, x11, x12, x18, x146000, x146001, x146002, x146003, x146004, x146005, x146006, x146007, x146008, x146009 => if x18 = true then (report_Counts.l0 k x5 x6 (wrap64 (x7 + 1)) x10 x11 (wrap64 (x12 + 1))) else (if x146000 = 6 then (report_Counts.j2 k x5 x6 x7 x10 x11 x12 (x146001 != 0) x146000 x146001 x146002 x146003 x146004 x146005 x146006 x146007 x146008 x146009) else (report_Counts.j2 k x5 x6 x7 x10 x11 x12 true x146000 x146001 x146002 x146003 x146004 x146005 x146006 x146007 x146008 x146009))
def report_Counts.j2 : Nat → Int → Int → Int → List (S29) → Int → Int → Bool → Int → Int → Int → Int → Int → Bool → Int → Int → Int → Int → Option (Int × Int × Int)
  | 0, _, _, _, _, _, _, _, _, _, _, _, _, _, _, _, _, _ => none
  | k + 1, x5, x6, x7, x10, x11, x12, x29, x146000, x146001, x146002, x146003, x146004, x146005, x146006, x146007, x146008, x146009 => if x29 = true then (report_Counts.l0 k x5 x6 x7 x10 x11 (wrap64 (x12 + 1))) else (if x146005 = true then (report_Counts.l0 k x5 (wrap64 (x6 + 1)) x7 x10 x11 (wrap64 (x12 + 1))) else (report_Counts.l0 k (wrap64 (x5 + 1)) x6 x7 x10 x11 (wrap64 (x12 + 1))))
end
def report_Counts.f (k : Nat) (l0 : List (S29)) : Option (Int × Int × Int) := report_Counts.l0 k 0 0 0 l0 (l0.length : Int) 0
theorem report_Counts.mono_l : ∀ k, (∀ y0 y1 y2 y3 y4 y5, LeO (report_Counts.l0 k y0 y1 y2 y3 y4 y5) (report_Counts.l0 (k + 1) y0 y1 y2 y3 y4 y5)) ∧ (∀ y0 y1 y2 y3 y4 y5 y6 y7 y8 y9 y10 y11 y12 y13 y14 y15 y16, LeO (report_Counts.j1 k y0 y1 y2 y3 y4 y5 y6 y7 y8 y9 y10 y11 y12 y13 y14 y15 y16) (report_Counts.j1 (k + 1) y0 y1 y2 y3 y4 y5 y6 y7 y8 y9 y10 y11 y12 y13 y14 y15 y16)) ∧ (∀ y0 y1 y2 y3 y4 y5 y6 y7 y8 y9 y10 y11 y12 y13 y14 y15 y16, LeO (report_Counts.j2 k y0 y1 y2 y3 y4 y5 y6 y7 y8 y9 y10 y11 y12 y13 y14 y15 y16) (report_Counts.j2 (k + 1) y0 y1 y2 y3 y4 y5 y6 y7 y8 y9 y10 y11 y12 y13 y14 y15 y16))
  | 0 => ⟨fun _ _ _ _ _ _ r h => by simp [report_Counts.l0] at h, fun _ _ _ _ _ _ _ _ _ _ _ _ _ _ _ _ _ r h => by simp [report_Counts.j1] at h, fun _ _ _ _ _ _ _ _ _ _ _ _ _ _ _ _ _ r h => by simp [report_Counts.j2] at h⟩
  | k + 1 => by
    obtain ⟨ih0, ih1, ih2⟩ := report_Counts.mono_l k
    refine ⟨?_, ?_, ?_⟩
    · intro y0 y1 y2 y3 y4 y5
      unfold report_Counts.l0
      repeat' first
      | (with_reducible exact ih0 _ _ _ _ _ _)
      | (with_reducible exact ih1 _ _ _ _ _ _ _ _ _ _ _ _ _ _ _ _ _)
      | (with_reducible exact ih2 _ _ _ _ _ _ _ _ _ _ _ _ _ _ _ _ _)
      | (with_reducible exact LeO.refl _)
      | (with_reducible exact LeO.none _)
      | (with_reducible refine LeO.ite ?_ ?_)
      | (with_reducible refine LeO.bind ?_ (fun _ => ?_))
      | exact ih0 _ _ _ _ _ _
      | exact ih1 _ _ _ _ _ _ _ _ _ _ _ _ _ _ _ _ _
      | exact ih2 _ _ _ _ _ _ _ _ _ _ _ _ _ _ _ _ _
      | exact LeO.none _
      | refine LeO.ite ?_ ?_
      | refine LeO.bind ?_ (fun _ => ?_)
    · intro y0 y1 y2 y3 y4 y5 y6 y7 y8 y9 y10 y11 y12 y13 y14 y15 y16
      unfold report_Counts.j1
      repeat' first
      | (with_reducible exact ih0 _ _ _ _ _ _)
      | (with_reducible exact ih1 _ _ _ _ _ _ _ _ _ _ _ _ _ _ _ _ _)
      | (with_reducible exact ih2 _ _ _ _ _ _ _ _ _ _ _ _ _ _ _ _ _)
      | (with_reducible exact LeO.refl _)
      | (with_reducible exact LeO.none _)
      | (with_reducible refine LeO.ite ?_ ?_)
      | (with_reducible refine LeO.bind ?_ (fun _ => ?_))
      | exact ih0 _ _ _ _ _ _
      | exact ih1 _ _ _ _ _ _ _ _ _ _ _ _ _ _ _ _ _
      | exact ih2 _ _ _ _ _ _ _ _ _ _ _ _ _ _ _ _ _
      | exact LeO.none _
      | refine LeO.ite ?_ ?_
      | refine LeO.bind ?_ (fun _ => ?_)
    · intro y0 y1 y2 y3 y4 y5 y6 y7 y8 y9 y10 y11 y12 y13 y14 y15 y16
      unfold report_Counts.j2
      repeat' first
      | (with_reducible exact ih0 _ _ _ _ _ _)
      | (with_reducible exact ih1 _ _ _ _ _ _ _ _ _ _ _ _ _ _ _ _ _)
      | (with_reducible exact ih2 _ _ _ _ _ _ _ _ _ _ _ _ _ _ _ _ _)
      | (with_reducible exact LeO.refl _)
      | (with_reducible exact LeO.none _)
      | (with_reducible refine LeO.ite ?_ ?_)
      | (with_reducible refine LeO.bind ?_ (fun _ => ?_))
      | exact ih0 _ _ _ _ _ _
      | exact ih1 _ _ _ _ _ _ _ _ _ _ _ _ _ _ _ _ _
      | exact ih2 _ _ _ _ _ _ _ _ _ _ _ _ _ _ _ _ _
      | exact LeO.none _
      | refine LeO.ite ?_ ?_
      | refine LeO.bind ?_ (fun _ => ?_)
theorem report_Counts.mono : ∀ a0 k, LeO (report_Counts.f k a0) (report_Counts.f (k + 1) a0) := by
  intro a0 k
  obtain ⟨ih0, ih1, ih2⟩ := report_Counts.mono_l k
  unfold report_Counts.f
  repeat' first
      | (with_reducible exact ih0 _ _ _ _ _ _)
      | (with_reducible exact ih1 _ _ _ _ _ _ _ _ _ _ _ _ _ _ _ _ _)
      | (with_reducible exact ih2 _ _ _ _ _ _ _ _ _ _ _ _ _ _ _ _ _)
      | (with_reducible exact LeO.refl _)
      | (with_reducible exact LeO.none _)
      | (with_reducible refine LeO.ite ?_ ?_)
      | (with_reducible refine LeO.bind ?_ (fun _ => ?_))
      | exact ih0 _ _ _ _ _ _
      | exact ih1 _ _ _ _ _ _ _ _ _ _ _ _ _ _ _ _ _
      | exact ih2 _ _ _ _ _ _ _ _ _ _ _ _ _ _ _ _ _
      | exact LeO.none _
      | refine LeO.ite ?_ ?_
      | refine LeO.bind ?_ (fun _ => ?_)
set_option maxHeartbeats 8000000 in
set_option maxRecDepth 100000 in
theorem report_Counts.calls (k : Nat) (A0 : Option Addr) (c0 : Nat) (l0 : List (S29)) (r1 : Int) (r2 : Int) (r3 : Int) (w : World) (hr0 : Kd.C k29 w A0 l0.length l0) (hc0 : l0.length ≤ c0) (h : report_Counts.f k l0 = some (r1, r2, r3)) :
    Calls Tryd.prog 9 #[.slice A0 l0.length c0] w fun e w' => e = .returned (.tuple #[.int .i64 r1, .int .i64 r2, .int .i64 r3]) ∧ Below w.heap.size w w' := by
  have hu29 := Tryd.underlying29
  have HR0 := Aside0.mk hr0
  have HC0 := Aside0.mk hc0
  clear hr0 hc0
  have HB := Aside0.mk (Below.refl w.heap.size w)
  have H : (report_Counts.l0 k 0 0 0 l0 (l0.length : Int) 0) = some (r1, r2, r3) := h
  clear h
  have H' := Aside0.mk H
  clear H
  go_enter Tryd.func9, Tryd.ntmps9
  go_wp2
  go_loopg [5, 6, 7, 12] k (fun kq v5 v6 v7 v12 w' => ∃ (x5_1 : Int) (x6_1 : Int) (x7_1 : Int) (x12_1 : Int), v5 = .int .i64 x5_1 ∧ v6 = .int .i64 x6_1 ∧ v7 = .int .i64 x7_1 ∧ v12 = .int .i64 x12_1 ∧ Aside0 (report_Counts.l0 kq x5_1 x6_1 x7_1 l0 (l0.length : Int) x12_1 = some (r1, r2, r3)) ∧ Aside0 (kq ≤ k) ∧ Aside0 (Below w.heap.size w w'))
  case atStart => exact ⟨(0), (0), (0), (0), (by first | rfl | (simp; done) | (simp [*]; done)), (by first | rfl | (simp; done) | (simp [*]; done)), (by first | rfl | (simp; done) | (simp [*]; done)), (by first | rfl | (simp; done) | (simp [*]; done)), H', ⟨Nat.le_refl _⟩, ⟨by repeat (first | (with_reducible first | exact HB.out | apply below_alloc | apply pw_below_drewN | apply below_drew1) | exact HB.out)⟩⟩
  case round =>
    clear H'
    obtain ⟨x5_1, x6_1, x7_1, x12_1, rfl, rfl, rfl, rfl, HA, HK1, HB⟩ := hrel
    cases gk with
    | zero => exact absurd HA.out (by simp [report_Counts.l0])
    | succ k1 =>
      have H := HA.out
      clear HA
      simp only [report_Counts.l0] at H
      by_cases c2 : x12_1 < (l0.length : Int)
      · rw [if_pos c2] at H
        have c2b0 : decide (x12_1 < (l0.length : Int)) = true := decide_eq_true c2
        clear c2
        by_cases c3 : 0 ≤ x12_1
        · rw [if_pos c3] at H
          have c3b0 : decide (0 ≤ x12_1) = true := decide_eq_true c3
          clear c3
          by_cases c4 : x12_1 < (l0.length : Int)
          · rw [if_pos c4] at H
            have c4b0 : decide (x12_1 < (l0.length : Int)) = true := decide_eq_true c4
            clear c4
            have HC5 := Aside0.mk H
            clear H
            have p144 : 0 ≤ (x12_1 : Int) := of_decide_eq_true (by first | (with_reducible assumption) | assumption)
            have q144 : x12_1 < (l0.length : Int) := of_decide_eq_true (by first | (with_reducible assumption) | assumption)
            obtain ⟨ad144, e144, hx144_0, hx144_1, hx144_2, hx144_3, hx144_4, hx144_5, hx144_6, hx144_7, hx144_8, hx144_9⟩ := at_T29 HR0.out x12_1 p144 q144
            cases e144
            replace hx144_0 := (HB.out.cell (World.block_lt_of_cell? w _ hx144_0)).trans hx144_0
            replace hx144_1 := (HB.out.cell (World.block_lt_of_cell? w _ hx144_1)).trans hx144_1
            replace hx144_2 := (HB.out.cell (World.block_lt_of_cell? w _ hx144_2)).trans hx144_2
            replace hx144_3 := (HB.out.cell (World.block_lt_of_cell? w _ hx144_3)).trans hx144_3
            replace hx144_4 := (HB.out.cell (World.block_lt_of_cell? w _ hx144_4)).trans hx144_4
            replace hx144_5 := (HB.out.cell (World.block_lt_of_cell? w _ hx144_5)).trans hx144_5
            replace hx144_6 := (HB.out.cell (World.block_lt_of_cell? w _ hx144_6)).trans hx144_6
            replace hx144_7 := (HB.out.cell (World.block_lt_of_cell? w _ hx144_7)).trans hx144_7
            replace hx144_8 := (HB.out.cell (World.block_lt_of_cell? w _ hx144_8)).trans hx144_8
            replace hx144_9 := (HB.out.cell (World.block_lt_of_cell? w _ hx144_9)).trans hx144_9
            replace p144 := eq_true p144
            replace q144 := eq_true q144
            go_upto_region 6 with (first | ((with_reducible refine gate_dst (N := 9) rfl ?_); refine box_event ?hg (N := 9) ?hd (cs := #[.int .i64 0, .int .i64 0, .int .i64 0, .int .i64 0, .int .i64 0, .bool false, .int .i64 0, .int .i64 0, .int .i64 0, .int .i64 0]) (t := 29) ?hr ?_; (case hd => rfl); (case hg => rfl); (case hr => first | (go_simp; done) | (go_simp; rfl)); intro gb145 hg w6 hbox hb; have n0_ := Aside0.mk (below_step (by repeat (first | (with_reducible first | exact HB.out | apply below_alloc | apply pw_below_drewN | apply below_drew1) | exact HB.out)) hb); have n1_ := Aside0.mk (hbox); have n2_ := Aside0.mk ((by rw [hg]; exact (below_size (by repeat (first | (with_reducible first | exact HB.out | apply below_alloc | apply pw_below_drewN | apply below_drew1) | exact HB.out))) : w.heap.size ≤ gb145)); have n3_ := Aside0.mk ((by rw [hg]; exact (below_size (by repeat (first | (with_reducible first | exact HB.out | apply below_alloc | apply pw_below_drewN | apply below_drew1) | exact HB.out))) : w.heap.size ≤ gb145)); clear HB; have HB := n0_; have BK145 := n1_; have GW145 := n2_; have GE145 := n3_; clear n0_ n1_ n2_ n3_; clear hb hbox hg; have hcz7_0 : w6.cell? ⟨gb145, 0, none⟩ = some (.int .i64 0) := (blk_cell BK145.out 0).trans rfl; have hcz7_1 : w6.cell? ⟨gb145, 1, none⟩ = some (.int .i64 0) := (blk_cell BK145.out 1).trans rfl; have hcz7_2 : w6.cell? ⟨gb145, 2, none⟩ = some (.int .i64 0) := (blk_cell BK145.out 2).trans rfl; have hcz7_3 : w6.cell? ⟨gb145, 3, none⟩ = some (.int .i64 0) := (blk_cell BK145.out 3).trans rfl; have hcz7_4 : w6.cell? ⟨gb145, 4, none⟩ = some (.int .i64 0) := (blk_cell BK145.out 4).trans rfl; have hcz7_5 : w6.cell? ⟨gb145, 5, none⟩ = some (.bool false) := (blk_cell BK145.out 5).trans rfl; have hcz7_6 : w6.cell? ⟨gb145, 6, none⟩ = some (.int .i64 0) := (blk_cell BK145.out 6).trans rfl; have hcz7_7 : w6.cell? ⟨gb145, 7, none⟩ = some (.int .i64 0) := (blk_cell BK145.out 7).trans rfl; have hcz7_8 : w6.cell? ⟨gb145, 8, none⟩ = some (.int .i64 0) := (blk_cell BK145.out 8).trans rfl; have hcz7_9 : w6.cell? ⟨gb145, 9, none⟩ = some (.int .i64 0) := (blk_cell BK145.out 9).trans rfl; have hfz7_0 := blk_frozen BK145.out 0; have hfz7_1 := blk_frozen BK145.out 1; have hfz7_2 := blk_frozen BK145.out 2; have hfz7_3 := blk_frozen BK145.out 3; have hfz7_4 := blk_frozen BK145.out 4; have hfz7_5 := blk_frozen BK145.out 5; have hfz7_6 := blk_frozen BK145.out 6; have hfz7_7 := blk_frozen BK145.out 7; have hfz7_8 := blk_frozen BK145.out 8; have hfz7_9 := blk_frozen BK145.out 9))
            (try simp only [Act.put, List.setIfInBounds_toArray, List.set_cons_zero, List.set_cons_succ])
            go_cut [18] (fun v18 wc => ∃ (kq : Nat) (x18_4 : Bool), v18 = .bool x18_4 ∧ Aside0 (report_Counts.j1 kq x5_1 x6_1 x7_1 l0 (l0.length : Int) x12_1 x18_4 ((rd_T29 l0 x12_1).f0) ((rd_T29 l0 x12_1).f1) ((rd_T29 l0 x12_1).f2.f0) ((rd_T29 l0 x12_1).f2.f1) ((rd_T29 l0 x12_1).f2.f2) ((rd_T29 l0 x12_1).f2.f3) ((rd_T29 l0 x12_1).f2.f4.f0) ((rd_T29 l0 x12_1).f2.f4.f1) ((rd_T29 l0 x12_1).f2.f4.f2) ((rd_T29 l0 x12_1).f2.f4.f3) = some (r1, r2, r3)) ∧ Aside0 (kq ≤ k1) ∧ Aside0 (wc.heap[gb145]? = some (.cells #[.int .i64 ((rd_T29 l0 x12_1).f0), .int .i64 ((rd_T29 l0 x12_1).f1), .int .i64 ((rd_T29 l0 x12_1).f2.f0), .int .i64 ((rd_T29 l0 x12_1).f2.f1), .int .i64 ((rd_T29 l0 x12_1).f2.f2), .bool ((rd_T29 l0 x12_1).f2.f3), .int .i64 ((rd_T29 l0 x12_1).f2.f4.f0), .int .i64 ((rd_T29 l0 x12_1).f2.f4.f1), .int .i64 ((rd_T29 l0 x12_1).f2.f4.f2), .int .i64 ((rd_T29 l0 x12_1).f2.f4.f3)] 29 (0, 0))) ∧ Aside0 (Below w.heap.size w wc))
            case first =>
              have H := HC5.out
              clear HC5
              by_cases c8 : ((rd_T29 l0 x12_1).f0) = 2
              · rw [if_pos c8] at H
                have c8b0 : (((rd_T29 l0 x12_1).f0) == 2) = true := beq_iff_eq.mpr c8
                have c8b1 : (((rd_T29 l0 x12_1).f0) != 2) = false := bne_eq_false_iff_eq.mpr c8
                clear c8
                (first | rw [c8b0] | (simp only [i64_w, i32_w]; rw [c8b0]) | skip)
                have H' := Aside0.mk H
                clear H
                have hcz9_0 : w6.cell? ⟨gb145, 0, none⟩ = some (.int .i64 0) := (blk_cell BK145.out 0).trans rfl
                have hcz9_1 : w6.cell? ⟨gb145, 1, none⟩ = some (.int .i64 0) := (blk_cell BK145.out 1).trans rfl
                have hcz9_2 : w6.cell? ⟨gb145, 2, none⟩ = some (.int .i64 0) := (blk_cell BK145.out 2).trans rfl
                have hcz9_3 : w6.cell? ⟨gb145, 3, none⟩ = some (.int .i64 0) := (blk_cell BK145.out 3).trans rfl
                have hcz9_4 : w6.cell? ⟨gb145, 4, none⟩ = some (.int .i64 0) := (blk_cell BK145.out 4).trans rfl
                have hcz9_5 : w6.cell? ⟨gb145, 5, none⟩ = some (.bool false) := (blk_cell BK145.out 5).trans rfl
                have hcz9_6 : w6.cell? ⟨gb145, 6, none⟩ = some (.int .i64 0) := (blk_cell BK145.out 6).trans rfl
                have hcz9_7 : w6.cell? ⟨gb145, 7, none⟩ = some (.int .i64 0) := (blk_cell BK145.out 7).trans rfl
                have hcz9_8 : w6.cell? ⟨gb145, 8, none⟩ = some (.int .i64 0) := (blk_cell BK145.out 8).trans rfl
                have hcz9_9 : w6.cell? ⟨gb145, 9, none⟩ = some (.int .i64 0) := (blk_cell BK145.out 9).trans rfl
                have hfz9_0 := blk_frozen BK145.out 0
                have hfz9_1 := blk_frozen BK145.out 1
                have hfz9_2 := blk_frozen BK145.out 2
                have hfz9_3 := blk_frozen BK145.out 3
                have hfz9_4 := blk_frozen BK145.out 4
                have hfz9_5 := blk_frozen BK145.out 5
                have hfz9_6 := blk_frozen BK145.out 6
                have hfz9_7 := blk_frozen BK145.out 7
                have hfz9_8 := blk_frozen BK145.out 8
                have hfz9_9 := blk_frozen BK145.out 9
                go_wp2
                go_meet
                case rel => exact ⟨_, ((((rd_T29 l0 x12_1).f1) != 0)), (by first | rfl | (simp; done) | (simp [*]; done)), H', ⟨by have := HK1.out; first | omega | exact Nat.le_refl _⟩, ⟨by (with_reducible repeat (first | refine blk_drewN ?_ _ | refine blk_drew ?_ | refine blk_alloc ?_ _)); refine blk_put (cs := #[.int .i64 ((rd_T29 l0 x12_1).f0), .int .i64 ((rd_T29 l0 x12_1).f1), .int .i64 ((rd_T29 l0 x12_1).f2.f0), .int .i64 ((rd_T29 l0 x12_1).f2.f1), .int .i64 ((rd_T29 l0 x12_1).f2.f2), .bool ((rd_T29 l0 x12_1).f2.f3), .int .i64 ((rd_T29 l0 x12_1).f2.f4.f0), .int .i64 ((rd_T29 l0 x12_1).f2.f4.f1), .int .i64 ((rd_T29 l0 x12_1).f2.f4.f2), .int .i64 0]) ?_ 9 _ rfl; (with_reducible repeat (first | refine blk_drewN ?_ _ | refine blk_drew ?_ | refine blk_alloc ?_ _)); refine blk_put (cs := #[.int .i64 ((rd_T29 l0 x12_1).f0), .int .i64 ((rd_T29 l0 x12_1).f1), .int .i64 ((rd_T29 l0 x12_1).f2.f0), .int .i64 ((rd_T29 l0 x12_1).f2.f1), .int .i64 ((rd_T29 l0 x12_1).f2.f2), .bool ((rd_T29 l0 x12_1).f2.f3), .int .i64 ((rd_T29 l0 x12_1).f2.f4.f0), .int .i64 ((rd_T29 l0 x12_1).f2.f4.f1), .int .i64 0, .int .i64 0]) ?_ 8 _ rfl; (with_reducible repeat (first | refine blk_drewN ?_ _ | refine blk_drew ?_ | refine blk_alloc ?_ _)); refine blk_put (cs := #[.int .i64 ((rd_T29 l0 x12_1).f0), .int .i64 ((rd_T29 l0 x12_1).f1), .int .i64 ((rd_T29 l0 x12_1).f2.f0), .int .i64 ((rd_T29 l0 x12_1).f2.f1), .int .i64 ((rd_T29 l0 x12_1).f2.f2), .bool ((rd_T29 l0 x12_1).f2.f3), .int .i64 ((rd_T29 l0 x12_1).f2.f4.f0), .int .i64 0, .int .i64 0, .int .i64 0]) ?_ 7 _ rfl; (with_reducible repeat (first | refine blk_drewN ?_ _ | refine blk_drew ?_ | refine blk_alloc ?_ _)); refine blk_put (cs := #[.int .i64 ((rd_T29 l0 x12_1).f0), .int .i64 ((rd_T29 l0 x12_1).f1), .int .i64 ((rd_T29 l0 x12_1).f2.f0), .int .i64 ((rd_T29 l0 x12_1).f2.f1), .int .i64 ((rd_T29 l0 x12_1).f2.f2), .bool ((rd_T29 l0 x12_1).f2.f3), .int .i64 0, .int .i64 0, .int .i64 0, .int .i64 0]) ?_ 6 _ rfl; (with_reducible repeat (first | refine blk_drewN ?_ _ | refine blk_drew ?_ | refine blk_alloc ?_ _)); refine blk_put (cs := #[.int .i64 ((rd_T29 l0 x12_1).f0), .int .i64 ((rd_T29 l0 x12_1).f1), .int .i64 ((rd_T29 l0 x12_1).f2.f0), .int .i64 ((rd_T29 l0 x12_1).f2.f1), .int .i64 ((rd_T29 l0 x12_1).f2.f2), .bool false, .int .i64 0, .int .i64 0, .int .i64 0, .int .i64 0]) ?_ 5 _ rfl; (with_reducible repeat (first | refine blk_drewN ?_ _ | refine blk_drew ?_ | refine blk_alloc ?_ _)); refine blk_put (cs := #[.int .i64 ((rd_T29 l0 x12_1).f0), .int .i64 ((rd_T29 l0 x12_1).f1), .int .i64 ((rd_T29 l0 x12_1).f2.f0), .int .i64 ((rd_T29 l0 x12_1).f2.f1), .int .i64 0, .bool false, .int .i64 0, .int .i64 0, .int .i64 0, .int .i64 0]) ?_ 4 _ rfl; (with_reducible repeat (first | refine blk_drewN ?_ _ | refine blk_drew ?_ | refine blk_alloc ?_ _)); refine blk_put (cs := #[.int .i64 ((rd_T29 l0 x12_1).f0), .int .i64 ((rd_T29 l0 x12_1).f1), .int .i64 ((rd_T29 l0 x12_1).f2.f0), .int .i64 0, .int .i64 0, .bool false, .int .i64 0, .int .i64 0, .int .i64 0, .int .i64 0]) ?_ 3 _ rfl; (with_reducible repeat (first | refine blk_drewN ?_ _ | refine blk_drew ?_ | refine blk_alloc ?_ _)); refine blk_put (cs := #[.int .i64 ((rd_T29 l0 x12_1).f0), .int .i64 ((rd_T29 l0 x12_1).f1), .int .i64 0, .int .i64 0, .int .i64 0, .bool false, .int .i64 0, .int .i64 0, .int .i64 0, .int .i64 0]) ?_ 2 _ rfl; (with_reducible repeat (first | refine blk_drewN ?_ _ | refine blk_drew ?_ | refine blk_alloc ?_ _)); refine blk_put (cs := #[.int .i64 ((rd_T29 l0 x12_1).f0), .int .i64 0, .int .i64 0, .int .i64 0, .int .i64 0, .bool false, .int .i64 0, .int .i64 0, .int .i64 0, .int .i64 0]) ?_ 1 _ rfl; (with_reducible repeat (first | refine blk_drewN ?_ _ | refine blk_drew ?_ | refine blk_alloc ?_ _)); refine blk_put (cs := #[.int .i64 0, .int .i64 0, .int .i64 0, .int .i64 0, .int .i64 0, .bool false, .int .i64 0, .int .i64 0, .int .i64 0, .int .i64 0]) ?_ 0 _ rfl; (with_reducible repeat (first | refine blk_drewN ?_ _ | refine blk_drew ?_ | refine blk_alloc ?_ _)); exact BK145.out⟩, ⟨by repeat (first | (with_reducible first | exact HB.out | apply below_alloc | apply pw_below_drewN | apply below_drew1 | refine below_set ?_ GE145.out) | exact HB.out)⟩⟩
              · rw [if_neg c8] at H
                have c8b0 : (((rd_T29 l0 x12_1).f0) == 2) = false := beq_eq_false_iff_ne.mpr c8
                have c8b1 : (((rd_T29 l0 x12_1).f0) != 2) = true := bne_iff_ne.mpr c8
                (first | rw [c8b0] | (simp only [i64_w, i32_w]; rw [c8b0]) | skip)
                have H' := Aside0.mk H
                clear H
                have hcz10_0 : w6.cell? ⟨gb145, 0, none⟩ = some (.int .i64 0) := (blk_cell BK145.out 0).trans rfl
                have hcz10_1 : w6.cell? ⟨gb145, 1, none⟩ = some (.int .i64 0) := (blk_cell BK145.out 1).trans rfl
                have hcz10_2 : w6.cell? ⟨gb145, 2, none⟩ = some (.int .i64 0) := (blk_cell BK145.out 2).trans rfl
                have hcz10_3 : w6.cell? ⟨gb145, 3, none⟩ = some (.int .i64 0) := (blk_cell BK145.out 3).trans rfl
                have hcz10_4 : w6.cell? ⟨gb145, 4, none⟩ = some (.int .i64 0) := (blk_cell BK145.out 4).trans rfl
                have hcz10_5 : w6.cell? ⟨gb145, 5, none⟩ = some (.bool false) := (blk_cell BK145.out 5).trans rfl
                have hcz10_6 : w6.cell? ⟨gb145, 6, none⟩ = some (.int .i64 0) := (blk_cell BK145.out 6).trans rfl
                have hcz10_7 : w6.cell? ⟨gb145, 7, none⟩ = some (.int .i64 0) := (blk_cell BK145.out 7).trans rfl
                have hcz10_8 : w6.cell? ⟨gb145, 8, none⟩ = some (.int .i64 0) := (blk_cell BK145.out 8).trans rfl
                have hcz10_9 : w6.cell? ⟨gb145, 9, none⟩ = some (.int .i64 0) := (blk_cell BK145.out 9).trans rfl
                have hfz10_0 := blk_frozen BK145.out 0
                have hfz10_1 := blk_frozen BK145.out 1
                have hfz10_2 := blk_frozen BK145.out 2
                have hfz10_3 := blk_frozen BK145.out 3
                have hfz10_4 := blk_frozen BK145.out 4
                have hfz10_5 := blk_frozen BK145.out 5
                have hfz10_6 := blk_frozen BK145.out 6
                have hfz10_7 := blk_frozen BK145.out 7
                have hfz10_8 := blk_frozen BK145.out 8
                have hfz10_9 := blk_frozen BK145.out 9
                go_wp2
                go_meet
                case rel => exact ⟨_, (false), (by first | rfl | (simp; done) | (simp [*]; done)), H', ⟨by have := HK1.out; first | omega | exact Nat.le_refl _⟩, ⟨by (with_reducible repeat (first | refine blk_drewN ?_ _ | refine blk_drew ?_ | refine blk_alloc ?_ _)); refine blk_put (cs := #[.int .i64 ((rd_T29 l0 x12_1).f0), .int .i64 ((rd_T29 l0 x12_1).f1), .int .i64 ((rd_T29 l0 x12_1).f2.f0), .int .i64 ((rd_T29 l0 x12_1).f2.f1), .int .i64 ((rd_T29 l0 x12_1).f2.f2), .bool ((rd_T29 l0 x12_1).f2.f3), .int .i64 ((rd_T29 l0 x12_1).f2.f4.f0), .int .i64 ((rd_T29 l0 x12_1).f2.f4.f1), .int .i64 ((rd_T29 l0 x12_1).f2.f4.f2), .int .i64 0]) ?_ 9 _ rfl; (with_reducible repeat (first | refine blk_drewN ?_ _ | refine blk_drew ?_ | refine blk_alloc ?_ _)); refine blk_put (cs := #[.int .i64 ((rd_T29 l0 x12_1).f0), .int .i64 ((rd_T29 l0 x12_1).f1), .int .i64 ((rd_T29 l0 x12_1).f2.f0), .int .i64 ((rd_T29 l0 x12_1).f2.f1), .int .i64 ((rd_T29 l0 x12_1).f2.f2), .bool ((rd_T29 l0 x12_1).f2.f3), .int .i64 ((rd_T29 l0 x12_1).f2.f4.f0), .int .i64 ((rd_T29 l0 x12_1).f2.f4.f1), .int .i64 0, .int .i64 0]) ?_ 8 _ rfl; (with_reducible repeat (first | refine blk_drewN ?_ _ | refine blk_drew ?_ | refine blk_alloc ?_ _)); refine blk_put (cs := #[.int .i64 ((rd_T29 l0 x12_1).f0), .int .i64 ((rd_T29 l0 x12_1).f1), .int .i64 ((rd_T29 l0 x12_1).f2.f0), .int .i64 ((rd_T29 l0 x12_1).f2.f1), .int .i64 ((rd_T29 l0 x12_1).f2.f2), .bool ((rd_T29 l0 x12_1).f2.f3), .int .i64 ((rd_T29 l0 x12_1).f2.f4.f0), .int .i64 0, .int .i64 0, .int .i64 0]) ?_ 7 _ rfl; (with_reducible repeat (first | refine blk_drewN ?_ _ | refine blk_drew ?_ | refine blk_alloc ?_ _)); refine blk_put (cs := #[.int .i64 ((rd_T29 l0 x12_1).f0), .int .i64 ((rd_T29 l0 x12_1).f1), .int .i64 ((rd_T29 l0 x12_1).f2.f0), .int .i64 ((rd_T29 l0 x12_1).f2.f1), .int .i64 ((rd_T29 l0 x12_1).f2.f2), .bool ((rd_T29 l0 x12_1).f2.f3), .int .i64 0, .int .i64 0, .int .i64 0, .int .i64 0]) ?_ 6 _ rfl; (with_reducible repeat (first | refine blk_drewN ?_ _ | refine blk_drew ?_ | refine blk_alloc ?_ _)); refine blk_put (cs := #[.int .i64 ((rd_T29 l0 x12_1).f0), .int .i64 ((rd_T29 l0 x12_1).f1), .int .i64 ((rd_T29 l0 x12_1).f2.f0), .int .i64 ((rd_T29 l0 x12_1).f2.f1), .int .i64 ((rd_T29 l0 x12_1).f2.f2), .bool false, .int .i64 0, .int .i64 0, .int .i64 0, .int .i64 0]) ?_ 5 _ rfl; (with_reducible repeat (first | refine blk_drewN ?_ _ | refine blk_drew ?_ | refine blk_alloc ?_ _)); refine blk_put (cs := #[.int .i64 ((rd_T29 l0 x12_1).f0), .int .i64 ((rd_T29 l0 x12_1).f1), .int .i64 ((rd_T29 l0 x12_1).f2.f0), .int .i64 ((rd_T29 l0 x12_1).f2.f1), .int .i64 0, .bool false, .int .i64 0, .int .i64 0, .int .i64 0, .int .i64 0]) ?_ 4 _ rfl; (with_reducible repeat (first | refine blk_drewN ?_ _ | refine blk_drew ?_ | refine blk_alloc ?_ _)); refine blk_put (cs := #[.int .i64 ((rd_T29 l0 x12_1).f0), .int .i64 ((rd_T29 l0 x12_1).f1), .int .i64 ((rd_T29 l0 x12_1).f2.f0), .int .i64 0, .int .i64 0, .bool false, .int .i64 0, .int .i64 0, .int .i64 0, .int .i64 0]) ?_ 3 _ rfl; (with_reducible repeat (first | refine blk_drewN ?_ _ | refine blk_drew ?_ | refine blk_alloc ?_ _)); refine blk_put (cs := #[.int .i64 ((rd_T29 l0 x12_1).f0), .int .i64 ((rd_T29 l0 x12_1).f1), .int .i64 0, .int .i64 0, .int .i64 0, .bool false, .int .i64 0, .int .i64 0, .int .i64 0, .int .i64 0]) ?_ 2 _ rfl; (with_reducible repeat (first | refine blk_drewN ?_ _ | refine blk_drew ?_ | refine blk_alloc ?_ _)); refine blk_put (cs := #[.int .i64 ((rd_T29 l0 x12_1).f0), .int .i64 0, .int .i64 0, .int .i64 0, .int .i64 0, .bool false, .int .i64 0, .int .i64 0, .int .i64 0, .int .i64 0]) ?_ 1 _ rfl; (with_reducible repeat (first | refine blk_drewN ?_ _ | refine blk_drew ?_ | refine blk_alloc ?_ _)); refine blk_put (cs := #[.int .i64 0, .int .i64 0, .int .i64 0, .int .i64 0, .int .i64 0, .bool false, .int .i64 0, .int .i64 0, .int .i64 0, .int .i64 0]) ?_ 0 _ rfl; (with_reducible repeat (first | refine blk_drewN ?_ _ | refine blk_drew ?_ | refine blk_alloc ?_ _)); exact BK145.out⟩, ⟨by repeat (first | (with_reducible first | exact HB.out | apply below_alloc | apply pw_below_drewN | apply below_drew1 | refine below_set ?_ GE145.out) | exact HB.out)⟩⟩
            case rest =>
              clear HC5
              try clear p1
              try clear q1
              try clear hx1
              try clear c2
              try clear c2b0
              try clear p2
              try clear c3
              try clear c3b0
              try clear c4
              try clear c4b0
              try clear c8
              try clear c8b0
              try clear c8b1
              try clear c9
              try clear hcz10_0
              try clear hcz10_1
              try clear hcz10_2
              try clear hcz10_3
              try clear hcz10_4
              try clear hcz10_5
              try clear hcz10_6
              try clear hcz10_7
              try clear hcz10_8
              try clear hcz10_9
              try clear hcz7_0
              try clear hcz7_1
              try clear hcz7_2
              try clear hcz7_3
              try clear hcz7_4
              try clear hcz7_5
              try clear hcz7_6
              try clear hcz7_7
              try clear hcz7_8
              try clear hcz7_9
              try clear hcz9_0
              try clear hcz9_1
              try clear hcz9_2
              try clear hcz9_3
              try clear hcz9_4
              try clear hcz9_5
              try clear hcz9_6
              try clear hcz9_7
              try clear hcz9_8
              try clear hcz9_9
              try clear hfz10_0
              try clear hfz10_1
              try clear hfz10_2
              try clear hfz10_3
              try clear hfz10_4
              try clear hfz10_5
              try clear hfz10_6
              try clear hfz10_7
              try clear hfz10_8
              try clear hfz10_9
              try clear hfz7_0
              try clear hfz7_1
              try clear hfz7_2
              try clear hfz7_3
              try clear hfz7_4
              try clear hfz7_5
              try clear hfz7_6
              try clear hfz7_7
              try clear hfz7_8
              try clear hfz7_9
              try clear hfz9_0
              try clear hfz9_1
              try clear hfz9_2
              try clear hfz9_3
              try clear hfz9_4
              try clear hfz9_5
              try clear hfz9_6
              try clear hfz9_7
              try clear hfz9_8
              try clear hfz9_9
              try clear hx144_0
              try clear hx144_1
              try clear hx144_2
              try clear hx144_3
              try clear hx144_4
              try clear hx144_5
              try clear hx144_6
              try clear hx144_7
              try clear hx144_8
              try clear hx144_9
              try clear p144
              try clear q144
              obtain ⟨kq, x18_4, rfl, HA, HJ4, BK145, HB⟩ := hcut
              cases kq with
              | zero => exact absurd HA.out (by simp [report_Counts.j1])
              | succ kj4 =>
                have H := HA.out
                clear HA
                simp only [report_Counts.j1] at H
                by_cases c11 : x18_4 = true
                · subst c11
                  have H1 : (report_Counts.l0 kj4 x5_1 x6_1 (wrap64 (x7_1 + 1)) l0 (l0.length : Int) (wrap64 (x12_1 + 1))) = some (r1, r2, r3) := by rw [if_pos rfl] at H; exact H
                  clear H
                  have H := H1
                  clear H1
                  have H' := Aside0.mk H
                  clear H
                  go_wp2
                  go_roundg kj4
                  case measure => have := HK1.out; have := HJ4.out; omega
                  case rel => exact ⟨(x5_1), (x6_1), (wrap64 (x7_1 + 1)), (wrap64 (x12_1 + 1)), (by first | rfl | (simp; done) | (simp [*]; done)), (by first | rfl | (simp; done) | (simp [*]; done)), (by first | rfl | (simp; done) | (simp [*]; done)), (by first | rfl | (simp; done) | (simp [*]; done)), H', ⟨by have := HK1.out; have := HJ4.out; omega⟩, ⟨by repeat (first | (with_reducible first | exact HB.out | apply below_alloc | apply pw_below_drewN | apply below_drew1 | refine below_set ?_ GE145.out) | exact HB.out)⟩⟩
                · replace c11 := Bool.eq_false_iff.mpr c11
                  subst c11
                  have H1 : (if ((rd_T29 l0 x12_1).f0) = 6 then (report_Counts.j2 kj4 x5_1 x6_1 x7_1 l0 (l0.length : Int) x12_1 (((rd_T29 l0 x12_1).f1) != 0) ((rd_T29 l0 x12_1).f0) ((rd_T29 l0 x12_1).f1) ((rd_T29 l0 x12_1).f2.f0) ((rd_T29 l0 x12_1).f2.f1) ((rd_T29 l0 x12_1).f2.f2) ((rd_T29 l0 x12_1).f2.f3) ((rd_T29 l0 x12_1).f2.f4.f0) ((rd_T29 l0 x12_1).f2.f4.f1) ((rd_T29 l0 x12_1).f2.f4.f2) ((rd_T29 l0 x12_1).f2.f4.f3)) else (report_Counts.j2 kj4 x5_1 x6_1 x7_1 l0 (l0.length : Int) x12_1 true ((rd_T29 l0 x12_1).f0) ((rd_T29 l0 x12_1).f1) ((rd_T29 l0 x12_1).f2.f0) ((rd_T29 l0 x12_1).f2.f1) ((rd_T29 l0 x12_1).f2.f2) ((rd_T29 l0 x12_1).f2.f3) ((rd_T29 l0 x12_1).f2.f4.f0) ((rd_T29 l0 x12_1).f2.f4.f1) ((rd_T29 l0 x12_1).f2.f4.f2) ((rd_T29 l0 x12_1).f2.f4.f3))) = some (r1, r2, r3) := by rw [if_neg (show ¬ (false = true) by decide)] at H; exact H
                  clear H
                  have H := H1
                  clear H1
                  have HC12 := Aside0.mk H
                  clear H
                  go_upto_region 8 with (fail)
                  go_cut [29] (fun v29 wc => ∃ (kq : Nat) (x29_11 : Bool), v29 = .bool x29_11 ∧ Aside0 (report_Counts.j2 kq x5_1 x6_1 x7_1 l0 (l0.length : Int) x12_1 x29_11 ((rd_T29 l0 x12_1).f0) ((rd_T29 l0 x12_1).f1) ((rd_T29 l0 x12_1).f2.f0) ((rd_T29 l0 x12_1).f2.f1) ((rd_T29 l0 x12_1).f2.f2) ((rd_T29 l0 x12_1).f2.f3) ((rd_T29 l0 x12_1).f2.f4.f0) ((rd_T29 l0 x12_1).f2.f4.f1) ((rd_T29 l0 x12_1).f2.f4.f2) ((rd_T29 l0 x12_1).f2.f4.f3) = some (r1, r2, r3)) ∧ Aside0 (kq ≤ kj4) ∧ Aside0 (wc.heap[gb145]? = some (.cells #[.int .i64 ((rd_T29 l0 x12_1).f0), .int .i64 ((rd_T29 l0 x12_1).f1), .int .i64 ((rd_T29 l0 x12_1).f2.f0), .int .i64 ((rd_T29 l0 x12_1).f2.f1), .int .i64 ((rd_T29 l0 x12_1).f2.f2), .bool ((rd_T29 l0 x12_1).f2.f3), .int .i64 ((rd_T29 l0 x12_1).f2.f4.f0), .int .i64 ((rd_T29 l0 x12_1).f2.f4.f1), .int .i64 ((rd_T29 l0 x12_1).f2.f4.f2), .int .i64 ((rd_T29 l0 x12_1).f2.f4.f3)] 29 (0, 0))) ∧ Aside0 (Below w.heap.size w wc))
                  case first =>
                    have H := HC12.out
                    clear HC12
                    by_cases c13 : ((rd_T29 l0 x12_1).f0) = 6
                    · rw [if_pos c13] at H
                      have c13b0 : (((rd_T29 l0 x12_1).f0) == 6) = true := beq_iff_eq.mpr c13
                      have c13b1 : (((rd_T29 l0 x12_1).f0) != 6) = false := bne_eq_false_iff_eq.mpr c13
                      clear c13
                      (first | rw [c13b0] | (simp only [i64_w, i32_w]; rw [c13b0]) | skip)
                      have H' := Aside0.mk H
                      clear H
                      have hcz14_0 : wc.cell? ⟨gb145, 0, none⟩ = some (.int .i64 ((rd_T29 l0 x12_1).f0)) := (blk_cell BK145.out 0).trans rfl
                      have hcz14_1 : wc.cell? ⟨gb145, 1, none⟩ = some (.int .i64 ((rd_T29 l0 x12_1).f1)) := (blk_cell BK145.out 1).trans rfl
                      have hcz14_2 : wc.cell? ⟨gb145, 2, none⟩ = some (.int .i64 ((rd_T29 l0 x12_1).f2.f0)) := (blk_cell BK145.out 2).trans rfl
                      have hcz14_3 : wc.cell? ⟨gb145, 3, none⟩ = some (.int .i64 ((rd_T29 l0 x12_1).f2.f1)) := (blk_cell BK145.out 3).trans rfl
                      have hcz14_4 : wc.cell? ⟨gb145, 4, none⟩ = some (.int .i64 ((rd_T29 l0 x12_1).f2.f2)) := (blk_cell BK145.out 4).trans rfl
                      have hcz14_5 : wc.cell? ⟨gb145, 5, none⟩ = some (.bool ((rd_T29 l0 x12_1).f2.f3)) := (blk_cell BK145.out 5).trans rfl
                      have hcz14_6 : wc.cell? ⟨gb145, 6, none⟩ = some (.int .i64 ((rd_T29 l0 x12_1).f2.f4.f0)) := (blk_cell BK145.out 6).trans rfl
                      have hcz14_7 : wc.cell? ⟨gb145, 7, none⟩ = some (.int .i64 ((rd_T29 l0 x12_1).f2.f4.f1)) := (blk_cell BK145.out 7).trans rfl
                      have hcz14_8 : wc.cell? ⟨gb145, 8, none⟩ = some (.int .i64 ((rd_T29 l0 x12_1).f2.f4.f2)) := (blk_cell BK145.out 8).trans rfl
                      have hcz14_9 : wc.cell? ⟨gb145, 9, none⟩ = some (.int .i64 ((rd_T29 l0 x12_1).f2.f4.f3)) := (blk_cell BK145.out 9).trans rfl
                      have hfz14_0 := blk_frozen BK145.out 0
                      have hfz14_1 := blk_frozen BK145.out 1
                      have hfz14_2 := blk_frozen BK145.out 2
                      have hfz14_3 := blk_frozen BK145.out 3
                      have hfz14_4 := blk_frozen BK145.out 4
                      have hfz14_5 := blk_frozen BK145.out 5
                      have hfz14_6 := blk_frozen BK145.out 6
                      have hfz14_7 := blk_frozen BK145.out 7
                      have hfz14_8 := blk_frozen BK145.out 8
                      have hfz14_9 := blk_frozen BK145.out 9
                      go_wp2
                      go_meet
                      case rel => exact ⟨_, ((((rd_T29 l0 x12_1).f1) != 0)), (by first | rfl | (simp; done) | (simp [*]; done)), H', ⟨by have := HK1.out; have := HJ4.out; first | omega | exact Nat.le_refl _⟩, ⟨by (with_reducible repeat (first | refine blk_drewN ?_ _ | refine blk_drew ?_ | refine blk_alloc ?_ _)); exact BK145.out⟩, ⟨by repeat (first | (with_reducible first | exact HB.out | apply below_alloc | apply pw_below_drewN | apply below_drew1 | refine below_set ?_ GE145.out) | exact HB.out)⟩⟩
                    · rw [if_neg c13] at H
                      have c13b0 : (((rd_T29 l0 x12_1).f0) == 6) = false := beq_eq_false_iff_ne.mpr c13
                      have c13b1 : (((rd_T29 l0 x12_1).f0) != 6) = true := bne_iff_ne.mpr c13
                      (first | rw [c13b0] | (simp only [i64_w, i32_w]; rw [c13b0]) | skip)
                      have H' := Aside0.mk H
                      clear H
                      have hcz15_0 : wc.cell? ⟨gb145, 0, none⟩ = some (.int .i64 ((rd_T29 l0 x12_1).f0)) := (blk_cell BK145.out 0).trans rfl
                      have hcz15_1 : wc.cell? ⟨gb145, 1, none⟩ = some (.int .i64 ((rd_T29 l0 x12_1).f1)) := (blk_cell BK145.out 1).trans rfl
                      have hcz15_2 : wc.cell? ⟨gb145, 2, none⟩ = some (.int .i64 ((rd_T29 l0 x12_1).f2.f0)) := (blk_cell BK145.out 2).trans rfl
                      have hcz15_3 : wc.cell? ⟨gb145, 3, none⟩ = some (.int .i64 ((rd_T29 l0 x12_1).f2.f1)) := (blk_cell BK145.out 3).trans rfl
                      have hcz15_4 : wc.cell? ⟨gb145, 4, none⟩ = some (.int .i64 ((rd_T29 l0 x12_1).f2.f2)) := (blk_cell BK145.out 4).trans rfl
                      have hcz15_5 : wc.cell? ⟨gb145, 5, none⟩ = some (.bool ((rd_T29 l0 x12_1).f2.f3)) := (blk_cell BK145.out 5).trans rfl
                      have hcz15_6 : wc.cell? ⟨gb145, 6, none⟩ = some (.int .i64 ((rd_T29 l0 x12_1).f2.f4.f0)) := (blk_cell BK145.out 6).trans rfl
                      have hcz15_7 : wc.cell? ⟨gb145, 7, none⟩ = some (.int .i64 ((rd_T29 l0 x12_1).f2.f4.f1)) := (blk_cell BK145.out 7).trans rfl
                      have hcz15_8 : wc.cell? ⟨gb145, 8, none⟩ = some (.int .i64 ((rd_T29 l0 x12_1).f2.f4.f2)) := (blk_cell BK145.out 8).trans rfl
                      have hcz15_9 : wc.cell? ⟨gb145, 9, none⟩ = some (.int .i64 ((rd_T29 l0 x12_1).f2.f4.f3)) := (blk_cell BK145.out 9).trans rfl
                      have hfz15_0 := blk_frozen BK145.out 0
                      have hfz15_1 := blk_frozen BK145.out 1
                      have hfz15_2 := blk_frozen BK145.out 2
                      have hfz15_3 := blk_frozen BK145.out 3
                      have hfz15_4 := blk_frozen BK145.out 4
                      have hfz15_5 := blk_frozen BK145.out 5
                      have hfz15_6 := blk_frozen BK145.out 6
                      have hfz15_7 := blk_frozen BK145.out 7
                      have hfz15_8 := blk_frozen BK145.out 8
                      have hfz15_9 := blk_frozen BK145.out 9
                      go_wp2
                      go_meet
                      case rel => exact ⟨_, (true), (by first | rfl | (simp; done) | (simp [*]; done)), H', ⟨by have := HK1.out; have := HJ4.out; first | omega | exact Nat.le_refl _⟩, ⟨by (with_reducible repeat (first | refine blk_drewN ?_ _ | refine blk_drew ?_ | refine blk_alloc ?_ _)); exact BK145.out⟩, ⟨by repeat (first | (with_reducible first | exact HB.out | apply below_alloc | apply pw_below_drewN | apply below_drew1 | refine below_set ?_ GE145.out) | exact HB.out)⟩⟩
                  case rest =>
                    clear HC12
                    try clear c1
                    try clear p1
                    try clear q1
                    try clear hx1
                    try clear c2
                    try clear c2b0
                    try clear p2
                    try clear c3
                    try clear c3b0
                    try clear c4
                    try clear c4b0
                    try clear p6
                    try clear c8
                    try clear c8b0
                    try clear c8b1
                    try clear c9
                    try clear c11
                    try clear c13
                    try clear c13b0
                    try clear c13b1
                    try clear p14
                    try clear q14
                    try clear hx14
                    try clear hcz10_0
                    try clear hcz10_1
                    try clear hcz10_2
                    try clear hcz10_3
                    try clear hcz10_4
                    try clear hcz10_5
                    try clear hcz10_6
                    try clear hcz10_7
                    try clear hcz10_8
                    try clear hcz10_9
                    try clear hcz14_0
                    try clear hcz14_1
                    try clear hcz14_2
                    try clear hcz14_3
                    try clear hcz14_4
                    try clear hcz14_5
                    try clear hcz14_6
                    try clear hcz14_7
                    try clear hcz14_8
                    try clear hcz14_9
                    try clear hcz15_0
                    try clear hcz15_1
                    try clear hcz15_2
                    try clear hcz15_3
                    try clear hcz15_4
                    try clear hcz15_5
                    try clear hcz15_6
                    try clear hcz15_7
                    try clear hcz15_8
                    try clear hcz15_9
                    try clear hcz7_0
                    try clear hcz7_1
                    try clear hcz7_2
                    try clear hcz7_3
                    try clear hcz7_4
                    try clear hcz7_5
                    try clear hcz7_6
                    try clear hcz7_7
                    try clear hcz7_8
                    try clear hcz7_9
                    try clear hcz9_0
                    try clear hcz9_1
                    try clear hcz9_2
                    try clear hcz9_3
                    try clear hcz9_4
                    try clear hcz9_5
                    try clear hcz9_6
                    try clear hcz9_7
                    try clear hcz9_8
                    try clear hcz9_9
                    try clear hfz10_0
                    try clear hfz10_1
                    try clear hfz10_2
                    try clear hfz10_3
                    try clear hfz10_4
                    try clear hfz10_5
                    try clear hfz10_6
                    try clear hfz10_7
                    try clear hfz10_8
                    try clear hfz10_9
                    try clear hfz14_0
                    try clear hfz14_1
                    try clear hfz14_2
                    try clear hfz14_3
                    try clear hfz14_4
                    try clear hfz14_5
                    try clear hfz14_6
                    try clear hfz14_7
                    try clear hfz14_8
                    try clear hfz14_9
                    try clear hfz15_0
                    try clear hfz15_1
                    try clear hfz15_2
                    try clear hfz15_3
                    try clear hfz15_4
                    try clear hfz15_5
                    try clear hfz15_6
                    try clear hfz15_7
                    try clear hfz15_8
                    try clear hfz15_9
                    try clear hfz7_0
                    try clear hfz7_1
                    try clear hfz7_2
                    try clear hfz7_3
                    try clear hfz7_4
                    try clear hfz7_5
                    try clear hfz7_6
                    try clear hfz7_7
                    try clear hfz7_8
                    try clear hfz7_9
                    try clear hfz9_0
                    try clear hfz9_1
                    try clear hfz9_2
                    try clear hfz9_3
                    try clear hfz9_4
                    try clear hfz9_5
                    try clear hfz9_6
                    try clear hfz9_7
                    try clear hfz9_8
                    try clear hfz9_9
                    try clear hx144_0
                    try clear hx144_1
                    try clear hx144_2
                    try clear hx144_3
                    try clear hx144_4
                    try clear hx144_5
                    try clear hx144_6
                    try clear hx144_7
                    try clear hx144_8
                    try clear hx144_9
                    try clear p1
                    try clear p144
                    try clear p2
                    try clear q1
                    try clear q144
                    obtain ⟨kq, x29_11, rfl, HA, HJ11, BK145, HB⟩ := hcut
                    cases kq with
                    | zero => exact absurd HA.out (by simp [report_Counts.j2])
                    | succ kj11 =>
                      have H := HA.out
                      clear HA
                      simp only [report_Counts.j2] at H
                      by_cases c16 : x29_11 = true
                      · subst c16
                        have H1 : (report_Counts.l0 kj11 x5_1 x6_1 x7_1 l0 (l0.length : Int) (wrap64 (x12_1 + 1))) = some (r1, r2, r3) := by rw [if_pos rfl] at H; exact H
                        clear H
                        have H := H1
                        clear H1
                        have H' := Aside0.mk H
                        clear H
                        go_wp2
                        go_roundg kj11
                        case measure => have := HK1.out; have := HJ4.out; have := HJ11.out; omega
                        case rel => exact ⟨(x5_1), (x6_1), (x7_1), (wrap64 (x12_1 + 1)), (by first | rfl | (simp; done) | (simp [*]; done)), (by first | rfl | (simp; done) | (simp [*]; done)), (by first | rfl | (simp; done) | (simp [*]; done)), (by first | rfl | (simp; done) | (simp [*]; done)), H', ⟨by have := HK1.out; have := HJ4.out; have := HJ11.out; omega⟩, ⟨by repeat (first | (with_reducible first | exact HB.out | apply below_alloc | apply pw_below_drewN | apply below_drew1 | refine below_set ?_ GE145.out) | exact HB.out)⟩⟩
                      · replace c16 := Bool.eq_false_iff.mpr c16
                        subst c16
                        have H1 : (if ((rd_T29 l0 x12_1).f2.f3) = true then (report_Counts.l0 kj11 x5_1 (wrap64 (x6_1 + 1)) x7_1 l0 (l0.length : Int) (wrap64 (x12_1 + 1))) else (report_Counts.l0 kj11 (wrap64 (x5_1 + 1)) x6_1 x7_1 l0 (l0.length : Int) (wrap64 (x12_1 + 1)))) = some (r1, r2, r3) := by rw [if_neg (show ¬ (false = true) by decide)] at H; exact H
                        clear H
                        have H := H1
                        clear H1
                        by_cases c17 : ((rd_T29 l0 x12_1).f2.f3) = true
                        · rw [if_pos c17] at H
                          have c17b0 : ((rd_T29 l0 x12_1).f2.f3) = true := c17
                          clear c17
                          have H' := Aside0.mk H
                          clear H
                          have hcz18_0 : wc.cell? ⟨gb145, 0, none⟩ = some (.int .i64 ((rd_T29 l0 x12_1).f0)) := (blk_cell BK145.out 0).trans rfl
                          have hcz18_1 : wc.cell? ⟨gb145, 1, none⟩ = some (.int .i64 ((rd_T29 l0 x12_1).f1)) := (blk_cell BK145.out 1).trans rfl
                          have hcz18_2 : wc.cell? ⟨gb145, 2, none⟩ = some (.int .i64 ((rd_T29 l0 x12_1).f2.f0)) := (blk_cell BK145.out 2).trans rfl
                          have hcz18_3 : wc.cell? ⟨gb145, 3, none⟩ = some (.int .i64 ((rd_T29 l0 x12_1).f2.f1)) := (blk_cell BK145.out 3).trans rfl
                          have hcz18_4 : wc.cell? ⟨gb145, 4, none⟩ = some (.int .i64 ((rd_T29 l0 x12_1).f2.f2)) := (blk_cell BK145.out 4).trans rfl
                          have hcz18_5 : wc.cell? ⟨gb145, 5, none⟩ = some (.bool ((rd_T29 l0 x12_1).f2.f3)) := (blk_cell BK145.out 5).trans rfl
                          have hcz18_6 : wc.cell? ⟨gb145, 6, none⟩ = some (.int .i64 ((rd_T29 l0 x12_1).f2.f4.f0)) := (blk_cell BK145.out 6).trans rfl
                          have hcz18_7 : wc.cell? ⟨gb145, 7, none⟩ = some (.int .i64 ((rd_T29 l0 x12_1).f2.f4.f1)) := (blk_cell BK145.out 7).trans rfl
                          have hcz18_8 : wc.cell? ⟨gb145, 8, none⟩ = some (.int .i64 ((rd_T29 l0 x12_1).f2.f4.f2)) := (blk_cell BK145.out 8).trans rfl
                          have hcz18_9 : wc.cell? ⟨gb145, 9, none⟩ = some (.int .i64 ((rd_T29 l0 x12_1).f2.f4.f3)) := (blk_cell BK145.out 9).trans rfl
                          have hfz18_0 := blk_frozen BK145.out 0
                          have hfz18_1 := blk_frozen BK145.out 1
                          have hfz18_2 := blk_frozen BK145.out 2
                          have hfz18_3 := blk_frozen BK145.out 3
                          have hfz18_4 := blk_frozen BK145.out 4
                          have hfz18_5 := blk_frozen BK145.out 5
                          have hfz18_6 := blk_frozen BK145.out 6
                          have hfz18_7 := blk_frozen BK145.out 7
                          have hfz18_8 := blk_frozen BK145.out 8
                          have hfz18_9 := blk_frozen BK145.out 9
                          go_wp2
                          go_roundg kj11
                          case measure => have := HK1.out; have := HJ4.out; have := HJ11.out; omega
                          case rel => exact ⟨(x5_1), (wrap64 (x6_1 + 1)), (x7_1), (wrap64 (x12_1 + 1)), (by first | rfl | (simp; done) | (simp [*]; done)), (by first | rfl | (simp; done) | (simp [*]; done)), (by first | rfl | (simp; done) | (simp [*]; done)), (by first | rfl | (simp; done) | (simp [*]; done)), H', ⟨by have := HK1.out; have := HJ4.out; have := HJ11.out; omega⟩, ⟨by repeat (first | (with_reducible first | exact HB.out | apply below_alloc | apply pw_below_drewN | apply below_drew1 | refine below_set ?_ GE145.out) | exact HB.out)⟩⟩
                        · rw [if_neg c17] at H
                          have c17b0 : ((rd_T29 l0 x12_1).f2.f3) = false := by simpa using c17
                          clear c17
                          have H' := Aside0.mk H
                          clear H
                          have hcz19_0 : wc.cell? ⟨gb145, 0, none⟩ = some (.int .i64 ((rd_T29 l0 x12_1).f0)) := (blk_cell BK145.out 0).trans rfl
                          have hcz19_1 : wc.cell? ⟨gb145, 1, none⟩ = some (.int .i64 ((rd_T29 l0 x12_1).f1)) := (blk_cell BK145.out 1).trans rfl
                          have hcz19_2 : wc.cell? ⟨gb145, 2, none⟩ = some (.int .i64 ((rd_T29 l0 x12_1).f2.f0)) := (blk_cell BK145.out 2).trans rfl
                          have hcz19_3 : wc.cell? ⟨gb145, 3, none⟩ = some (.int .i64 ((rd_T29 l0 x12_1).f2.f1)) := (blk_cell BK145.out 3).trans rfl
                          have hcz19_4 : wc.cell? ⟨gb145, 4, none⟩ = some (.int .i64 ((rd_T29 l0 x12_1).f2.f2)) := (blk_cell BK145.out 4).trans rfl
                          have hcz19_5 : wc.cell? ⟨gb145, 5, none⟩ = some (.bool ((rd_T29 l0 x12_1).f2.f3)) := (blk_cell BK145.out 5).trans rfl
                          have hcz19_6 : wc.cell? ⟨gb145, 6, none⟩ = some (.int .i64 ((rd_T29 l0 x12_1).f2.f4.f0)) := (blk_cell BK145.out 6).trans rfl
                          have hcz19_7 : wc.cell? ⟨gb145, 7, none⟩ = some (.int .i64 ((rd_T29 l0 x12_1).f2.f4.f1)) := (blk_cell BK145.out 7).trans rfl
                          have hcz19_8 : wc.cell? ⟨gb145, 8, none⟩ = some (.int .i64 ((rd_T29 l0 x12_1).f2.f4.f2)) := (blk_cell BK145.out 8).trans rfl
                          have hcz19_9 : wc.cell? ⟨gb145, 9, none⟩ = some (.int .i64 ((rd_T29 l0 x12_1).f2.f4.f3)) := (blk_cell BK145.out 9).trans rfl
                          have hfz19_0 := blk_frozen BK145.out 0
                          have hfz19_1 := blk_frozen BK145.out 1
                          have hfz19_2 := blk_frozen BK145.out 2
                          have hfz19_3 := blk_frozen BK145.out 3
                          have hfz19_4 := blk_frozen BK145.out 4
                          have hfz19_5 := blk_frozen BK145.out 5
                          have hfz19_6 := blk_frozen BK145.out 6
                          have hfz19_7 := blk_frozen BK145.out 7
                          have hfz19_8 := blk_frozen BK145.out 8
                          have hfz19_9 := blk_frozen BK145.out 9
                          go_wp2
                          go_roundg kj11
                          case measure => have := HK1.out; have := HJ4.out; have := HJ11.out; omega
                          case rel => exact ⟨(wrap64 (x5_1 + 1)), (x6_1), (x7_1), (wrap64 (x12_1 + 1)), (by first | rfl | (simp; done) | (simp [*]; done)), (by first | rfl | (simp; done) | (simp [*]; done)), (by first | rfl | (simp; done) | (simp [*]; done)), (by first | rfl | (simp; done) | (simp [*]; done)), H', ⟨by have := HK1.out; have := HJ4.out; have := HJ11.out; omega⟩, ⟨by repeat (first | (with_reducible first | exact HB.out | apply below_alloc | apply pw_below_drewN | apply below_drew1 | refine below_set ?_ GE145.out) | exact HB.out)⟩⟩
          · rw [if_neg c4] at H
            exact absurd H (by simp)
        · rw [if_neg c3] at H
          exact absurd H (by simp)
      · rw [if_neg c2] at H
        have c2b0 : decide (x12_1 < (l0.length : Int)) = false := decide_eq_false c2
        clear c2
        simp only [Option.some.injEq, Prod.mk.injEq] at H
        obtain ⟨rfl, rfl, rfl⟩ := H
        go_wp2
        go_ret3
        exact ⟨by first | rfl | (simp [errW_none, errW_some] <;> rfl) | (simp [*, errW_none, errW_some] <;> rfl), by repeat (first | (with_reducible first | exact HB.out | apply below_alloc | apply pw_below_drewN | apply below_drew1) | exact HB.out)⟩

end Go.Proofs.YtjcjibghnpjegaaDoor.Pd
