/- The walk of told: what the program says of a few; it answers true. -/
import Derived.Test.YtjcjibghnpjegaaSB
namespace Go.Proofs.Ytjcjibghnpjegaa.Sc
open Go.RowKit Go.Proofs.Ytjcjibghnpjegaa.Pr Go.Proofs.YtjcjibghnpjegaaW.PrintWords Go.Proofs.YtjcjibghnpjegaaW.PrintLast Go.Proofs.YtjcjibghnpjegaaW.PrintMore
attribute [local go_sem high] eqA54
set_option linter.unusedVariables false
set_option linter.unusedSimpArgs false
set_option maxHeartbeats 4000000 in
set_option maxRecDepth 100000 in
theorem told_calls (w : World) : Calls Try.prog 38 #[] w fun e w' => e = .returned (.bool true) ∧ Below w.heap.size w w' := by
  have HB := Aside0.mk (Below.refl w.heap.size w)
  go_enter Try.func38, Try.ntmps38
  go_upto_region 4 with (first | (go_at_call 35; ((with_reducible refine (new_at (4 : Int) 4 (by omega) 2 2 10 _ (by omega) (by omega) (by omega) (by omega)).mono ?_); rintro e w1 ⟨b, r, rfl, hsc, hgb, hgr, hb⟩; have HS := Aside0.mk hsc; have n0_ := Aside0.mk (below_step HB.out hb); have hbN : w.heap.size ≤ b := (by have := below_size HB.out; omega); have hrN : w.heap.size ≤ r := (by have := below_size HB.out; omega); clear HB; have HB := n0_; clear n0_ hsc hb hgb hgr)))
  go_upto_region 5 with (first | ((with_reducible refine gate_dst (N := 15) rfl ?_); refine Kd.R_lit (Kd.int .i64) _ 2 ?hg (N := 15) ?hd (xs := ([100, 101, 99, 200] : List Int)) (inner := [.int .i64 100, .int .i64 101, .int .i64 99, .int .i64 200]) (ok := fun _ => True) (okp := fun _ => True) ?hr ?hp (fun _ hk => hk) trivial (Below.refl _ _) (Nat.le_refl _) (by simp) ?_; (case hd => rfl); (case hg => rfl); (case hr => first | (go_simp; done) | (go_simp; rfl)); (case hp => exact (Reps.one (show Kd.M (Kd.int .i64) _ _ _ 100 [.int .i64 100] from rfl) (Reps.one (show Kd.M (Kd.int .i64) _ _ _ 101 [.int .i64 101] from rfl) (Reps.one (show Kd.M (Kd.int .i64) _ _ _ 99 [.int .i64 99] from rfl) (Reps.one (show Kd.M (Kd.int .i64) _ _ _ 200 [.int .i64 200] from rfl) (Reps.none _ _)))))); intro vL wL hoL hbL hgL hnL; clear hgL hnL; obtain ⟨AL, cL, rfl, hcL, hCL⟩ := Kd.R_reads hoL; have HCL := Aside0.mk hCL; have n0_ := Aside0.mk (below_step HB.out hbL); have HS' := Aside0.mk (HS.out.below hbL); clear HB HS; have HB := n0_; have HS := HS'; clear n0_ HS' hoL hbL hCL) | (go_at_call 39; ((with_reducible refine (of_at 5 4 AL cL 4 [100, 101, 99, 200] xsT (by decide) (by decide) _ HCL hcL ofT (by decide)).mono ?_); rintro e wO ⟨g, cO, rfl, hcO, hgO, hltO, hswO, hbO⟩; have hszO := below_size HB.out; have n0_ := Aside0.mk (below_step HB.out hbO); have HS' := Aside0.mk (HS.out.below hbO); have hgbr : g ≠ b ∧ g ≠ r := (by have := HS.out.lt; omega); have HSW := Aside0.mk hswO; clear HB HS HCL; have HB := n0_; have HS := HS'; clear n0_ HS' hbO hswO hgO hszO)))
  have HM : Aside0 (ML (wO.alloc (.cells #[.slice (some ⟨g, 0, none⟩) 4 cO] 47)) b r wO.heap.size g cO xsT) := ⟨ML.made (by decide) HSW.out hltO hgbr HS.out.lt hcO okT⟩
  have HS1 : Aside0 (Sc (wO.alloc (.cells #[.slice (some ⟨g, 0, none⟩) 4 cO] 47)) b r 2 2 10 [o0, o0, o0, o0]) := ⟨HS.out.below (below_alloc (Below.refl _ _) _)⟩
  have HB1 : Aside0 (Below w.heap.size w (wO.alloc (.cells #[.slice (some ⟨g, 0, none⟩) 4 cO] 47))) := ⟨below_alloc HB.out _⟩
  clear HSW HS HB hgbr hltO
  have HS := HS1
  have HBt := HB1
  clear HS1 HB1
  generalize wO.alloc (.cells #[.slice (some ⟨g, 0, none⟩) 4 cO] 47) = WA at *
  generalize wO.heap.size = lb at *
  have ot1 : outOf [o0, o0, o0, ⟨0, 0, true⟩] 3 = true := by decide
  have ot2 : outOf [o0, o0, o0, ⟨0, 1, true⟩] 3 = true := by decide
  have ot3 : outOf [o0, o0, o0, o0] 3 = false := by decide
  have ot9 : outOf [o0, o0, o0, o0] 9 = true := by decide
  have g3 : ([o0, o0, o0, o0] : List Std)[3]? = some ⟨0, 0, false⟩ := rfl
  go_upto_region 6 with (first | (go_at_call 36; ((with_reducible refine (close_ml told1 HS HM).mono ?_); rintro e w6 ⟨v_, rfl, hr, hs, hm, hf⟩; obtain ⟨A_, c_, rfl⟩ := no_int hr; have n0_ := Aside0.mk (Below.ft HBt.out hf hbN hrN); clear HBt; have HBt := n0_; clear n0_; clear HS HM; have HS := Aside0.mk hs; have HM := Aside0.mk hm; clear hs hm hf hr)) | (go_at_call 36; ((with_reducible refine (close_ml told2 HS HM).mono ?_); rintro e w6 ⟨v_, rfl, hr, hs, hm, hf⟩; obtain ⟨gx, c_, rfl, hx1⟩ := one_int hr HS.out.lt; have HX := Aside0.mk hx1; clear hx1; have n0_ := Aside0.mk (Below.ft HBt.out hf hbN hrN); clear HBt; have HBt := n0_; clear n0_; clear HS HM; have HS := Aside0.mk hs; have HM := Aside0.mk hm; clear hs hm hf hr)))
  go_upto_region 7 with (first | (go_at_call 40; ((with_reducible refine (out_at 3 true ot1 HS).mono ?_); rintro e w6 ⟨rfl, hb⟩; have n0_ := Aside0.mk (below_step HBt.out hb); clear HBt; have HBt := n0_; clear n0_; have m_ := Aside0.mk (HX.out.below hb); clear HX; have HX := m_; clear m_; have m_ := Aside0.mk (HS.out.below hb); clear HS; have HS := m_; clear m_; clear hb)))
  clear HM
  go_upto_region 8 with (first | (go_at_call 36; ((with_reducible refine (close_nil told3 HS).mono ?_); rintro e w6 ⟨v_, rfl, hr, hs, hf⟩; obtain ⟨A_, c_, rfl⟩ := no_int hr; have n0_ := Aside0.mk (Below.ft HBt.out hf hbN hrN); clear HBt; have HBt := n0_; clear n0_; have m_ := Aside0.mk (HX.out.ft hf); clear HX; have HX := m_; clear m_; clear HS; have HS := Aside0.mk hs; clear hs hf hr)))
  go_upto_region 9 with (first | (go_at_call 40; ((with_reducible refine (out_at 3 true ot2 HS).mono ?_); rintro e w6 ⟨rfl, hb⟩; have n0_ := Aside0.mk (below_step HBt.out hb); clear HBt; have HBt := n0_; clear n0_; have m_ := Aside0.mk (HX.out.below hb); clear HX; have HX := m_; clear m_; have m_ := Aside0.mk (HS.out.below hb); clear HS; have HS := m_; clear m_; clear hb)))
  go_upto_region 10 with (first | (go_at_call 36; ((with_reducible refine (close_nil told4 HS).mono ?_); rintro e w6 ⟨v_, rfl, hr, hs, hf⟩; obtain ⟨A_, c_, rfl⟩ := no_int hr; have n0_ := Aside0.mk (Below.ft HBt.out hf hbN hrN); clear HBt; have HBt := n0_; clear n0_; have m_ := Aside0.mk (HX.out.ft hf); clear HX; have HX := m_; clear m_; clear HS; have HS := Aside0.mk hs; clear hs hf hr)))
  go_upto_region 11 with (first | (go_at_call 37; ((with_reducible refine (get_at 3 3 (by omega) ⟨0, 0, false⟩ g3 HS).mono ?_); rintro e w6 ⟨rfl, hb⟩; have n0_ := Aside0.mk (below_step HBt.out hb); clear HBt; have HBt := n0_; clear n0_; have m_ := Aside0.mk (HX.out.below hb); clear HX; have HX := m_; clear m_; have m_ := Aside0.mk (HS.out.below hb); clear HS; have HS := m_; clear m_; clear hb)) | ((with_reducible refine gate_dst (N := 7) rfl ?_); refine box_event ?hg (N := 7) ?hd (cs := #[.int .i64 0, .int .i64 0, .bool false]) (t := 54) ?hr ?_; (case hd => rfl); (case hg => rfl); (case hr => first | (go_simp; done) | (go_simp; rfl)); intro gb hg w5 hbox hb; have BK := Aside0.mk hbox; have HB5 := Aside0.mk hb; have hcz_0 : w5.cell? ⟨gb, 0, none⟩ = some (.int .i64 0) := (blk_cell hbox 0).trans rfl; have hfz_0 := blk_frozen hbox 0; have hcz_1 : w5.cell? ⟨gb, 1, none⟩ = some (.int .i64 0) := (blk_cell hbox 1).trans rfl; have hfz_1 := blk_frozen hbox 1; have hcz_2 : w5.cell? ⟨gb, 2, none⟩ = some (.bool false) := (blk_cell hbox 2).trans rfl; have hfz_2 := blk_frozen hbox 2; have HG := Aside0.mk hg; clear hb hbox hg))
  have hb1 := box54_put BK.out HB5.out HG.out HS.out.lt ⟨0, 0, false⟩
  clear hcz_0 hfz_0 hcz_1 hfz_1 hcz_2 hfz_2
  dsimp only at hb1
  generalize (((w5.setCell ⟨gb, 0, none⟩ (.int .i64 0)).setCell ⟨gb, 1, none⟩ (.int .i64 0)).setCell ⟨gb, 2, none⟩ (.bool false)) = WB7 at *
  have hb := hb1.1
  have HC7 := Aside0.mk hb1.2
  have n0_ := Aside0.mk (below_step HBt.out hb); clear HBt; have HBt := n0_; clear n0_; have m_ := Aside0.mk (HX.out.below hb); clear HX; have HX := m_; clear m_; have m_ := Aside0.mk (HS.out.below hb); clear HS; have HS := m_; clear m_
  clear hb hb1 BK HB5 HG
  obtain ⟨gb7, hgb7⟩ : ∃ z, z = gb := ⟨_, rfl⟩
  subst hgb7
  go_upto_region 12 with (first | (go_at_call 37; ((with_reducible refine (get_who 4 (by simp) HS).mono ?_); rintro e w6 ⟨rfl, hb⟩; have n0_ := Aside0.mk (below_step HBt.out hb); clear HBt; have HBt := n0_; clear n0_; have m_ := Aside0.mk (HX.out.below hb); clear HX; have HX := m_; clear m_; have m_ := Aside0.mk (HC7.out.below hb); clear HC7; have HC7 := m_; clear m_; have m_ := Aside0.mk (HS.out.below hb); clear HS; have HS := m_; clear m_; clear hb)) | ((with_reducible refine gate_dst (N := 9) rfl ?_); refine box_event ?hg (N := 9) ?hd (cs := #[.int .i64 0, .int .i64 0, .bool false]) (t := 54) ?hr ?_; (case hd => rfl); (case hg => rfl); (case hr => first | (go_simp; done) | (go_simp; rfl)); intro gb hg w5 hbox hb; have BK := Aside0.mk hbox; have HB5 := Aside0.mk hb; have hcz_0 : w5.cell? ⟨gb, 0, none⟩ = some (.int .i64 0) := (blk_cell hbox 0).trans rfl; have hfz_0 := blk_frozen hbox 0; have hcz_1 : w5.cell? ⟨gb, 1, none⟩ = some (.int .i64 0) := (blk_cell hbox 1).trans rfl; have hfz_1 := blk_frozen hbox 1; have hcz_2 : w5.cell? ⟨gb, 2, none⟩ = some (.bool false) := (blk_cell hbox 2).trans rfl; have hfz_2 := blk_frozen hbox 2; have HG := Aside0.mk hg; clear hb hbox hg))
  have hb1 := box54_put BK.out HB5.out HG.out HS.out.lt ⟨0, 0, false⟩
  clear hcz_0 hfz_0 hcz_1 hfz_1 hcz_2 hfz_2
  dsimp only at hb1
  generalize (((w5.setCell ⟨gb, 0, none⟩ (.int .i64 0)).setCell ⟨gb, 1, none⟩ (.int .i64 0)).setCell ⟨gb, 2, none⟩ (.bool false)) = WB9 at *
  have hb := hb1.1
  have HC9 := Aside0.mk hb1.2
  have n0_ := Aside0.mk (below_step HBt.out hb); clear HBt; have HBt := n0_; clear n0_; have m_ := Aside0.mk (HX.out.below hb); clear HX; have HX := m_; clear m_; have m_ := Aside0.mk (HC7.out.below hb); clear HC7; have HC7 := m_; clear m_; have m_ := Aside0.mk (HS.out.below hb); clear HS; have HS := m_; clear m_
  clear hb hb1 BK HB5 HG
  obtain ⟨gb9, hgb9⟩ : ∃ z, z = gb := ⟨_, rfl⟩
  subst hgb9
  have hx9 := HX.out.2
  have l0 : 0 < ([o0, o0, o0, o0] : List Std).length := by decide
  have l1 : 0 < (([o0, o0, o0, o0] : List Std).set 0 ⟨1, 0, false⟩).length := by decide
  have l2 : 4 = (([o0, o0, o0, o0] : List Std).set 0 ⟨1, 0, false⟩).length := by decide
  go_wp2_with (first | (go_at_call 40; ((with_reducible refine (out_at 3 false ot3 HS).mono ?_); rintro e w6 ⟨rfl, hb⟩; have n0_ := Aside0.mk (below_step HBt.out hb); clear HBt; have HBt := n0_; clear n0_; have m_ := Aside0.mk (HC7.out.below hb); clear HC7; have HC7 := m_; clear m_; have m_ := Aside0.mk (HS.out.below hb); clear HS; have HS := m_; clear m_; clear hb; obtain ⟨x0, x1, x2⟩ := HC7.out.cells)) | (go_at_call 40; ((with_reducible refine (out_at 9 true ot9 HS).mono ?_); rintro e w6 ⟨rfl, hb⟩; have n0_ := Aside0.mk (below_step HBt.out hb); clear HBt; have HBt := n0_; clear n0_; have m_ := Aside0.mk (HC7.out.below hb); clear HC7; have HC7 := m_; clear m_; have m_ := Aside0.mk (HS.out.below hb); clear HS; have HS := m_; clear m_; clear hb)) | (go_at_call 53; ((with_reducible refine (set_high_at 0 0 (by omega) l0 2 HS (by omega) (by omega)).mono ?_); rintro e w6 ⟨rfl, hb⟩; have n0_ := Aside0.mk (below_step HBt.out hb); clear HBt; have HBt := n0_; clear n0_; have m_ := Aside0.mk (HS.out.below hb); clear HS; have HS := m_; clear m_; clear hb)) | (go_at_call 53; ((with_reducible refine (set_ok_at 0 0 (by omega) l0 1 HS (by omega) (by omega) (by omega)).mono ?_); rintro e w6 ⟨rfl, hs, hf⟩; have n0_ := Aside0.mk (Below.ft HBt.out hf hbN hrN); clear HBt; have HBt := n0_; clear n0_; clear HS; have HS := Aside0.mk hs; clear hs hf)) | (go_at_call 53; ((with_reducible refine (set_odd_at 0 0 (by omega) l1 1 HS (by omega) (by omega) (by omega)).mono ?_); rintro e w6 ⟨rfl, hb⟩; have n0_ := Aside0.mk (below_step HBt.out hb); clear HBt; have HBt := n0_; clear n0_; have m_ := Aside0.mk (HS.out.below hb); clear HS; have HS := m_; clear m_; clear hb)) | (go_at_call 41; ((with_reducible refine (all_at 4 l2 HS).mono ?_); rintro e w6 ⟨Aa, ca, rfl, hca, hCa, hb⟩; have n0_ := Aside0.mk (below_step HBt.out hb); clear HBt; have HBt := n0_; clear n0_; clear hb)) | (go_at_call 40; ((with_reducible refine (out_nil 0 _).mono ?_); rintro e w6 ⟨rfl, hb⟩; have n0_ := Aside0.mk (below_step HBt.out hb); clear HBt; have HBt := n0_; clear n0_; clear hb)) | (go_at_call 53; ((with_reducible refine (set_nil 0 0 0 false _).mono ?_); rintro e w6 ⟨rfl, hb⟩; have n0_ := Aside0.mk (below_step HBt.out hb); clear HBt; have HBt := n0_; clear n0_; clear hb)))
  go_ret
  exact ⟨rfl, HBt.out⟩
end Go.Proofs.Ytjcjibghnpjegaa.Sc
