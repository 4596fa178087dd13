/- The walk of ScoreSteps: it answers true, whatever the strikes and the row. -/
import Derived.Test.YtjcjibghnpjegaaScTold
import Derived.Test.YtjcjibghnpjegaaScPureS
namespace Go.Proofs.Ytjcjibghnpjegaa.Sc
open Go.RowKit Go.Proofs.Ytjcjibghnpjegaa.Pr Go.Proofs.YtjcjibghnpjegaaW.PrintWords Go.Proofs.YtjcjibghnpjegaaW.PrintLast Go.Proofs.YtjcjibghnpjegaaW.PrintMore
attribute [local go_sem high] eqA54
set_option linter.unusedVariables false
set_option linter.unusedSimpArgs false
attribute [local go_sem] max2_int max_two
set_option maxHeartbeats 8000000 in
set_option maxRecDepth 100000 in
theorem steps_calls (x : Int) (A : Option Addr) (c : Nat) (l : List Int) (w : World) (hr : Kd.C (Kd.int .i64) w A l.length l) (hc : l.length ≤ c) : Calls Try.prog 15 #[.int .i64 x, .slice A l.length c] w fun e w' => e = .returned (.bool true) ∧ Below w.heap.size w w' := by
  have HR := Aside0.mk hr
  clear hr
  have HBt := Aside0.mk (Below.refl w.heap.size w)
  obtain ⟨nK, eK, hK1, hK2⟩ := one_plus x 2 19 (by omega) (by omega)
  obtain ⟨K, hKK⟩ : ∃ K : Int, K = (nK : Int) := ⟨_, rfl⟩
  rw [← hKK] at eK hK1 hK2
  clear hKK
  go_enter Try.func15, Try.ntmps15
  go_upto_region 2 with (fail)
  rw [eK]
  clear eK
  go_upto_region 5 with (first | (go_at_call 35; ((with_reducible refine (new_at (4 : Int) 4 (by omega) K 50 10 _ (by omega) (by omega) (by omega) (by omega)).mono ?_); rintro e w6 ⟨b, r, rfl, hsc, hgb, hgr, hb⟩; have HS := Aside0.mk hsc; have n0_ := Aside0.mk (below_step HBt.out hb); have hbN : w.heap.size ≤ b := (by have := below_size HBt.out; omega); have hrN : w.heap.size ≤ r := (by have := below_size HBt.out; omega); clear HBt; have HBt := n0_; clear n0_ hsc hb hgb hgr)))
  have HS1 : Aside0 (Sc w6 b r K 50 10 [o0, o0, o0, ⟨0, 0, false⟩]) := ⟨HS.out⟩
  clear HS
  go_wp2
  go_loopg [7, 8] 40 (fun kq v7 v8 wr => ∃ (i : Nat) (N : Int), v7 = .int .i64 N ∧ v8 = .int .i64 (i : Int) ∧ Aside0 (kq + i = 40) ∧ Aside0 (0 ≤ N ∧ N < K) ∧ Aside0 (Sc wr b r K 50 10 [o0, o0, o0, ⟨N, 0, false⟩]) ∧ Aside0 (Below w.heap.size w wr))
  case atStart => exact ⟨0, 0, rfl, rfl, ⟨by omega⟩, ⟨by omega⟩, HS1, HBt⟩
  case round =>
    clear HS1 HBt
    obtain ⟨i, N, rfl, rfl, HK, HN, HS, HBt⟩ := hrel
    by_cases h1 : (i : Int) < (l.length : Int)
    · have d1 : decide ((i : Int) < (l.length : Int)) = true := decide_eq_true h1
      by_cases h2 : (i : Int) < 40
      · have d2 : decide ((i : Int) < 40) = true := decide_eq_true h2
        have hN := HN.out
        obtain ⟨adl, el, hxl⟩ := Kd.at_int HR.out (i : Int) (by omega) h1
        subst el
        have XL := Aside0.mk hxl
        clear hxl
        go_upto_region 10 with (first | ((with_reducible refine gate_dst (N := 32) rfl ?_); refine Kd.R_lit (Kd.int .i64) _ 2 ?hg (N := 32) ?hd (xs := ([100, 100, 100, 100] : List Int)) (inner := [.int .i64 100, .int .i64 100, .int .i64 100, .int .i64 100]) (ok := fun _ => True) (okp := fun _ => True) ?hr ?hp (fun _ hk => hk) trivial (Below.refl _ _) (Nat.le_refl _) (by simp) ?_; (case hd => rfl); (case hg => rfl); (case hr => first | (go_simp; done) | (go_simp; rfl)); (case hp => exact (Reps.one (show Kd.M (Kd.int .i64) _ _ _ 100 [.int .i64 100] from rfl) (Reps.one (show Kd.M (Kd.int .i64) _ _ _ 100 [.int .i64 100] from rfl) (Reps.one (show Kd.M (Kd.int .i64) _ _ _ 100 [.int .i64 100] from rfl) (Reps.one (show Kd.M (Kd.int .i64) _ _ _ 100 [.int .i64 100] from rfl) (Reps.none _ _)))))); intro vL wL hoL hbL hgL hnL; clear hgL hnL; obtain ⟨AL, cL, rfl, hcL, hCL⟩ := Kd.R_reads hoL; have HCL := Aside0.mk hCL; have n0_ := Aside0.mk (below_step HBt.out hbL); have HS' := Aside0.mk (HS.out.below hbL); clear HBt HS; have HBt := n0_; have HS := HS'; clear n0_ HS' hoL hbL hCL) | (go_at_call 39; ((with_reducible refine (of_at 5 4 AL cL 4 [100, 100, 100, 100] xsF (by decide) (by decide) _ HCL hcL ofF (by decide)).mono ?_); rintro e wO ⟨g, cO, rfl, hcO, hgO, hltO, hswO, hbO⟩; have hszO := below_size HBt.out; have n0_ := Aside0.mk (below_step HBt.out hbO); have HS' := Aside0.mk (HS.out.below hbO); have hgbr : g ≠ b ∧ g ≠ r := (by have := HS.out.lt; omega); have HSW := Aside0.mk hswO; have hgw : w.heap.size ≤ g := (by omega); have hcX : xsF.length ≤ cO := hcO; clear HBt HS HCL; have HBt := n0_; have HS := HS'; clear n0_ HS' hbO hswO hgO hszO)))
        have hxl := (HBt.out.cell (World.block_lt_of_cell? w _ XL.out)).trans XL.out
        rw [Int.toNat_natCast] at hxl
        clear hcL hcO
        obtain ⟨Q, hQ⟩ : ∃ Q, (IntKind.u64.wrap (rd l (i : Int))).tmod 3 = Q := ⟨_, rfl⟩
        have hQr := small (rd l (i : Int)) 3 (by omega)
        rw [hQ] at hQr
        have hQ3 : Q = 0 ∨ Q = 1 ∨ Q = 2 := by omega
        rcases hQ3 with h0 | h0 | h0
        · subst h0
          have hw : wrap64 (N + 1) = N + 1 := w64' (by omega)
          have HSP := HS
          have q15 : wO.cell? ⟨g, 15, none⟩ = some (.int .i64 100) := (HSW.out.1 3 (smp 3 100) rfl).2.2.2
          have z15 : wO.frozen? ⟨g, 15, none⟩ = false := HSW.out.2 15
          go_upto_region 14 with (fail)
          have hsw : SW (wO.setCell ⟨g, 15, none⟩ (.int .i64 111)) g xs111 := HSW.out.set3 (i := 3) (s := smp 3 100) rfl 111
          have hss : Sc (wO.setCell ⟨g, 15, none⟩ (.int .i64 111)) b r K 50 10 [o0, o0, o0, ⟨N, 0, false⟩] := HS.out.ft (Ft.set (S := fun k => k = g) (Ft.refl _ wO) rfl (.int .i64 111)) (by omega) (by omega)
          have hbb : Below w.heap.size w (wO.setCell ⟨g, 15, none⟩ (.int .i64 111)) := below_set HBt.out hgw
          have hlt2 : g < (wO.setCell ⟨g, 15, none⟩ (.int .i64 111)).heap.size := by simpa using hltO
          clear q15 z15 HSW HS HBt hltO
          have HSW := Aside0.mk hsw
          have HS := Aside0.mk hss
          have HBt := Aside0.mk hbb
          have hltO := hlt2
          clear hsw hss hbb hlt2
          generalize wO.setCell ⟨g, 15, none⟩ (.int .i64 111) = WB at *
          by_cases hK : K ≤ N + 1
          · have dK : decide (K ≤ N + 1) = true := decide_eq_true hK
            have law := step0a K N (by omega)
            have LAW := Aside0.mk law
            clear law
            have g3 : ([o0, o0, o0, ⟨0, 0, true⟩] : List Std)[3]? = some ⟨0, 0, true⟩ := rfl
            go_upto_region 19 with (first | (go_at_call 36; ((with_reducible refine (close_ml LAW.out ⟨HS.out.below (below_alloc (Below.refl _ _) _)⟩ ⟨ML.made (m := 4) (xs := xs111) (by decide) HSW.out hltO hgbr HS.out.lt hcX ok111⟩).mono ?_); rintro e w6 ⟨v_, rfl, hr, hs, hm, hf⟩; obtain ⟨gx, c_, rfl, hx1⟩ := one_int hr (HS.out.below (below_alloc (Below.refl _ _) _)).lt; have n0_ := Aside0.mk (Below.ft (below_alloc HBt.out _) hf hbN hrN); clear HBt; have HBt := n0_; clear n0_; clear HS; have HS := Aside0.mk hs; clear hs hm hf hr)))
            clear HSW hltO hgbr hcX
            go_upto_region 20 with (first | (go_at_call 37; ((with_reducible refine (get_at 3 3 (by omega) ⟨0, 0, true⟩ g3 HS).mono ?_); rintro e w6 ⟨rfl, hb⟩; have n0_ := Aside0.mk (below_step HBt.out hb); clear HBt; have HBt := n0_; clear n0_; have m_ := Aside0.mk (HS.out.below hb); clear HS; have HS := m_; clear m_; clear hb)) | ((with_reducible refine gate_dst (N := 11) rfl ?_); refine box_event ?hg (N := 11) ?hd (cs := #[.int .i64 0, .int .i64 0, .bool false]) (t := 54) ?hr ?_; (case hd => rfl); (case hg => rfl); (case hr => first | (go_simp; done) | (go_simp; rfl)); intro gb hg w5 hbox hb; have BK := Aside0.mk hbox; have HB5 := Aside0.mk hb; have hcz_0 : w5.cell? ⟨gb, 0, none⟩ = some (.int .i64 0) := (blk_cell hbox 0).trans rfl; have hfz_0 := blk_frozen hbox 0; have hcz_1 : w5.cell? ⟨gb, 1, none⟩ = some (.int .i64 0) := (blk_cell hbox 1).trans rfl; have hfz_1 := blk_frozen hbox 1; have hcz_2 : w5.cell? ⟨gb, 2, none⟩ = some (.bool false) := (blk_cell hbox 2).trans rfl; have hfz_2 := blk_frozen hbox 2; have HG := Aside0.mk hg; clear hb hbox hg))
            have hb1 := box54_put BK.out HB5.out HG.out HS.out.lt ⟨0, 0, true⟩
            clear hcz_0 hfz_0 hcz_1 hfz_1 hcz_2 hfz_2
            dsimp only at hb1
            generalize (((w5.setCell ⟨gb, 0, none⟩ (.int .i64 0)).setCell ⟨gb, 1, none⟩ (.int .i64 0)).setCell ⟨gb, 2, none⟩ (.bool true)) = WB7 at *
            have hb := hb1.1
            have HC7 := Aside0.mk hb1.2
            have n0_ := Aside0.mk (below_step HBt.out hb); clear HBt; have HBt := n0_; clear n0_; have m_ := Aside0.mk (HS.out.below hb); clear HS; have HS := m_; clear m_
            clear hb hb1 BK HB5 HG
            obtain ⟨gb7, hgb7⟩ : ∃ z, z = gb := ⟨_, rfl⟩
            subst hgb7
            obtain ⟨x0, x1, x2⟩ := HC7.out.cells
            dsimp only at x0 x1 x2
            go_wp2_with (first | (go_at_call 38; ((with_reducible refine (told_calls _).mono ?_); rintro e w6 ⟨rfl, hb⟩; have n0_ := Aside0.mk (below_step HBt.out hb); clear HBt; have HBt := n0_; clear n0_; clear hb)))
            go_ret
            exact ⟨rfl, HBt.out⟩
          · have dK : decide (K ≤ N + 1) = false := decide_eq_false hK
            have law := step0b K N (by omega)
            have LAW := Aside0.mk law
            clear law
            have HN := Aside0.mk (show 0 ≤ N + 1 ∧ N + 1 < K by omega)
            have g3 : ([o0, o0, o0, ⟨(N + 1), 0, false⟩] : List Std)[3]? = some ⟨(N + 1), 0, false⟩ := rfl
            go_upto_region 19 with (first | (go_at_call 36; ((with_reducible refine (close_ml LAW.out ⟨HS.out.below (below_alloc (Below.refl _ _) _)⟩ ⟨ML.made (m := 4) (xs := xs111) (by decide) HSW.out hltO hgbr HS.out.lt hcX ok111⟩).mono ?_); rintro e w6 ⟨v_, rfl, hr, hs, hm, hf⟩; obtain ⟨A_, c_, rfl⟩ := no_int hr; have n0_ := Aside0.mk (Below.ft (below_alloc HBt.out _) hf hbN hrN); clear HBt; have HBt := n0_; clear n0_; clear HS; have HS := Aside0.mk hs; clear hs hm hf hr)))
            clear HSW hltO hgbr hcX
            go_upto_region 20 with (first | (go_at_call 37; ((with_reducible refine (get_at 3 3 (by omega) ⟨(N + 1), 0, false⟩ g3 HS).mono ?_); rintro e w6 ⟨rfl, hb⟩; have n0_ := Aside0.mk (below_step HBt.out hb); clear HBt; have HBt := n0_; clear n0_; have m_ := Aside0.mk (HS.out.below hb); clear HS; have HS := m_; clear m_; clear hb)) | ((with_reducible refine gate_dst (N := 11) rfl ?_); refine box_event ?hg (N := 11) ?hd (cs := #[.int .i64 0, .int .i64 0, .bool false]) (t := 54) ?hr ?_; (case hd => rfl); (case hg => rfl); (case hr => first | (go_simp; done) | (go_simp; rfl)); intro gb hg w5 hbox hb; have BK := Aside0.mk hbox; have HB5 := Aside0.mk hb; have hcz_0 : w5.cell? ⟨gb, 0, none⟩ = some (.int .i64 0) := (blk_cell hbox 0).trans rfl; have hfz_0 := blk_frozen hbox 0; have hcz_1 : w5.cell? ⟨gb, 1, none⟩ = some (.int .i64 0) := (blk_cell hbox 1).trans rfl; have hfz_1 := blk_frozen hbox 1; have hcz_2 : w5.cell? ⟨gb, 2, none⟩ = some (.bool false) := (blk_cell hbox 2).trans rfl; have hfz_2 := blk_frozen hbox 2; have HG := Aside0.mk hg; clear hb hbox hg))
            have hb1 := box54_put BK.out HB5.out HG.out HS.out.lt ⟨(N + 1), 0, false⟩
            clear hcz_0 hfz_0 hcz_1 hfz_1 hcz_2 hfz_2
            dsimp only at hb1
            generalize (((w5.setCell ⟨gb, 0, none⟩ (.int .i64 (N + 1))).setCell ⟨gb, 1, none⟩ (.int .i64 0)).setCell ⟨gb, 2, none⟩ (.bool false)) = WB7 at *
            have hb := hb1.1
            have HC7 := Aside0.mk hb1.2
            have n0_ := Aside0.mk (below_step HBt.out hb); clear HBt; have HBt := n0_; clear n0_; have m_ := Aside0.mk (HS.out.below hb); clear HS; have HS := m_; clear m_
            clear hb hb1 BK HB5 HG
            obtain ⟨gb7, hgb7⟩ : ∃ z, z = gb := ⟨_, rfl⟩
            subst hgb7
            obtain ⟨x0, x1, x2⟩ := HC7.out.cells
            dsimp only at x0 x1 x2
            go_wp2
            go_roundg (gk - 1)
            case measure => have := HK.out; omega
            case rel => exact ⟨i + 1, N + 1, (by first | rfl | (simp; done) | (congr 1; unfold wrap64; omega)), (by first | rfl | (simp; done) | (congr 1; unfold wrap64; omega)), ⟨by have := HK.out; have := HN.out; omega⟩, ⟨by have := HN.out; omega⟩, HS, HBt⟩
        · subst h0
          have hw : wrap64 (N - 1) = N - 1 := w64' (by omega)
          by_cases hz : N - 1 < 0
          · have law := step1 K N (by omega)
            rw [show max (N - 1) 0 = (0 : Int) by omega] at law
            have LAW := Aside0.mk law
            clear law
            have HSP := HS
            have q15 : wO.cell? ⟨g, 15, none⟩ = some (.int .i64 100) := (HSW.out.1 3 (smp 3 100) rfl).2.2.2
            have z15 : wO.frozen? ⟨g, 15, none⟩ = false := HSW.out.2 15
            go_upto_region 17 with (fail)
            have hsw : SW (wO.setCell ⟨g, 15, none⟩ (.int .i64 110)) g xs110 := HSW.out.set3 (i := 3) (s := smp 3 100) rfl 110
            have hss : Sc (wO.setCell ⟨g, 15, none⟩ (.int .i64 110)) b r K 50 10 [o0, o0, o0, ⟨N, 0, false⟩] := HS.out.ft (Ft.set (S := fun k => k = g) (Ft.refl _ wO) rfl (.int .i64 110)) (by omega) (by omega)
            have hbb : Below w.heap.size w (wO.setCell ⟨g, 15, none⟩ (.int .i64 110)) := below_set HBt.out hgw
            have hlt2 : g < (wO.setCell ⟨g, 15, none⟩ (.int .i64 110)).heap.size := by simpa using hltO
            clear q15 z15 HSW HS HBt hltO
            have HSW := Aside0.mk hsw
            have HS := Aside0.mk hss
            have HBt := Aside0.mk hbb
            have hltO := hlt2
            clear hsw hss hbb hlt2
            generalize wO.setCell ⟨g, 15, none⟩ (.int .i64 110) = WB at *
            have dK : decide (K ≤ (0 : Int)) = false := decide_eq_false (by omega)
            have HN := Aside0.mk (show 0 ≤ (0 : Int) ∧ (0 : Int) < K by omega)
            have g3 : ([o0, o0, o0, ⟨(0 : Int), 0, false⟩] : List Std)[3]? = some ⟨(0 : Int), 0, false⟩ := rfl
            go_upto_region 19 with (first | (go_at_call 36; ((with_reducible refine (close_ml LAW.out ⟨HS.out.below (below_alloc (Below.refl _ _) _)⟩ ⟨ML.made (m := 4) (xs := xs110) (by decide) HSW.out hltO hgbr HS.out.lt hcX ok110⟩).mono ?_); rintro e w6 ⟨v_, rfl, hr, hs, hm, hf⟩; obtain ⟨A_, c_, rfl⟩ := no_int hr; have n0_ := Aside0.mk (Below.ft (below_alloc HBt.out _) hf hbN hrN); clear HBt; have HBt := n0_; clear n0_; clear HS; have HS := Aside0.mk hs; clear hs hm hf hr)))
            clear HSW hltO hgbr hcX
            go_upto_region 20 with (first | (go_at_call 37; ((with_reducible refine (get_at 3 3 (by omega) ⟨(0 : Int), 0, false⟩ g3 HS).mono ?_); rintro e w6 ⟨rfl, hb⟩; have n0_ := Aside0.mk (below_step HBt.out hb); clear HBt; have HBt := n0_; clear n0_; have m_ := Aside0.mk (HS.out.below hb); clear HS; have HS := m_; clear m_; clear hb)) | ((with_reducible refine gate_dst (N := 11) rfl ?_); refine box_event ?hg (N := 11) ?hd (cs := #[.int .i64 0, .int .i64 0, .bool false]) (t := 54) ?hr ?_; (case hd => rfl); (case hg => rfl); (case hr => first | (go_simp; done) | (go_simp; rfl)); intro gb hg w5 hbox hb; have BK := Aside0.mk hbox; have HB5 := Aside0.mk hb; have hcz_0 : w5.cell? ⟨gb, 0, none⟩ = some (.int .i64 0) := (blk_cell hbox 0).trans rfl; have hfz_0 := blk_frozen hbox 0; have hcz_1 : w5.cell? ⟨gb, 1, none⟩ = some (.int .i64 0) := (blk_cell hbox 1).trans rfl; have hfz_1 := blk_frozen hbox 1; have hcz_2 : w5.cell? ⟨gb, 2, none⟩ = some (.bool false) := (blk_cell hbox 2).trans rfl; have hfz_2 := blk_frozen hbox 2; have HG := Aside0.mk hg; clear hb hbox hg))
            have hb1 := box54_put BK.out HB5.out HG.out HS.out.lt ⟨(0 : Int), 0, false⟩
            clear hcz_0 hfz_0 hcz_1 hfz_1 hcz_2 hfz_2
            dsimp only at hb1
            generalize (((w5.setCell ⟨gb, 0, none⟩ (.int .i64 (0 : Int))).setCell ⟨gb, 1, none⟩ (.int .i64 0)).setCell ⟨gb, 2, none⟩ (.bool false)) = WB7 at *
            have hb := hb1.1
            have HC7 := Aside0.mk hb1.2
            have n0_ := Aside0.mk (below_step HBt.out hb); clear HBt; have HBt := n0_; clear n0_; have m_ := Aside0.mk (HS.out.below hb); clear HS; have HS := m_; clear m_
            clear hb hb1 BK HB5 HG
            obtain ⟨gb7, hgb7⟩ : ∃ z, z = gb := ⟨_, rfl⟩
            subst hgb7
            obtain ⟨x0, x1, x2⟩ := HC7.out.cells
            dsimp only at x0 x1 x2
            go_wp2
            go_roundg (gk - 1)
            case measure => have := HK.out; omega
            case rel => exact ⟨i + 1, (0 : Int), (by first | rfl | (simp; done) | (congr 1; unfold wrap64; omega)), (by first | rfl | (simp; done) | (congr 1; unfold wrap64; omega)), ⟨by have := HK.out; have := HN.out; omega⟩, ⟨by have := HN.out; omega⟩, HS, HBt⟩
          · have law := step1 K N (by omega)
            rw [show max (N - 1) 0 = (N - 1) by omega] at law
            have LAW := Aside0.mk law
            clear law
            have HSP := HS
            have q15 : wO.cell? ⟨g, 15, none⟩ = some (.int .i64 100) := (HSW.out.1 3 (smp 3 100) rfl).2.2.2
            have z15 : wO.frozen? ⟨g, 15, none⟩ = false := HSW.out.2 15
            go_upto_region 17 with (fail)
            have hsw : SW (wO.setCell ⟨g, 15, none⟩ (.int .i64 110)) g xs110 := HSW.out.set3 (i := 3) (s := smp 3 100) rfl 110
            have hss : Sc (wO.setCell ⟨g, 15, none⟩ (.int .i64 110)) b r K 50 10 [o0, o0, o0, ⟨N, 0, false⟩] := HS.out.ft (Ft.set (S := fun k => k = g) (Ft.refl _ wO) rfl (.int .i64 110)) (by omega) (by omega)
            have hbb : Below w.heap.size w (wO.setCell ⟨g, 15, none⟩ (.int .i64 110)) := below_set HBt.out hgw
            have hlt2 : g < (wO.setCell ⟨g, 15, none⟩ (.int .i64 110)).heap.size := by simpa using hltO
            clear q15 z15 HSW HS HBt hltO
            have HSW := Aside0.mk hsw
            have HS := Aside0.mk hss
            have HBt := Aside0.mk hbb
            have hltO := hlt2
            clear hsw hss hbb hlt2
            generalize wO.setCell ⟨g, 15, none⟩ (.int .i64 110) = WB at *
            have dK : decide (K ≤ (N - 1)) = false := decide_eq_false (by omega)
            have HN := Aside0.mk (show 0 ≤ (N - 1) ∧ (N - 1) < K by omega)
            have g3 : ([o0, o0, o0, ⟨(N - 1), 0, false⟩] : List Std)[3]? = some ⟨(N - 1), 0, false⟩ := rfl
            go_upto_region 19 with (first | (go_at_call 36; ((with_reducible refine (close_ml LAW.out ⟨HS.out.below (below_alloc (Below.refl _ _) _)⟩ ⟨ML.made (m := 4) (xs := xs110) (by decide) HSW.out hltO hgbr HS.out.lt hcX ok110⟩).mono ?_); rintro e w6 ⟨v_, rfl, hr, hs, hm, hf⟩; obtain ⟨A_, c_, rfl⟩ := no_int hr; have n0_ := Aside0.mk (Below.ft (below_alloc HBt.out _) hf hbN hrN); clear HBt; have HBt := n0_; clear n0_; clear HS; have HS := Aside0.mk hs; clear hs hm hf hr)))
            clear HSW hltO hgbr hcX
            go_upto_region 20 with (first | (go_at_call 37; ((with_reducible refine (get_at 3 3 (by omega) ⟨(N - 1), 0, false⟩ g3 HS).mono ?_); rintro e w6 ⟨rfl, hb⟩; have n0_ := Aside0.mk (below_step HBt.out hb); clear HBt; have HBt := n0_; clear n0_; have m_ := Aside0.mk (HS.out.below hb); clear HS; have HS := m_; clear m_; clear hb)) | ((with_reducible refine gate_dst (N := 11) rfl ?_); refine box_event ?hg (N := 11) ?hd (cs := #[.int .i64 0, .int .i64 0, .bool false]) (t := 54) ?hr ?_; (case hd => rfl); (case hg => rfl); (case hr => first | (go_simp; done) | (go_simp; rfl)); intro gb hg w5 hbox hb; have BK := Aside0.mk hbox; have HB5 := Aside0.mk hb; have hcz_0 : w5.cell? ⟨gb, 0, none⟩ = some (.int .i64 0) := (blk_cell hbox 0).trans rfl; have hfz_0 := blk_frozen hbox 0; have hcz_1 : w5.cell? ⟨gb, 1, none⟩ = some (.int .i64 0) := (blk_cell hbox 1).trans rfl; have hfz_1 := blk_frozen hbox 1; have hcz_2 : w5.cell? ⟨gb, 2, none⟩ = some (.bool false) := (blk_cell hbox 2).trans rfl; have hfz_2 := blk_frozen hbox 2; have HG := Aside0.mk hg; clear hb hbox hg))
            have hb1 := box54_put BK.out HB5.out HG.out HS.out.lt ⟨(N - 1), 0, false⟩
            clear hcz_0 hfz_0 hcz_1 hfz_1 hcz_2 hfz_2
            dsimp only at hb1
            generalize (((w5.setCell ⟨gb, 0, none⟩ (.int .i64 (N - 1))).setCell ⟨gb, 1, none⟩ (.int .i64 0)).setCell ⟨gb, 2, none⟩ (.bool false)) = WB7 at *
            have hb := hb1.1
            have HC7 := Aside0.mk hb1.2
            have n0_ := Aside0.mk (below_step HBt.out hb); clear HBt; have HBt := n0_; clear n0_; have m_ := Aside0.mk (HS.out.below hb); clear HS; have HS := m_; clear m_
            clear hb hb1 BK HB5 HG
            obtain ⟨gb7, hgb7⟩ : ∃ z, z = gb := ⟨_, rfl⟩
            subst hgb7
            obtain ⟨x0, x1, x2⟩ := HC7.out.cells
            dsimp only at x0 x1 x2
            go_wp2
            go_roundg (gk - 1)
            case measure => have := HK.out; omega
            case rel => exact ⟨i + 1, (N - 1), (by first | rfl | (simp; done) | (congr 1; unfold wrap64; omega)), (by first | rfl | (simp; done) | (congr 1; unfold wrap64; omega)), ⟨by have := HK.out; have := HN.out; omega⟩, ⟨by have := HN.out; omega⟩, HS, HBt⟩
        · subst h0
          have hN := HN.out
          have dK : decide (K ≤ N) = false := decide_eq_false (by omega)
          have LAW := Aside0.mk (step2 K N)
          have c2 : ∀ W : World, (Instr.slice 47 (.slice (some ⟨g, 0, none⟩) 4 cO) none (some (.int .i64 3)) none).run Try.prog W = .ok (.slice (some ⟨g, 0, none⟩) 3 cO) W := fun W => cut_h49 W g 4 cO 3 (by omega) hcX
          have hsw : SW wO g xsN := ⟨HSW.out.1.take 3, HSW.out.2⟩
          have hcN : xsN.length ≤ cO := Nat.le_trans (by decide) hcX
          clear HSW hcX
          have HSW := Aside0.mk hsw
          have hcX := hcN
          clear hsw hcN
          have g3 : ([o0, o0, o0, ⟨N, 0, false⟩] : List Std)[3]? = some ⟨N, 0, false⟩ := rfl
          go_upto_region 19 with (first | (go_at_call 36; ((with_reducible refine (close_ml LAW.out ⟨HS.out.below (below_alloc (Below.refl _ _) _)⟩ ⟨ML.made (m := 3) (xs := xsN) (by decide) HSW.out hltO hgbr HS.out.lt hcX okN⟩).mono ?_); rintro e w6 ⟨v_, rfl, hr, hs, hm, hf⟩; obtain ⟨A_, c_, rfl⟩ := no_int hr; have n0_ := Aside0.mk (Below.ft (below_alloc HBt.out _) hf hbN hrN); clear HBt; have HBt := n0_; clear n0_; clear HS; have HS := Aside0.mk hs; clear hs hm hf hr)))
          clear HSW hltO hgbr hcX
          go_upto_region 20 with (first | (go_at_call 37; ((with_reducible refine (get_at 3 3 (by omega) ⟨N, 0, false⟩ g3 HS).mono ?_); rintro e w6 ⟨rfl, hb⟩; have n0_ := Aside0.mk (below_step HBt.out hb); clear HBt; have HBt := n0_; clear n0_; have m_ := Aside0.mk (HS.out.below hb); clear HS; have HS := m_; clear m_; clear hb)) | ((with_reducible refine gate_dst (N := 11) rfl ?_); refine box_event ?hg (N := 11) ?hd (cs := #[.int .i64 0, .int .i64 0, .bool false]) (t := 54) ?hr ?_; (case hd => rfl); (case hg => rfl); (case hr => first | (go_simp; done) | (go_simp; rfl)); intro gb hg w5 hbox hb; have BK := Aside0.mk hbox; have HB5 := Aside0.mk hb; have hcz_0 : w5.cell? ⟨gb, 0, none⟩ = some (.int .i64 0) := (blk_cell hbox 0).trans rfl; have hfz_0 := blk_frozen hbox 0; have hcz_1 : w5.cell? ⟨gb, 1, none⟩ = some (.int .i64 0) := (blk_cell hbox 1).trans rfl; have hfz_1 := blk_frozen hbox 1; have hcz_2 : w5.cell? ⟨gb, 2, none⟩ = some (.bool false) := (blk_cell hbox 2).trans rfl; have hfz_2 := blk_frozen hbox 2; have HG := Aside0.mk hg; clear hb hbox hg))
          have hb1 := box54_put BK.out HB5.out HG.out HS.out.lt ⟨N, 0, false⟩
          clear hcz_0 hfz_0 hcz_1 hfz_1 hcz_2 hfz_2
          dsimp only at hb1
          generalize (((w5.setCell ⟨gb, 0, none⟩ (.int .i64 N)).setCell ⟨gb, 1, none⟩ (.int .i64 0)).setCell ⟨gb, 2, none⟩ (.bool false)) = WB7 at *
          have hb := hb1.1
          have HC7 := Aside0.mk hb1.2
          have n0_ := Aside0.mk (below_step HBt.out hb); clear HBt; have HBt := n0_; clear n0_; have m_ := Aside0.mk (HS.out.below hb); clear HS; have HS := m_; clear m_
          clear hb hb1 BK HB5 HG
          obtain ⟨gb7, hgb7⟩ : ∃ z, z = gb := ⟨_, rfl⟩
          subst hgb7
          obtain ⟨x0, x1, x2⟩ := HC7.out.cells
          dsimp only at x0 x1 x2
          go_wp2
          go_roundg (gk - 1)
          case measure => have := HK.out; omega
          case rel => exact ⟨i + 1, N, (by first | rfl | (simp; done) | (congr 1; unfold wrap64; omega)), (by first | rfl | (simp; done) | (congr 1; unfold wrap64; omega)), ⟨by have := HK.out; have := HN.out; omega⟩, ⟨by have := HN.out; omega⟩, HS, HBt⟩
      · have d2 : decide ((i : Int) < 40) = false := decide_eq_false h2
        clear HR
        go_wp2_with (first | (go_at_call 38; ((with_reducible refine (told_calls _).mono ?_); rintro e w6 ⟨rfl, hb⟩; have n0_ := Aside0.mk (below_step HBt.out hb); clear HBt; have HBt := n0_; clear n0_; clear hb)))
        go_ret
        exact ⟨rfl, HBt.out⟩
    · have d1 : decide ((i : Int) < (l.length : Int)) = false := decide_eq_false h1
      clear HR
      go_wp2_with (first | (go_at_call 38; ((with_reducible refine (told_calls _).mono ?_); rintro e w6 ⟨rfl, hb⟩; have n0_ := Aside0.mk (below_step HBt.out hb); clear HBt; have HBt := n0_; clear n0_; clear hb)))
      go_ret
      exact ⟨rfl, HBt.out⟩
end Go.Proofs.Ytjcjibghnpjegaa.Sc
