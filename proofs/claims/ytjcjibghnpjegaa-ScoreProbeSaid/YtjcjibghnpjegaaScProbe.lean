/- The walk of ScoreProbe: it answers true, whatever the strikes and the probe. -/
import Derived.Test.YtjcjibghnpjegaaScTold
import Derived.Test.YtjcjibghnpjegaaScPureP
namespace Go.Proofs.Ytjcjibghnpjegaa.Sc
open Go.RowKit Go.Proofs.Ytjcjibghnpjegaa.Pr Go.Proofs.YtjcjibghnpjegaaW.PrintWords Go.Proofs.YtjcjibghnpjegaaW.PrintLast Go.Proofs.YtjcjibghnpjegaaW.PrintMore
attribute [local go_sem high] eqA54
set_option linter.unusedVariables false
set_option linter.unusedSimpArgs false
set_option maxHeartbeats 4000000 in
set_option maxRecDepth 100000 in
theorem probe_calls (x y : Int) (w : World) : Calls Try.prog 14 #[.int .i64 x, .int .i64 y] w fun e w' => e = .returned (.bool true) ∧ Below w.heap.size w w' := by
  have HB := Aside0.mk (Below.refl w.heap.size w)
  obtain ⟨nA, eA, hA1, hA2⟩ := one_plus x 1 5 (by omega) (by omega)
  obtain ⟨nB, eB, hB1, hB2⟩ := one_plus y 1 20 (by omega) (by omega)
  obtain ⟨A, hAA⟩ : ∃ A : Int, A = (nA : Int) := ⟨_, rfl⟩
  obtain ⟨Bb, hBB⟩ : ∃ B : Int, B = (nB : Int) := ⟨_, rfl⟩
  rw [← hAA] at eA hA1 hA2
  rw [← hBB] at eB hB1 hB2
  go_enter Try.func14, Try.ntmps14
  go_upto_region 2 with (fail)
  rw [eA, eB]
  have HEA := Aside0.mk hAA
  have HEB := Aside0.mk hBB
  clear eA eB hAA hBB
  go_upto_region 5 with (first | (go_at_call 35; ((with_reducible refine (new_at (3 : Int) 3 (by omega) A Bb 5 _ (by omega) (by omega) (by omega) (by omega)).mono ?_); rintro e w6 ⟨b, r, rfl, hsc, hgb, hgr, hb⟩; have HS := Aside0.mk hsc; have n0_ := Aside0.mk (below_step HB.out hb); have hbN : w.heap.size ≤ b := (by have := below_size HB.out; omega); have hrN : w.heap.size ≤ r := (by have := below_size HB.out; omega); clear HB; have HB := n0_; clear n0_ hsc hb hgb hgr)))
  go_upto_region 6 with (first | ((with_reducible refine gate_dst (N := 29) rfl ?_); refine Kd.R_lit (Kd.int .i64) _ 2 ?hg (N := 29) ?hd (xs := ([100, 100, 500] : List Int)) (inner := [.int .i64 100, .int .i64 100, .int .i64 500]) (ok := fun _ => True) (okp := fun _ => True) ?hr ?hp (fun _ hk => hk) trivial (Below.refl _ _) (Nat.le_refl _) (by simp) ?_; (case hd => rfl); (case hg => rfl); (case hr => first | (go_simp; done) | (go_simp; rfl)); (case hp => exact (Reps.one (show Kd.M (Kd.int .i64) _ _ _ 100 [.int .i64 100] from rfl) (Reps.one (show Kd.M (Kd.int .i64) _ _ _ 100 [.int .i64 100] from rfl) (Reps.one (show Kd.M (Kd.int .i64) _ _ _ 500 [.int .i64 500] from rfl) (Reps.none _ _))))); intro vL wL hoL hbL hgL hnL; clear hgL hnL; obtain ⟨AL, cL, rfl, hcL, hCL⟩ := Kd.R_reads hoL; have HCL := Aside0.mk hCL; have n0_ := Aside0.mk (below_step HB.out hbL); have HS' := Aside0.mk (HS.out.below hbL); clear HB HS; have HB := n0_; have HS := HS'; clear n0_ HS' hoL hbL hCL) | (go_at_call 39; ((with_reducible refine (of_at 4 3 AL cL 3 [100, 100, 500] xsP (by decide) (by decide) _ HCL hcL ofP (by decide)).mono ?_); rintro e wO ⟨g, cO, rfl, hcO, hgO, hltO, hswO, hbO⟩; have hszO := below_size HB.out; have n0_ := Aside0.mk (below_step HB.out hbO); have HS' := Aside0.mk (HS.out.below hbO); have hgbr : g ≠ b ∧ g ≠ r := (by have := HS.out.lt; omega); have HSW := Aside0.mk hswO; clear HB HS HCL; have HB := n0_; have HS := HS'; clear n0_ HS' hbO hswO hgO hszO)))
  have HM : Aside0 (ML (wO.alloc (.cells #[.slice (some ⟨g, 0, none⟩) 3 cO] 47)) b r wO.heap.size g cO xsP) := ⟨ML.made (by decide) HSW.out hltO hgbr HS.out.lt hcO okP⟩
  have HS1 : Aside0 (Sc (wO.alloc (.cells #[.slice (some ⟨g, 0, none⟩) 3 cO] 47)) b r A Bb 5 [o0, o0, ⟨0, 0, false⟩]) := ⟨HS.out.below (below_alloc (Below.refl _ _) _)⟩
  have HB1 : Aside0 (Below w.heap.size w (wO.alloc (.cells #[.slice (some ⟨g, 0, none⟩) 3 cO] 47))) := ⟨below_alloc HB.out _⟩
  clear HSW HS HB hgbr hltO
  generalize wO.alloc (.cells #[.slice (some ⟨g, 0, none⟩) 3 cO] 47) = WA at *
  generalize wO.heap.size = lb at *
  clear hcL hcO
  go_wp2
  go_loopg [9] nA (fun kq v9 wr => ∃ i : Nat, v9 = .int .i64 (i : Int) ∧ Aside0 (kq + i = nA + 1 ∧ 1 ≤ i) ∧ Aside0 (Sc wr b r A Bb 5 [o0, o0, if (i : Int) ≤ A then ⟨(i : Int) - 1, 0, false⟩ else ⟨0, 0, true⟩]) ∧ Aside0 (ML wr b r lb g cO xsP) ∧ Aside0 (Below w.heap.size w wr))
  case atStart => exact ⟨1, rfl, ⟨by omega⟩, ⟨by rw [if_pos (by omega)]; exact HS1.out⟩, HM, HB1⟩
  case round =>
    obtain ⟨i, rfl, HK, HS, HMr, HBt⟩ := hrel
    clear HM HS1 HB1
    have HM := HMr
    clear HMr
    by_cases hle : (i : Int) ≤ A
    · have dle : decide ((i : Int) ≤ A) = true := decide_eq_true hle
      rw [if_pos hle] at HS
      have hi1 : 1 ≤ i := HK.out.2
      by_cases heq : (i : Int) = A
      · have law := probe1a A Bb ((i : Int) - 1) (by omega) (by omega)
        have LAW := Aside0.mk law
        clear law
        have hbe : ((i : Int) == A) = true := beq_iff_eq.2 heq
        have ot : outOf [o0, o0, ⟨0, 0, true⟩] 2 = true := by decide
        have HQ := Aside0.mk heq
        clear heq hle
        go_wp2_with (first | (go_at_call 36; ((with_reducible refine (close_ml LAW.out HS HM).mono ?_); rintro e w6 ⟨v_, rfl, hr, hs, hm, hf⟩; obtain ⟨gx, c_, rfl, hx1⟩ := one_int hr HS.out.lt; have HX := Aside0.mk hx1; clear hx1; have n0_ := Aside0.mk (Below.ft HBt.out hf hbN hrN); clear HBt; have HBt := n0_; clear n0_; clear HS HM; have HS := Aside0.mk hs; have HM := Aside0.mk hm; clear hs hm hf hr)) | (go_at_call 40; ((with_reducible refine (out_at 2 true ot HS).mono ?_); rintro e w6 ⟨rfl, hb⟩; have n0_ := Aside0.mk (below_step HBt.out hb); clear HBt; have HBt := n0_; clear n0_; have m_ := Aside0.mk (HM.out.below hb); clear HM; have HM := m_; clear m_; have m_ := Aside0.mk (HS.out.below hb); clear HS; have HS := m_; clear m_; clear hb)))
        go_roundg (gk - 1)
        case measure => have := HK.out; have := HQ.out; have := HEA.out; omega
        case rel => exact ⟨i + 1, (by first | rfl | (simp; done) | (have := HK.out; have := HEA.out; have := HEB.out; congr 1; unfold wrap64; omega)), ⟨by have := HK.out; have := HQ.out; have := HEA.out; omega⟩, ⟨by rw [if_neg (by have := HQ.out; omega)]; exact HS.out⟩, HM, HBt⟩
      · have law := probe1b A Bb ((i : Int) - 1) (by omega) (by omega)
        rw [show (i : Int) - 1 + 1 = (i : Int) by omega] at law
        have LAW := Aside0.mk law
        clear law
        have hbe : ((i : Int) == A) = false := beq_eq_false_iff_ne.2 heq
        have ot : outOf [o0, o0, ⟨(i : Int), 0, false⟩] 2 = false := rfl
        have HQ := Aside0.mk heq
        clear heq
        go_wp2_with (first | (go_at_call 36; ((with_reducible refine (close_ml LAW.out HS HM).mono ?_); rintro e w6 ⟨v_, rfl, hr, hs, hm, hf⟩; obtain ⟨A_, c_, rfl⟩ := no_int hr; have n0_ := Aside0.mk (Below.ft HBt.out hf hbN hrN); clear HBt; have HBt := n0_; clear n0_; clear HS HM; have HS := Aside0.mk hs; have HM := Aside0.mk hm; clear hs hm hf hr)) | (go_at_call 40; ((with_reducible refine (out_at 2 false ot HS).mono ?_); rintro e w6 ⟨rfl, hb⟩; have n0_ := Aside0.mk (below_step HBt.out hb); clear HBt; have HBt := n0_; clear n0_; have m_ := Aside0.mk (HM.out.below hb); clear HM; have HM := m_; clear m_; have m_ := Aside0.mk (HS.out.below hb); clear HS; have HS := m_; clear m_; clear hb)))
        go_roundg (gk - 1)
        case measure => have := HK.out; have := HQ.out; have := HEA.out; omega
        case rel => exact ⟨i + 1, (by first | rfl | (simp; done) | (have := HK.out; have := HEA.out; have := HEB.out; congr 1; unfold wrap64; omega)), ⟨by have := HK.out; have := HQ.out; have := HEA.out; omega⟩, ⟨by rw [if_pos (by have := HQ.out; omega), show ((i + 1 : Nat) : Int) - 1 = (i : Int) by omega]; exact HS.out⟩, HM, HBt⟩
    · have dle : decide ((i : Int) ≤ A) = false := decide_eq_false hle
      rw [if_neg hle] at HS
      obtain ⟨wp, hwp⟩ : ∃ wp, wp = wr := ⟨_, rfl⟩
      subst hwp
      go_wp2
      clear HK hle
      have HEi := Aside0.mk (rfl : i = i)
      go_loopg [11] nB (fun kq v11 wr => ∃ i : Nat, v11 = .int .i64 (i : Int) ∧ Aside0 (kq + i = nB + 1 ∧ 1 ≤ i) ∧ Aside0 (Sc wr b r A Bb 5 [o0, o0, if (i : Int) ≤ Bb then ⟨0, (i : Int) - 1, true⟩ else o0]) ∧ Aside0 (ML wr b r lb g cO xsP) ∧ Aside0 (Below w.heap.size w wr))
      case atStart => exact ⟨1, rfl, ⟨by omega⟩, ⟨by rw [if_pos (by omega)]; exact HS.out⟩, HM, HBt⟩
      case round =>
        clear HM HS HBt HEi
        obtain ⟨i, rfl, HK, HS, HM, HBt⟩ := hrel
        by_cases hle : (i : Int) ≤ Bb
        · have dle : decide ((i : Int) ≤ Bb) = true := decide_eq_true hle
          rw [if_pos hle] at HS
          have hi1 : 1 ≤ i := HK.out.2
          have ot : outOf [o0, o0, ⟨0, (i : Int) - 1, true⟩] 2 = true := rfl
          by_cases heq : (i : Int) = Bb
          · have law := probe2a A Bb ((i : Int) - 1) (by omega) (by omega)
            have LAW := Aside0.mk law
            clear law
            have HQ := Aside0.mk heq
            clear heq
            go_wp2_with (first | (go_at_call 36; ((with_reducible refine (close_ml LAW.out HS HM).mono ?_); rintro e w6 ⟨v_, rfl, hr, hs, hm, hf⟩; obtain ⟨A_, c_, rfl⟩ := no_int hr; have n0_ := Aside0.mk (Below.ft HBt.out hf hbN hrN); clear HBt; have HBt := n0_; clear n0_; clear HS HM; have HS := Aside0.mk hs; have HM := Aside0.mk hm; clear hs hm hf hr)) | (go_at_call 40; ((with_reducible refine (out_at 2 true ot HS).mono ?_); rintro e w6 ⟨rfl, hb⟩; have n0_ := Aside0.mk (below_step HBt.out hb); clear HBt; have HBt := n0_; clear n0_; have m_ := Aside0.mk (HM.out.below hb); clear HM; have HM := m_; clear m_; have m_ := Aside0.mk (HS.out.below hb); clear HS; have HS := m_; clear m_; clear hb)))
            go_roundg (gk - 1)
            case measure => have := HK.out; have := HQ.out; have := HEB.out; omega
            case rel => exact ⟨i + 1, (by first | rfl | (simp; done) | (have := HK.out; have := HEA.out; have := HEB.out; congr 1; unfold wrap64; omega)), ⟨by have := HK.out; have := HQ.out; have := HEB.out; omega⟩, ⟨by rw [if_neg (by have := HQ.out; omega)]; exact HS.out⟩, HM, HBt⟩
          · have law := probe2b A Bb ((i : Int) - 1) (by omega) (by omega)
            rw [show (i : Int) - 1 + 1 = (i : Int) by omega] at law
            have LAW := Aside0.mk law
            clear law
            have HQ := Aside0.mk heq
            clear heq
            go_wp2_with (first | (go_at_call 36; ((with_reducible refine (close_ml LAW.out HS HM).mono ?_); rintro e w6 ⟨v_, rfl, hr, hs, hm, hf⟩; obtain ⟨A_, c_, rfl⟩ := no_int hr; have n0_ := Aside0.mk (Below.ft HBt.out hf hbN hrN); clear HBt; have HBt := n0_; clear n0_; clear HS HM; have HS := Aside0.mk hs; have HM := Aside0.mk hm; clear hs hm hf hr)) | (go_at_call 40; ((with_reducible refine (out_at 2 true ot HS).mono ?_); rintro e w6 ⟨rfl, hb⟩; have n0_ := Aside0.mk (below_step HBt.out hb); clear HBt; have HBt := n0_; clear n0_; have m_ := Aside0.mk (HM.out.below hb); clear HM; have HM := m_; clear m_; have m_ := Aside0.mk (HS.out.below hb); clear HS; have HS := m_; clear m_; clear hb)))
            go_roundg (gk - 1)
            case measure => have := HK.out; have := HQ.out; have := HEB.out; omega
            case rel => exact ⟨i + 1, (by first | rfl | (simp; done) | (have := HK.out; have := HEA.out; have := HEB.out; congr 1; unfold wrap64; omega)), ⟨by have := HK.out; have := HQ.out; have := HEB.out; omega⟩, ⟨by rw [if_pos (by have := HQ.out; omega), show ((i + 1 : Nat) : Int) - 1 = (i : Int) by omega]; exact HS.out⟩, HM, HBt⟩
        · have dle : decide ((i : Int) ≤ Bb) = false := decide_eq_false hle
          rw [if_neg hle] at HS
          clear HM
          have g2 : ([o0, o0, o0] : List Std)[2]? = some ⟨0, 0, false⟩ := rfl
          have ot0 : outOf [o0, o0, o0] 0 = false := rfl
          have ot1 : outOf [o0, o0, o0] 1 = false := rfl
          go_upto_region 19 with (first | (go_at_call 37; ((with_reducible refine (get_at 2 2 (by omega) ⟨0, 0, false⟩ g2 HS).mono ?_); rintro e w6 ⟨rfl, hb⟩; have n0_ := Aside0.mk (below_step HBt.out hb); clear HBt; have HBt := n0_; clear n0_; have m_ := Aside0.mk (HS.out.below hb); clear HS; have HS := m_; clear m_; clear hb)) | ((with_reducible refine gate_dst (N := 12) rfl ?_); refine box_event ?hg (N := 12) ?hd (cs := #[.int .i64 0, .int .i64 0, .bool false]) (t := 54) ?hr ?_; (case hd => rfl); (case hg => rfl); (case hr => first | (go_simp; done) | (go_simp; rfl)); intro gb hg w5 hbox hb; have BK := Aside0.mk hbox; have HB5 := Aside0.mk hb; have hcz_0 : w5.cell? ⟨gb, 0, none⟩ = some (.int .i64 0) := (blk_cell hbox 0).trans rfl; have hfz_0 := blk_frozen hbox 0; have hcz_1 : w5.cell? ⟨gb, 1, none⟩ = some (.int .i64 0) := (blk_cell hbox 1).trans rfl; have hfz_1 := blk_frozen hbox 1; have hcz_2 : w5.cell? ⟨gb, 2, none⟩ = some (.bool false) := (blk_cell hbox 2).trans rfl; have hfz_2 := blk_frozen hbox 2; have HG := Aside0.mk hg; clear hb hbox hg))
          have hb1 := box54_put BK.out HB5.out HG.out HS.out.lt ⟨0, 0, false⟩
          clear hcz_0 hfz_0 hcz_1 hfz_1 hcz_2 hfz_2
          dsimp only at hb1
          generalize (((w5.setCell ⟨gb, 0, none⟩ (.int .i64 0)).setCell ⟨gb, 1, none⟩ (.int .i64 0)).setCell ⟨gb, 2, none⟩ (.bool false)) = WB7 at *
          have hb := hb1.1
          have HC7 := Aside0.mk hb1.2
          have n0_ := Aside0.mk (below_step HBt.out hb); clear HBt; have HBt := n0_; clear n0_; have m_ := Aside0.mk (HS.out.below hb); clear HS; have HS := m_; clear m_
          clear hb hb1 BK HB5 HG
          obtain ⟨gb7, hgb7⟩ : ∃ z, z = gb := ⟨_, rfl⟩
          subst hgb7
          go_wp2_with (first | (go_at_call 38; ((with_reducible refine (told_calls _).mono ?_); rintro e w6 ⟨rfl, hb⟩; have n0_ := Aside0.mk (below_step HBt.out hb); clear HBt; have HBt := n0_; clear n0_; have m_ := Aside0.mk (HS.out.below hb); clear HS; have HS := m_; clear m_; have m_ := Aside0.mk (HC7.out.below hb); clear HC7; have HC7 := m_; clear m_; obtain ⟨x0, x1, x2⟩ := HC7.out.cells; clear hb)) | (go_at_call 40; ((with_reducible refine (out_at 0 false ot0 HS).mono ?_); rintro e w6 ⟨rfl, hb⟩; have n0_ := Aside0.mk (below_step HBt.out hb); clear HBt; have HBt := n0_; clear n0_; have m_ := Aside0.mk (HS.out.below hb); clear HS; have HS := m_; clear m_; clear hb)) | (go_at_call 40; ((with_reducible refine (out_at 1 false ot1 HS).mono ?_); rintro e w6 ⟨rfl, hb⟩; have n0_ := Aside0.mk (below_step HBt.out hb); clear HBt; have HBt := n0_; clear n0_; have m_ := Aside0.mk (HS.out.below hb); clear HS; have HS := m_; clear m_; clear hb)))
          go_ret
          exact ⟨rfl, HBt.out⟩
end Go.Proofs.Ytjcjibghnpjegaa.Sc
