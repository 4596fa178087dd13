/- The walk of ScoreNear: it answers true, whatever the liars say. -/
import Derived.Test.YtjcjibghnpjegaaScTold
import Derived.Test.YtjcjibghnpjegaaScPureN
import Derived.Test.YtjcjibghnpjegaaScMov
namespace Go.Proofs.Ytjcjibghnpjegaa.Sc
open Go.RowKit Go.Proofs.Ytjcjibghnpjegaa.Pr Go.Proofs.YtjcjibghnpjegaaW.PrintWords Go.Proofs.YtjcjibghnpjegaaW.PrintLast Go.Proofs.YtjcjibghnpjegaaW.PrintMore
attribute [local go_sem high] eqA54
set_option linter.unusedVariables false
set_option linter.unusedSimpArgs false
set_option maxHeartbeats 8000000 in
set_option maxRecDepth 100000 in
theorem near_calls (x0 x1 x2 : Int) (A3 : Option Addr) (c3 : Nat) (l3 : List Int) (A4 : Option Addr) (c4 : Nat) (l4 : List Int) (w : World) (hr3 : Kd.C (Kd.int .i64) w A3 l3.length l3) (hc3 : l3.length ≤ c3) (hr4 : Kd.C (Kd.int .i64) w A4 l4.length l4) (hc4 : l4.length ≤ c4) :
    Calls Try.prog 13 #[.int .i64 x0, .int .i64 x1, .int .i64 x2, .slice A3 l3.length c3, .slice A4 l4.length c4] w fun e w' => e = .returned (.bool true) ∧ Below w.heap.size w w' := by
  have HR3 := Aside0.mk hr3
  have HR4 := Aside0.mk hr4
  clear hr3 hr4
  have HBt := Aside0.mk (Below.refl w.heap.size w)
  have sm0 := small x0 4 (by omega)
  have sm1 := small x1 4 (by omega)
  have sm2 := small x2 1000 (by omega)
  obtain ⟨kN, eK⟩ : ∃ n : Nat, wrap64 ((IntKind.u64.wrap x0).tmod 4) = (n : Int) := ⟨((IntKind.u64.wrap x0).tmod 4).toNat, by rw [w64' (by omega)]; omega⟩
  have hk3 : kN ≤ 3 := by rw [w64' (by omega)] at eK; omega
  obtain ⟨M, eM⟩ : ∃ M, wrap64 ((IntKind.u64.wrap x1).tmod 4) = M := ⟨_, rfl⟩
  have hM : 0 ≤ M ∧ M < 4 := by rw [w64' (by omega)] at eM; omega
  obtain ⟨D, eD⟩ : ∃ D, wrap64 ((IntKind.u64.wrap x2).tmod 1000) = D := ⟨_, rfl⟩
  have hD : 0 ≤ D ∧ D < 1000 := by rw [w64' (by omega)] at eD; omega
  obtain ⟨K, hKK⟩ : ∃ K : Int, (kN : Int) = K := ⟨_, rfl⟩
  rw [hKK] at eK
  obtain ⟨cN, eC⟩ : ∃ n : Nat, wrap64 (wrap64 (wrap64 (3 * K) + 1) + M) = (n : Int) := ⟨(3 * K + 1 + M).toNat, by rw [w64' (x := 3 * K) (by omega), w64' (x := 3 * K + 1) (by omega), w64' (by omega)]; omega⟩
  have hcN : 3 * kN + 1 ≤ cN ∧ cN ≤ 16 := by rw [w64' (x := 3 * K) (by omega), w64' (x := 3 * K + 1) (by omega), w64' (by omega)] at eC; omega
  obtain ⟨C, hCC⟩ : ∃ C : Int, (cN : Int) = C := ⟨_, rfl⟩
  rw [hCC] at eC
  clear sm0 sm1 sm2 hM
  have HK3 := Aside0.mk (show (kN : Int) = K ∧ kN ≤ 3 from ⟨hKK, hk3⟩)
  have HCN := Aside0.mk (show (cN : Int) = C ∧ 3 * kN + 1 ≤ cN ∧ cN ≤ 16 from ⟨hCC, hcN⟩)
  have HDD := Aside0.mk hD
  clear hKK hk3 hCC hcN hD
  go_enter Try.func13, Try.ntmps13
  go_upto_region 4 with (fail)
  rw [eK, eM, eD, eC]
  clear eK eM eD eC
  go_upto_region 7 with (first | (go_at_call 35; ((with_reducible refine (new_at C cN HCN.out.1.symm 1 3 D _ ⟨by have := HCN.out; omega, by have := HCN.out; omega⟩ (by omega) (by omega) ⟨by have := HDD.out; omega, by have := HDD.out; omega⟩).mono ?_); rintro e w6 ⟨b, r, rfl, hsc, hgb, hgr, hb⟩; have HS := Aside0.mk hsc; have n0_ := Aside0.mk (below_step HBt.out hb); have hbN : w.heap.size ≤ b := (by have := below_size HBt.out; omega); have hrN : w.heap.size ≤ r := (by have := below_size HBt.out; omega); clear HBt; have HBt := n0_; clear n0_ hsc hb hgb hgr)))
  have HH : Aside0 (Hon kN cN (List.replicate cN ⟨0, 0, false⟩)) := ⟨List.length_replicate, fun i h1 h2 => ⟨0, by simp [h2]⟩⟩
  generalize List.replicate cN (⟨0, 0, false⟩ : Std) = ssI at *
  go_wp2
  go_loopg [15] 12 (fun kq v15 wr => ∃ (i : Nat) (ss : List Std), v15 = .int .i64 (i : Int) ∧ Aside0 (kq + i = 12) ∧ Aside0 (Hon kN cN ss) ∧ Aside0 (Sc wr b r 1 3 D ss) ∧ Aside0 (Below w.heap.size w wr))
  case atStart => exact ⟨0, ssI, rfl, ⟨by omega⟩, HH, HS, HBt⟩
  case round =>
    clear HH HS HBt
    obtain ⟨i, ss, rfl, HK, HH, HS, HBt⟩ := hrel
    by_cases h1 : (i : Int) < (l3.length : Int)
    · have d1 : decide ((i : Int) < (l3.length : Int)) = true := decide_eq_true h1
      by_cases h2 : (i : Int) < 12
      · have d2 : decide ((i : Int) < 12) = true := decide_eq_true h2
        obtain ⟨ad3, e3, hx3⟩ := Kd.at_int HR3.out (i : Int) (by omega) h1
        subst e3
        replace hx3 := (HBt.out.cell (World.block_lt_of_cell? w _ hx3)).trans hx3
        rw [Int.toNat_natCast] at hx3
        obtain ⟨B, eB⟩ : ∃ B, wrap64 ((IntKind.u64.wrap (rd l3 (i : Int))).tmod 1000000) = B := ⟨_, rfl⟩
        have hB : 0 ≤ B ∧ B < 1000000 := by
          have := small (rd l3 (i : Int)) 1000000 (by omega)
          rw [w64' (by omega)] at eB
          omega
        go_upto_region 11 with (fail)
        rw [eB]
        have HBB := Aside0.mk hB
        clear eB hB hx3
        obtain ⟨wp, hwp⟩ : ∃ wp, wp = wr := ⟨_, rfl⟩
        subst hwp
        obtain ⟨gq, hgq⟩ : ∃ z, z = gk := ⟨_, rfl⟩
        subst hgq
        have HR0 := Aside0.mk (Below.refl wp.heap.size wp)
        have HKo := HK
        clear HK
        have HIo := Aside0.mk (show (i : Int) < (l3.length : Int) ∧ (i : Int) < 12 from ⟨h1, h2⟩)
        go_wp2
        go_loopg [17, 18] cN (fun kq v17 v18 wr => ∃ (j : Nat) (xs : List S49), v18 = .int .i64 (j : Int) ∧ Aside0 (kq + j = cN ∧ xs.length = j) ∧ Aside0 (XS kN B D xs) ∧ Aside0 (Kd.R k49 49 wr wp.heap.size (fun _ => True) v17 xs) ∧ Aside0 (Below wp.heap.size wp wr))
        case atStart => exact ⟨0, [], rfl, ⟨by omega, rfl⟩, ⟨fun j s h => by simp at h⟩, ⟨Kd.R_nil _ _ _ _ _⟩, HR0⟩
        case round =>
          clear HR0
          obtain ⟨j, xs, rfl, HK, HX, HO, HBr⟩ := hrel
          by_cases h3 : (j : Int) < C
          · have d3 : decide ((j : Int) < C) = true := decide_eq_true h3
            have HJC := Aside0.mk h3
            have eD1 : wrap64 (D + 1) = D + 1 := w64' (by have := HDD.out; omega)
            have nD1 : ¬ (D + 1 = 0) := by have := HDD.out; omega
            obtain ⟨X, eX⟩ : ∃ X, wrap64 (B + (wrap64 ((j : Int) * 7)).tmod (D + 1)) = X := ⟨_, rfl⟩
            have hX : B ≤ X ∧ X ≤ B + D := by
              have hj := HCN.out
              have hd := HDD.out
              have hb := HBB.out
              rw [w64' (x := (j : Int) * 7) (by omega), Int.tmod_eq_emod_of_nonneg (by omega)] at eX
              have e1 := Int.emod_nonneg ((j : Int) * 7) (b := D + 1) (by omega)
              have e2 := Int.emod_lt_of_pos ((j : Int) * 7) (b := D + 1) (by omega)
              rw [w64' (by omega)] at eX
              omega
            go_upto_region 16 with (fail)
            rw [eX]
            have HXX := Aside0.mk hX
            clear eX hX eD1 nD1
            by_cases h4 : (j : Int) < K
            · have d4 : decide ((j : Int) < K) = true := decide_eq_true h4
              have HJK := Aside0.mk h4
              obtain ⟨J, eJ, hJ0⟩ : ∃ J : Int, wrap64 (wrap64 ((i : Int) * K) + (j : Int)) = J ∧ 0 ≤ J := by
                have h5 := HK3.out
                have h6 := HIo.out
                have h7 : 0 ≤ (i : Int) * K := Int.mul_nonneg (by omega) (by omega)
                have h8 : (i : Int) * K ≤ 12 * 3 := Int.mul_le_mul (by omega) (by omega) (by omega) (by omega)
                have h9 := HCN.out
                exact ⟨(i : Int) * K + j, by rw [w64' (x := (i : Int) * K) (by omega), w64' (by omega)], by omega⟩
              go_upto_region 19 with (fail)
              rw [eJ]
              clear eJ
              by_cases h5 : J < (l4.length : Int)
              · have d5 : decide (J < (l4.length : Int)) = true := decide_eq_true h5
                obtain ⟨ad4, e4, hx4⟩ := Kd.at_int HR4.out J hJ0 h5
                subst e4
                replace hx4 := (HBr.out.cell (Nat.lt_of_lt_of_le (World.block_lt_of_cell? w _ hx4) (below_size HBt.out))).trans ((HBt.out.cell (World.block_lt_of_cell? w _ hx4)).trans hx4)
                obtain ⟨Y, eY⟩ : ∃ Y, wrap64 ((IntKind.u64.wrap (rd l4 J)).tmod 1099511627777) = Y := ⟨_, rfl⟩
                have hY : 0 ≤ Y ∧ Y ≤ 1099511627776 := by
                  have := small (rd l4 J) 1099511627777 (by omega)
                  rw [w64' (by omega)] at eY
                  omega
                go_upto_region 21 with (fail)
                rw [eY]
                have HYY := Aside0.mk hY
                clear eY hY hx4 hJ0
                go_wp2_with (first | ((with_reducible refine gate_builtin (b := .append) (xs := #[.tmp 93, .tmp 97]) rfl ?_); at_builtin; (refine Kd.R_append k49 (w0 := wp) wp.heap.size rfl (.tmp 93) (.tmp 97) 47 49 (.agg #[.int .i64 0, .int .i64 0, .int .i64 0, .int .i64 0]) 32 rfl Try.underlying47 info49 rfl (by decide) (by omega) _ xs (⟨(j : Int), 0, 0, Y⟩ : S49) [.int .i64 (j : Int), .int .i64 0, .int .i64 0, .int .i64 (Y)] (fun _ => True) (fun _ => False) rfl rfl ?aP (fun _ hk => hk.elim) ?aF ?aO ?aB ?aS ?aL ?_; (case aP => exact k49_mkM _ _ _ (⟨(j : Int), 0, 0, Y⟩ : S49)); (case aB => exact HBr.out); (case aF => exact (fun _ _ => trivial)); (case aO => exact HO.out); (case aS => exact below_size HBr.out); (case aL => have h_ := HK.out; have h2_ := HCN.out; omega); intro v542 w7 ho hb hg hat; have HB7 := Aside0.mk hb; have HO7 := Aside0.mk ho; clear ho hb hg hat)))
                go_roundg (gk - 1)
                case measure => have := HK.out; have := HCN.out; have := HJC.out; omega
                case rel => exact ⟨j + 1, xs ++ [⟨(j : Int), 0, 0, Y⟩], (by first | rfl | (simp; done) | (have := HK.out; have := HCN.out; congr 1; unfold wrap64; omega)), ⟨by have := HK.out; have := HCN.out; have := HJC.out; omega, by have := HK.out; rw [List.length_append]; simp; omega⟩, ⟨HX.out.snoc ⟨by have := HK.out; show (j : Int) = _; omega, HYY.out, fun h => by have h1_ := HK.out; have h2_ := HK3.out; have h3_ := HJK.out; omega⟩⟩, HO7, HB7⟩
              · have d5 : decide (J < (l4.length : Int)) = false := decide_eq_false h5
                go_wp2_with (first | ((with_reducible refine gate_builtin (b := .append) (xs := #[.tmp 93, .tmp 97]) rfl ?_); at_builtin; (refine Kd.R_append k49 (w0 := wp) wp.heap.size rfl (.tmp 93) (.tmp 97) 47 49 (.agg #[.int .i64 0, .int .i64 0, .int .i64 0, .int .i64 0]) 32 rfl Try.underlying47 info49 rfl (by decide) (by omega) _ xs (⟨(j : Int), 0, 0, 0⟩ : S49) [.int .i64 (j : Int), .int .i64 0, .int .i64 0, .int .i64 (0)] (fun _ => True) (fun _ => False) rfl rfl ?aP (fun _ hk => hk.elim) ?aF ?aO ?aB ?aS ?aL ?_; (case aP => exact k49_mkM _ _ _ (⟨(j : Int), 0, 0, 0⟩ : S49)); (case aB => exact HBr.out); (case aF => exact (fun _ _ => trivial)); (case aO => exact HO.out); (case aS => exact below_size HBr.out); (case aL => have h_ := HK.out; have h2_ := HCN.out; omega); intro v542 w7 ho hb hg hat; have HB7 := Aside0.mk hb; have HO7 := Aside0.mk ho; clear ho hb hg hat)))
                go_roundg (gk - 1)
                case measure => have := HK.out; have := HCN.out; have := HJC.out; omega
                case rel => exact ⟨j + 1, xs ++ [⟨(j : Int), 0, 0, 0⟩], (by first | rfl | (simp; done) | (have := HK.out; have := HCN.out; congr 1; unfold wrap64; omega)), ⟨by have := HK.out; have := HCN.out; have := HJC.out; omega, by have := HK.out; rw [List.length_append]; simp; omega⟩, ⟨HX.out.snoc ⟨by have := HK.out; show (j : Int) = _; omega, ⟨by show (0 : Int) ≤ 0; omega, by show (0 : Int) ≤ _; omega⟩, fun h => by have h1_ := HK.out; have h2_ := HK3.out; have h3_ := HJK.out; omega⟩⟩, HO7, HB7⟩
            · have d4 : decide ((j : Int) < K) = false := decide_eq_false h4
              go_wp2_with (first | ((with_reducible refine gate_builtin (b := .append) (xs := #[.tmp 93, .tmp 97]) rfl ?_); at_builtin; (refine Kd.R_append k49 (w0 := wp) wp.heap.size rfl (.tmp 93) (.tmp 97) 47 49 (.agg #[.int .i64 0, .int .i64 0, .int .i64 0, .int .i64 0]) 32 rfl Try.underlying47 info49 rfl (by decide) (by omega) _ xs (⟨(j : Int), 0, 0, X⟩ : S49) [.int .i64 (j : Int), .int .i64 0, .int .i64 0, .int .i64 (X)] (fun _ => True) (fun _ => False) rfl rfl ?aP (fun _ hk => hk.elim) ?aF ?aO ?aB ?aS ?aL ?_; (case aP => exact k49_mkM _ _ _ (⟨(j : Int), 0, 0, X⟩ : S49)); (case aB => exact HBr.out); (case aF => exact (fun _ _ => trivial)); (case aO => exact HO.out); (case aS => exact below_size HBr.out); (case aL => have h_ := HK.out; have h2_ := HCN.out; omega); intro v542 w7 ho hb hg hat; have HB7 := Aside0.mk hb; have HO7 := Aside0.mk ho; clear ho hb hg hat)))
              go_roundg (gk - 1)
              case measure => have := HK.out; have := HCN.out; have := HJC.out; omega
              case rel => exact ⟨j + 1, xs ++ [⟨(j : Int), 0, 0, X⟩], (by first | rfl | (simp; done) | (have := HK.out; have := HCN.out; congr 1; unfold wrap64; omega)), ⟨by have := HK.out; have := HCN.out; have := HJC.out; omega, by have := HK.out; rw [List.length_append]; simp; omega⟩, ⟨HX.out.snoc ⟨by have := HK.out; show (j : Int) = _; omega, ⟨by have h1_ := HXX.out; have h2_ := HBB.out; show 0 ≤ X; omega, by have h1_ := HXX.out; have h2_ := HBB.out; have h3_ := HDD.out; show X ≤ _; omega⟩, fun _ => HXX.out⟩⟩, HO7, HB7⟩
          · have d3 : decide ((j : Int) < C) = false := decide_eq_false h3
            have hlen : xs.length = cN := by have := HK.out; have := HCN.out; omega
            have HOK := Aside0.mk (HX.out.ok (by have := HCN.out; omega))
            obtain ⟨g, cO, rfl, hcX, hgO, hltO, hswO⟩ := own49 HO.out HOK.out.1
            have HSW := Aside0.mk hswO
            have HS5 := Aside0.mk (HS.out.below HBr.out)
            have HB5 : Aside0 (Below w.heap.size w wr) := ⟨below_step HBt.out HBr.out⟩
            have hgbr : g ≠ b ∧ g ≠ r := by have := HS.out.lt; omega
            have hH2 := near_close (b := B) (d := D) (ss := ss) (xs := xs) HK3.out.2 HCN.out.2 (by have := HBB.out; omega) (by have := HDD.out; omega) HH.out HX.out hlen
            obtain ⟨ss2, out2, hcl⟩ : ∃ s o, closeS 1 3 D (2 * (kN : Int) + 1) [xs] ss = (s, o) := ⟨_, _, rfl⟩
            rw [hcl] at hH2
            have HH2 := Aside0.mk hH2
            have eQ : wrap64 (wrap64 (2 * K) + 1) = 2 * (kN : Int) + 1 := by
              have := HK3.out
              rw [w64' (x := 2 * K) (by omega), w64' (by omega)]
              omega
            have HLEN := Aside0.mk hlen
            clear hswO hH2 hlen HK HX HO
            go_upto_region 23 with (first | (go_at_call 36; ((with_reducible refine (close_ml hcl ⟨HS5.out.below (below_alloc (Below.refl _ _) _)⟩ ⟨ML.made (m := xs.length) rfl HSW.out hltO hgbr HS5.out.lt hcX HOK.out⟩).mono ?_); rintro e w6 ⟨v_, rfl, hr, hs, hm, hf⟩; have n0_ := Aside0.mk (Below.ft (below_alloc HB5.out _) hf hbN hrN); have HB6 := n0_; clear n0_; have HS6 := Aside0.mk hs; clear hs hm hf hr)))
            clear eQ HSW hgbr hltO hcX hgO
            obtain ⟨wq, hwq⟩ : ∃ wq, wq = w6 := ⟨_, rfl⟩
            subst hwq
            go_wp2
            go_loopg [21] (cN - kN) (fun kq v21 wr => ∃ j : Nat, v21 = .int .i64 (j : Int) ∧ Aside0 (kq + j = cN ∧ kN ≤ j) ∧ Aside0 (Sc wr b r 1 3 D ss2) ∧ Aside0 (Below w.heap.size w wr))
            case atStart => exact ⟨kN, (by rw [HK3.out.1]), ⟨by have := HCN.out; omega⟩, HS6, HB6⟩
            case round =>
              clear HS6 HB6 HS5 HB5 HBr HS HBt
              obtain ⟨j, rfl, HK, HS, HBt⟩ := hrel
              by_cases h4 : (j : Int) < C
              · have d4 : decide ((j : Int) < C) = true := decide_eq_true h4
                have HJC := Aside0.mk h4
                obtain ⟨cl, g3⟩ := HH2.out.2 j HK.out.2 (by have := HCN.out; omega)
                have G3 := Aside0.mk g3
                clear g3
                go_upto_region 27 with (first | (go_at_call 37; ((with_reducible refine (get_at (j : Int) j rfl ⟨0, cl, false⟩ G3.out HS).mono ?_); rintro e w6 ⟨rfl, hb⟩; have n0_ := Aside0.mk (below_step HBt.out hb); clear HBt; have HBt := n0_; clear n0_; have m_ := Aside0.mk (HS.out.below hb); clear HS; have HS := m_; clear m_; clear hb)) | ((with_reducible refine gate_dst (N := 22) rfl ?_); refine box_event ?hg (N := 22) ?hd (cs := #[.int .i64 0, .int .i64 0, .bool false]) (t := 54) ?hr ?_; (case hd => rfl); (case hg => rfl); (case hr => first | (go_simp; done) | (go_simp; rfl)); intro gb hg w5 hbox hb; have BK := Aside0.mk hbox; have HB5 := Aside0.mk hb; have hcz_0 : w5.cell? ⟨gb, 0, none⟩ = some (.int .i64 0) := (blk_cell hbox 0).trans rfl; have hfz_0 := blk_frozen hbox 0; have hcz_1 : w5.cell? ⟨gb, 1, none⟩ = some (.int .i64 0) := (blk_cell hbox 1).trans rfl; have hfz_1 := blk_frozen hbox 1; have hcz_2 : w5.cell? ⟨gb, 2, none⟩ = some (.bool false) := (blk_cell hbox 2).trans rfl; have hfz_2 := blk_frozen hbox 2; have HG := Aside0.mk hg; clear hb hbox hg))
                have hb1 := box54_put BK.out HB5.out HG.out HS.out.lt ⟨0, cl, false⟩
                clear hcz_0 hfz_0 hcz_1 hfz_1 hcz_2 hfz_2
                dsimp only at hb1
                generalize (((w5.setCell ⟨gb, 0, none⟩ (.int .i64 0)).setCell ⟨gb, 1, none⟩ (.int .i64 cl)).setCell ⟨gb, 2, none⟩ (.bool false)) = WB7 at *
                have hb := hb1.1
                have HC7 := Aside0.mk hb1.2
                have n0_ := Aside0.mk (below_step HBt.out hb); clear HBt; have HBt := n0_; clear n0_; have m_ := Aside0.mk (HS.out.below hb); clear HS; have HS := m_; clear m_
                clear hb hb1 BK HB5 HG
                obtain ⟨gb7, hgb7⟩ : ∃ z, z = gb := ⟨_, rfl⟩
                subst hgb7
                obtain ⟨x0_, x1_, x2_⟩ := HC7.out.cells
                dsimp only at x0_ x1_ x2_
                go_wp2
                go_roundg (gk - 1)
                case measure => have := HK.out; have := HCN.out; have := HJC.out; omega
                case rel => exact ⟨j + 1, (by first | rfl | (simp; done) | (have := HK.out; have := HCN.out; congr 1; unfold wrap64; omega)), ⟨by have := HK.out; have := HCN.out; have := HJC.out; omega⟩, HS, HBt⟩
              · have d4 : decide ((j : Int) < C) = false := decide_eq_false h4
                go_wp2
                go_roundg (gq - 1)
                case measure => have := HKo.out; have := HIo.out; omega
                case rel => exact ⟨i + 1, ss2, (by first | rfl | (simp; done) | (have := HIo.out; congr 1; unfold wrap64; omega)), ⟨by have := HKo.out; have := HIo.out; omega⟩, HH2, HS, HBt⟩
      · have d2 : decide ((i : Int) < 12) = false := decide_eq_false h2
        clear HR3 HR4
        go_wp2_with (first | (go_at_call 38; ((with_reducible refine (told_calls _).mono ?_); rintro e w6 ⟨rfl, hb⟩; have n0_ := Aside0.mk (below_step HBt.out hb); have HBz := n0_; clear n0_ hb)))
        go_ret
        exact ⟨rfl, HBz.out⟩
    · have d1 : decide ((i : Int) < (l3.length : Int)) = false := decide_eq_false h1
      clear HR3 HR4
      go_wp2_with (first | (go_at_call 38; ((with_reducible refine (told_calls _).mono ?_); rintro e w6 ⟨rfl, hb⟩; have n0_ := Aside0.mk (below_step HBt.out hb); have HBz := n0_; clear n0_ hb)))
      go_ret
      exact ⟨rfl, HBz.out⟩
end Go.Proofs.Ytjcjibghnpjegaa.Sc
