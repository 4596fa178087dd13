/- The walk of ScoreMetrics: it answers true, whichever metrics are far off and lack a quorum. -/
import Derived.Test.YtjcjibghnpjegaaScTold
import Derived.Test.YtjcjibghnpjegaaScMov
namespace Go.Proofs.Ytjcjibghnpjegaa.Sc
open Go.RowKit Go.Proofs.Ytjcjibghnpjegaa.Pr Go.Proofs.YtjcjibghnpjegaaW.PrintWords Go.Proofs.YtjcjibghnpjegaaW.PrintLast Go.Proofs.YtjcjibghnpjegaaW.PrintMore
attribute [local go_sem high] eqA54
set_option linter.unusedVariables false
set_option linter.unusedSimpArgs false
set_option maxHeartbeats 8000000 in
set_option maxRecDepth 100000 in
theorem metrics_calls (x y : Int) (w : World) : Calls Try.prog 16 #[.int .i64 x, .int .i64 y] w fun e w' => e = .returned (.bool true) ∧ Below w.heap.size w w' := by
  have HBt := Aside0.mk (Below.refl w.heap.size w)
  go_enter Try.func16, Try.ntmps16
  go_upto_region 4 with (first | (go_at_call 35; ((with_reducible refine (new_at (4 : Int) 4 (by omega) 50 3 10 _ (by omega) (by omega) (by omega) (by omega)).mono ?_); rintro e w6 ⟨b, r, rfl, hsc, hgb, hgr, hb⟩; have HS := Aside0.mk hsc; have n0_ := Aside0.mk (below_step HBt.out hb); have hbN : w.heap.size ≤ b := (by have := below_size HBt.out; omega); have hrN : w.heap.size ≤ r := (by have := below_size HBt.out; omega); clear HBt; have HBt := n0_; clear n0_ hsc hb hgb hgr)))
  have HS1 : Aside0 (Sc w6 b r 50 3 10 ss0) := ⟨HS.out⟩
  clear HS
  go_wp2
  go_loopg [6, 7, 8] 3 (fun kq v6 v7 v8 wr => ∃ (i : Nat) (ms : List Met) (S : Bool), v7 = .bool S ∧ v8 = .int .i64 (i : Int) ∧ Aside0 (kq + i = 3 ∧ ms.length = i) ∧ Aside0 (∀ f j, struckM 10 ss0 3 (ms.map (·.xs)) f j = ((decide (j = 3) && S) || f j)) ∧ Aside0 (Kd.R KM 47 wr w.heap.size (fun k => k ≠ b ∧ k ≠ r) v6 ms) ∧ Aside0 (MT wr ms) ∧ Aside0 (Sc wr b r 50 3 10 ss0) ∧ Aside0 (Below w.heap.size w wr))
  case atStart => exact ⟨0, [], false, rfl, rfl, ⟨by omega, rfl⟩, ⟨fun f j => by simp [struckM]⟩, ⟨Kd.R_nil _ _ _ _ _⟩, ⟨fun m hm => by cases hm⟩, HS1, HBt⟩
  case round =>
    clear HS1 HBt
    obtain ⟨i, ms, S, rfl, rfl, HK, HG, HO, HMG, HS, HBt⟩ := hrel
    by_cases h1 : (i : Int) < 3
    · have d1 : decide ((i : Int) < 3) = true := decide_eq_true h1
      have HBr := Aside0.mk (Below.refl wr.heap.size wr)
      go_upto_region 10 with (first | ((with_reducible refine gate_dst (N := 24) rfl ?_); refine Kd.R_lit (Kd.int .i64) _ 2 ?hg (N := 24) ?hd (xs := ([100, 100, 100, 100] : List Int)) (inner := [.int .i64 100, .int .i64 100, .int .i64 100, .int .i64 100]) (ok := fun _ => True) (okp := fun _ => True) ?hr ?hp (fun _ hk => hk) trivial (Below.refl _ _) (Nat.le_refl _) (by simp) ?_; (case hd => rfl); (case hg => rfl); (case hr => first | (go_simp; done) | (go_simp; rfl)); (case hp => exact (Reps.one (show Kd.M (Kd.int .i64) _ _ _ 100 [.int .i64 100] from rfl) (Reps.one (show Kd.M (Kd.int .i64) _ _ _ 100 [.int .i64 100] from rfl) (Reps.one (show Kd.M (Kd.int .i64) _ _ _ 100 [.int .i64 100] from rfl) (Reps.one (show Kd.M (Kd.int .i64) _ _ _ 100 [.int .i64 100] from rfl) (Reps.none _ _)))))); intro vL wL hoL hbL hgL hnL; clear hgL hnL; obtain ⟨AL, cL, rfl, hcL, hCL⟩ := Kd.R_reads hoL; have HCL := Aside0.mk hCL; have n0_ := Aside0.mk (below_step HBt.out hbL); have HS' := Aside0.mk (HS.out.below hbL); have m0_ := Aside0.mk (below_step HBr.out hbL); clear HBr; have HBr := m0_; clear m0_; clear HBt HS; have HBt := n0_; have HS := HS'; clear n0_ HS' hoL hbL hCL) | (go_at_call 39; ((with_reducible refine (of_att 5 4 AL cL 4 [100, 100, 100, 100] xsF (by decide) (by decide) _ HCL hcL ofF (by decide)).mono ?_); rintro e wO ⟨g, cO, rfl, hcX, hgO, hltO, hswO, htO, hbO⟩; have hszO := below_size HBt.out; have hszR := below_size HBr.out; have hgw : w.heap.size ≤ g := (by omega); have hgr2 : wr.heap.size ≤ g := (by omega); have n0_ := Aside0.mk (below_step HBt.out hbO); have m0_ := Aside0.mk (below_step HBr.out hbO); have HS' := Aside0.mk (HS.out.below hbO); have hgbr : g ≠ b ∧ g ≠ r := (by have := HS.out.lt; omega); have HSW := Aside0.mk hswO; have HTT := Aside0.mk htO; clear HBt HBr HS HCL hcL; have HBt := n0_; have HBr := m0_; have HS := HS'; clear n0_ m0_ HS' hbO hswO htO hgO hszO hszR)))
      go_upto_region 11 with (fail)
      generalize (bits BinOp.and IntKind.u64 (IntKind.u64.wrap x / 2 ^ i) 1 == 1) = B1
      generalize (bits BinOp.and IntKind.u64 (IntKind.u64.wrap y / 2 ^ i) 1 == 1) = B2
      cases S with
      | true =>
        cases B1 with
        | true =>
          cases B2 with
          | true =>
            have q15 : wO.cell? ⟨g, 15, none⟩ = some (.int .i64 100) := (HSW.out.1 3 (smp 3 100) rfl).2.2.2
            have z15 : wO.frozen? ⟨g, 15, none⟩ = false := HSW.out.2 15
            go_upto_region 13 with (fail)
            have hsw : SW (wO.setCell ⟨g, 15, none⟩ (.int .i64 900)) g xs900 := HSW.out.set3 (i := 3) (s := smp 3 100) rfl 900
            have hss : Sc (wO.setCell ⟨g, 15, none⟩ (.int .i64 900)) b r 50 3 10 ss0 := HS.out.ft (Ft.set (S := fun k => k = g) (Ft.refl _ wO) rfl (.int .i64 900)) (by omega) (by omega)
            have hbb : Below w.heap.size w (wO.setCell ⟨g, 15, none⟩ (.int .i64 900)) := below_set HBt.out hgw
            have hbr : Below wr.heap.size wr (wO.setCell ⟨g, 15, none⟩ (.int .i64 900)) := below_set HBr.out hgr2
            have htt : T49 (wO.setCell ⟨g, 15, none⟩ (.int .i64 900)) g := by obtain ⟨cs, hcs⟩ := HTT.out; exact ⟨_, blk_put hcs 15 _ rfl⟩
            clear q15 z15 HSW HS HBt HBr HTT hltO
            have HSW := Aside0.mk hsw
            have HS := Aside0.mk hss
            have HBt := Aside0.mk hbb
            have HBr := Aside0.mk hbr
            have HTT := Aside0.mk htt
            clear hsw hss hbb hbr htt
            generalize wO.setCell ⟨g, 15, none⟩ (.int .i64 900) = WB at *
            have HOB := Aside0.mk (Kd.R_below HO.out HBr.out)
            have HMTB := Aside0.mk (HMG.out.below HBr.out)
            have c2 : ∀ W : World, (Instr.slice 47 (.slice (some ⟨g, 0, none⟩) 4 cO) (some (.int .i64 2)) none none).run Try.prog W = .ok (.slice (some ⟨g, 8, none⟩) 2 (cO - 2)) W := fun W => cut_l49 W g 4 cO 2 (by omega) hcX
            have hC : Kd.C k49 WB (some ⟨g, 8, none⟩) (xs900.drop 2).length (xs900.drop 2) := HSW.out.1.C 2 (by decide)
            have hcc : (xs900.drop 2).length ≤ cO - 2 := by have h_ : 4 ≤ cO := hcX; show 2 ≤ cO - 2; omega
            have HC_ := Aside0.mk hC
            clear hC
            have HMX0 := Aside0.mk (HMTB.out.snoc (m := ⟨⟨g, 8, none⟩, cO - 2, xs900.drop 2⟩) ⟨HTT.out, HC_.out, hcc, (good_few (xs900.drop 2) ⟨by decide, by decide, by decide⟩ rfl).1⟩)
            go_wp2_with (first | ((with_reducible refine gate_builtin (b := .append) (xs := #[.tmp 55, .tmp 57]) rfl ?_); at_builtin; (refine Kd.R_append KM (w0 := w) w.heap.size rfl (.tmp 55) (.tmp 57) 52 47 (.slice none 0 0) 24 rfl Try.underlying52 info47 rfl (by decide) (by omega) _ ms (⟨⟨g, 8, none⟩, cO - 2, xs900.drop 2⟩ : Met) [.slice (some ⟨g, 8, none⟩) 2 (cO - 2)] (fun k => k ≠ b ∧ k ≠ r) (fun _ => False) rfl rfl ?aP (fun _ hk => hk.elim) ?aF ?aO ?aB ?aS ?aL ?_; (case aP => exact rfl); (case aB => exact HBt.out); (case aF => exact (fun k hk => by have h_ := HS.out.lt; omega)); (case aO => exact HOB.out); (case aS => exact below_size HBt.out); (case aL => have := HK.out; omega); intro v542 w7 ho hb hg hat; have HB7 := Aside0.mk hb; have HO7 := Aside0.mk ho; have HMX := Aside0.mk (HMX0.out.grown HOB.out hg); have HS7 : Aside0 (Sc w7 b r 50 3 10 ss0) := ⟨HS.out.kept (hg.block b HS.out.lt.1 (fun e => (HOB.out.1 b e.symm).1 rfl)) (hg.block r HS.out.lt.2 (fun e => (HOB.out.1 r e.symm).2 rfl))⟩; clear ho hb hg hat)))
            go_roundg (gk - 1)
            case measure => have := HK.out; omega
            case rel => exact ⟨i + 1, ms ++ [⟨⟨g, 8, none⟩, cO - 2, xs900.drop 2⟩], true, (by first | rfl | (simp; done)), (by first | rfl | (simp; done) | (congr 1; unfold wrap64; omega)), ⟨by have := HK.out; omega, by have := HK.out; rw [List.length_append]; simp; omega⟩, ⟨by rw [List.map_append]; exact goods HG.out (good_few (xs900.drop 2) ⟨by decide, by decide, by decide⟩ rfl)⟩, HO7, HMX, HS7, HB7⟩
          | false =>
            have q15 : wO.cell? ⟨g, 15, none⟩ = some (.int .i64 100) := (HSW.out.1 3 (smp 3 100) rfl).2.2.2
            have z15 : wO.frozen? ⟨g, 15, none⟩ = false := HSW.out.2 15
            go_upto_region 13 with (fail)
            have hsw : SW (wO.setCell ⟨g, 15, none⟩ (.int .i64 900)) g xs900 := HSW.out.set3 (i := 3) (s := smp 3 100) rfl 900
            have hss : Sc (wO.setCell ⟨g, 15, none⟩ (.int .i64 900)) b r 50 3 10 ss0 := HS.out.ft (Ft.set (S := fun k => k = g) (Ft.refl _ wO) rfl (.int .i64 900)) (by omega) (by omega)
            have hbb : Below w.heap.size w (wO.setCell ⟨g, 15, none⟩ (.int .i64 900)) := below_set HBt.out hgw
            have hbr : Below wr.heap.size wr (wO.setCell ⟨g, 15, none⟩ (.int .i64 900)) := below_set HBr.out hgr2
            have htt : T49 (wO.setCell ⟨g, 15, none⟩ (.int .i64 900)) g := by obtain ⟨cs, hcs⟩ := HTT.out; exact ⟨_, blk_put hcs 15 _ rfl⟩
            clear q15 z15 HSW HS HBt HBr HTT hltO
            have HSW := Aside0.mk hsw
            have HS := Aside0.mk hss
            have HBt := Aside0.mk hbb
            have HBr := Aside0.mk hbr
            have HTT := Aside0.mk htt
            clear hsw hss hbb hbr htt
            generalize wO.setCell ⟨g, 15, none⟩ (.int .i64 900) = WB at *
            have HOB := Aside0.mk (Kd.R_below HO.out HBr.out)
            have HMTB := Aside0.mk (HMG.out.below HBr.out)
            have hC : Kd.C k49 WB (some ⟨g, 0, none⟩) xs900.length xs900 := HSW.out.1.C 0 (by decide)
            have hcc : xs900.length ≤ cO := hcX
            have HC_ := Aside0.mk hC
            clear hC
            have HMX0 := Aside0.mk (HMTB.out.snoc (m := ⟨⟨g, 0, none⟩, cO, xs900⟩) ⟨HTT.out, HC_.out, hcc, good900.1⟩)
            go_wp2_with (first | ((with_reducible refine gate_builtin (b := .append) (xs := #[.tmp 55, .tmp 57]) rfl ?_); at_builtin; (refine Kd.R_append KM (w0 := w) w.heap.size rfl (.tmp 55) (.tmp 57) 52 47 (.slice none 0 0) 24 rfl Try.underlying52 info47 rfl (by decide) (by omega) _ ms (⟨⟨g, 0, none⟩, cO, xs900⟩ : Met) [.slice (some ⟨g, 0, none⟩) 4 cO] (fun k => k ≠ b ∧ k ≠ r) (fun _ => False) rfl rfl ?aP (fun _ hk => hk.elim) ?aF ?aO ?aB ?aS ?aL ?_; (case aP => exact rfl); (case aB => exact HBt.out); (case aF => exact (fun k hk => by have h_ := HS.out.lt; omega)); (case aO => exact HOB.out); (case aS => exact below_size HBt.out); (case aL => have := HK.out; omega); intro v542 w7 ho hb hg hat; have HB7 := Aside0.mk hb; have HO7 := Aside0.mk ho; have HMX := Aside0.mk (HMX0.out.grown HOB.out hg); have HS7 : Aside0 (Sc w7 b r 50 3 10 ss0) := ⟨HS.out.kept (hg.block b HS.out.lt.1 (fun e => (HOB.out.1 b e.symm).1 rfl)) (hg.block r HS.out.lt.2 (fun e => (HOB.out.1 r e.symm).2 rfl))⟩; clear ho hb hg hat)))
            go_roundg (gk - 1)
            case measure => have := HK.out; omega
            case rel => exact ⟨i + 1, ms ++ [⟨⟨g, 0, none⟩, cO, xs900⟩], true, (by first | rfl | (simp; done)), (by first | rfl | (simp; done) | (congr 1; unfold wrap64; omega)), ⟨by have := HK.out; omega, by have := HK.out; rw [List.length_append]; simp; omega⟩, ⟨by rw [List.map_append]; exact goods HG.out good900⟩, HO7, HMX, HS7, HB7⟩
        | false =>
          cases B2 with
          | true =>
            obtain ⟨WB, hWB⟩ : ∃ z, z = wO := ⟨_, rfl⟩
            subst hWB
            have HOB := Aside0.mk (Kd.R_below HO.out HBr.out)
            have HMTB := Aside0.mk (HMG.out.below HBr.out)
            have c2 : ∀ W : World, (Instr.slice 47 (.slice (some ⟨g, 0, none⟩) 4 cO) (some (.int .i64 2)) none none).run Try.prog W = .ok (.slice (some ⟨g, 8, none⟩) 2 (cO - 2)) W := fun W => cut_l49 W g 4 cO 2 (by omega) hcX
            have hC : Kd.C k49 WB (some ⟨g, 8, none⟩) (xsF.drop 2).length (xsF.drop 2) := HSW.out.1.C 2 (by decide)
            have hcc : (xsF.drop 2).length ≤ cO - 2 := by have h_ : 4 ≤ cO := hcX; show 2 ≤ cO - 2; omega
            have HC_ := Aside0.mk hC
            clear hC
            have HMX0 := Aside0.mk (HMTB.out.snoc (m := ⟨⟨g, 8, none⟩, cO - 2, xsF.drop 2⟩) ⟨HTT.out, HC_.out, hcc, (good_few (xsF.drop 2) ⟨by decide, by decide, by decide⟩ rfl).1⟩)
            go_wp2_with (first | ((with_reducible refine gate_builtin (b := .append) (xs := #[.tmp 55, .tmp 57]) rfl ?_); at_builtin; (refine Kd.R_append KM (w0 := w) w.heap.size rfl (.tmp 55) (.tmp 57) 52 47 (.slice none 0 0) 24 rfl Try.underlying52 info47 rfl (by decide) (by omega) _ ms (⟨⟨g, 8, none⟩, cO - 2, xsF.drop 2⟩ : Met) [.slice (some ⟨g, 8, none⟩) 2 (cO - 2)] (fun k => k ≠ b ∧ k ≠ r) (fun _ => False) rfl rfl ?aP (fun _ hk => hk.elim) ?aF ?aO ?aB ?aS ?aL ?_; (case aP => exact rfl); (case aB => exact HBt.out); (case aF => exact (fun k hk => by have h_ := HS.out.lt; omega)); (case aO => exact HOB.out); (case aS => exact below_size HBt.out); (case aL => have := HK.out; omega); intro v542 w7 ho hb hg hat; have HB7 := Aside0.mk hb; have HO7 := Aside0.mk ho; have HMX := Aside0.mk (HMX0.out.grown HOB.out hg); have HS7 : Aside0 (Sc w7 b r 50 3 10 ss0) := ⟨HS.out.kept (hg.block b HS.out.lt.1 (fun e => (HOB.out.1 b e.symm).1 rfl)) (hg.block r HS.out.lt.2 (fun e => (HOB.out.1 r e.symm).2 rfl))⟩; clear ho hb hg hat)))
            go_roundg (gk - 1)
            case measure => have := HK.out; omega
            case rel => exact ⟨i + 1, ms ++ [⟨⟨g, 8, none⟩, cO - 2, xsF.drop 2⟩], true, (by first | rfl | (simp; done)), (by first | rfl | (simp; done) | (congr 1; unfold wrap64; omega)), ⟨by have := HK.out; omega, by have := HK.out; rw [List.length_append]; simp; omega⟩, ⟨by rw [List.map_append]; exact goods HG.out (good_few (xsF.drop 2) ⟨by decide, by decide, by decide⟩ rfl)⟩, HO7, HMX, HS7, HB7⟩
          | false =>
            obtain ⟨WB, hWB⟩ : ∃ z, z = wO := ⟨_, rfl⟩
            subst hWB
            have HOB := Aside0.mk (Kd.R_below HO.out HBr.out)
            have HMTB := Aside0.mk (HMG.out.below HBr.out)
            have hC : Kd.C k49 WB (some ⟨g, 0, none⟩) xsF.length xsF := HSW.out.1.C 0 (by decide)
            have hcc : xsF.length ≤ cO := hcX
            have HC_ := Aside0.mk hC
            clear hC
            have HMX0 := Aside0.mk (HMTB.out.snoc (m := ⟨⟨g, 0, none⟩, cO, xsF⟩) ⟨HTT.out, HC_.out, hcc, goodF.1⟩)
            go_wp2_with (first | ((with_reducible refine gate_builtin (b := .append) (xs := #[.tmp 55, .tmp 57]) rfl ?_); at_builtin; (refine Kd.R_append KM (w0 := w) w.heap.size rfl (.tmp 55) (.tmp 57) 52 47 (.slice none 0 0) 24 rfl Try.underlying52 info47 rfl (by decide) (by omega) _ ms (⟨⟨g, 0, none⟩, cO, xsF⟩ : Met) [.slice (some ⟨g, 0, none⟩) 4 cO] (fun k => k ≠ b ∧ k ≠ r) (fun _ => False) rfl rfl ?aP (fun _ hk => hk.elim) ?aF ?aO ?aB ?aS ?aL ?_; (case aP => exact rfl); (case aB => exact HBt.out); (case aF => exact (fun k hk => by have h_ := HS.out.lt; omega)); (case aO => exact HOB.out); (case aS => exact below_size HBt.out); (case aL => have := HK.out; omega); intro v542 w7 ho hb hg hat; have HB7 := Aside0.mk hb; have HO7 := Aside0.mk ho; have HMX := Aside0.mk (HMX0.out.grown HOB.out hg); have HS7 : Aside0 (Sc w7 b r 50 3 10 ss0) := ⟨HS.out.kept (hg.block b HS.out.lt.1 (fun e => (HOB.out.1 b e.symm).1 rfl)) (hg.block r HS.out.lt.2 (fun e => (HOB.out.1 r e.symm).2 rfl))⟩; clear ho hb hg hat)))
            go_roundg (gk - 1)
            case measure => have := HK.out; omega
            case rel => exact ⟨i + 1, ms ++ [⟨⟨g, 0, none⟩, cO, xsF⟩], true, (by first | rfl | (simp; done)), (by first | rfl | (simp; done) | (congr 1; unfold wrap64; omega)), ⟨by have := HK.out; omega, by have := HK.out; rw [List.length_append]; simp; omega⟩, ⟨by rw [List.map_append]; exact goods HG.out goodF⟩, HO7, HMX, HS7, HB7⟩
      | false =>
        cases B1 with
        | true =>
          cases B2 with
          | true =>
            have q15 : wO.cell? ⟨g, 15, none⟩ = some (.int .i64 100) := (HSW.out.1 3 (smp 3 100) rfl).2.2.2
            have z15 : wO.frozen? ⟨g, 15, none⟩ = false := HSW.out.2 15
            go_upto_region 13 with (fail)
            have hsw : SW (wO.setCell ⟨g, 15, none⟩ (.int .i64 900)) g xs900 := HSW.out.set3 (i := 3) (s := smp 3 100) rfl 900
            have hss : Sc (wO.setCell ⟨g, 15, none⟩ (.int .i64 900)) b r 50 3 10 ss0 := HS.out.ft (Ft.set (S := fun k => k = g) (Ft.refl _ wO) rfl (.int .i64 900)) (by omega) (by omega)
            have hbb : Below w.heap.size w (wO.setCell ⟨g, 15, none⟩ (.int .i64 900)) := below_set HBt.out hgw
            have hbr : Below wr.heap.size wr (wO.setCell ⟨g, 15, none⟩ (.int .i64 900)) := below_set HBr.out hgr2
            have htt : T49 (wO.setCell ⟨g, 15, none⟩ (.int .i64 900)) g := by obtain ⟨cs, hcs⟩ := HTT.out; exact ⟨_, blk_put hcs 15 _ rfl⟩
            clear q15 z15 HSW HS HBt HBr HTT hltO
            have HSW := Aside0.mk hsw
            have HS := Aside0.mk hss
            have HBt := Aside0.mk hbb
            have HBr := Aside0.mk hbr
            have HTT := Aside0.mk htt
            clear hsw hss hbb hbr htt
            generalize wO.setCell ⟨g, 15, none⟩ (.int .i64 900) = WB at *
            have HOB := Aside0.mk (Kd.R_below HO.out HBr.out)
            have HMTB := Aside0.mk (HMG.out.below HBr.out)
            have c2 : ∀ W : World, (Instr.slice 47 (.slice (some ⟨g, 0, none⟩) 4 cO) (some (.int .i64 2)) none none).run Try.prog W = .ok (.slice (some ⟨g, 8, none⟩) 2 (cO - 2)) W := fun W => cut_l49 W g 4 cO 2 (by omega) hcX
            have hC : Kd.C k49 WB (some ⟨g, 8, none⟩) (xs900.drop 2).length (xs900.drop 2) := HSW.out.1.C 2 (by decide)
            have hcc : (xs900.drop 2).length ≤ cO - 2 := by have h_ : 4 ≤ cO := hcX; show 2 ≤ cO - 2; omega
            have HC_ := Aside0.mk hC
            clear hC
            have HMX0 := Aside0.mk (HMTB.out.snoc (m := ⟨⟨g, 8, none⟩, cO - 2, xs900.drop 2⟩) ⟨HTT.out, HC_.out, hcc, (good_few (xs900.drop 2) ⟨by decide, by decide, by decide⟩ rfl).1⟩)
            go_wp2_with (first | ((with_reducible refine gate_builtin (b := .append) (xs := #[.tmp 55, .tmp 57]) rfl ?_); at_builtin; (refine Kd.R_append KM (w0 := w) w.heap.size rfl (.tmp 55) (.tmp 57) 52 47 (.slice none 0 0) 24 rfl Try.underlying52 info47 rfl (by decide) (by omega) _ ms (⟨⟨g, 8, none⟩, cO - 2, xs900.drop 2⟩ : Met) [.slice (some ⟨g, 8, none⟩) 2 (cO - 2)] (fun k => k ≠ b ∧ k ≠ r) (fun _ => False) rfl rfl ?aP (fun _ hk => hk.elim) ?aF ?aO ?aB ?aS ?aL ?_; (case aP => exact rfl); (case aB => exact HBt.out); (case aF => exact (fun k hk => by have h_ := HS.out.lt; omega)); (case aO => exact HOB.out); (case aS => exact below_size HBt.out); (case aL => have := HK.out; omega); intro v542 w7 ho hb hg hat; have HB7 := Aside0.mk hb; have HO7 := Aside0.mk ho; have HMX := Aside0.mk (HMX0.out.grown HOB.out hg); have HS7 : Aside0 (Sc w7 b r 50 3 10 ss0) := ⟨HS.out.kept (hg.block b HS.out.lt.1 (fun e => (HOB.out.1 b e.symm).1 rfl)) (hg.block r HS.out.lt.2 (fun e => (HOB.out.1 r e.symm).2 rfl))⟩; clear ho hb hg hat)))
            go_roundg (gk - 1)
            case measure => have := HK.out; omega
            case rel => exact ⟨i + 1, ms ++ [⟨⟨g, 8, none⟩, cO - 2, xs900.drop 2⟩], false, (by first | rfl | (simp; done)), (by first | rfl | (simp; done) | (congr 1; unfold wrap64; omega)), ⟨by have := HK.out; omega, by have := HK.out; rw [List.length_append]; simp; omega⟩, ⟨by rw [List.map_append]; exact goods HG.out (good_few (xs900.drop 2) ⟨by decide, by decide, by decide⟩ rfl)⟩, HO7, HMX, HS7, HB7⟩
          | false =>
            have q15 : wO.cell? ⟨g, 15, none⟩ = some (.int .i64 100) := (HSW.out.1 3 (smp 3 100) rfl).2.2.2
            have z15 : wO.frozen? ⟨g, 15, none⟩ = false := HSW.out.2 15
            go_upto_region 13 with (fail)
            have hsw : SW (wO.setCell ⟨g, 15, none⟩ (.int .i64 900)) g xs900 := HSW.out.set3 (i := 3) (s := smp 3 100) rfl 900
            have hss : Sc (wO.setCell ⟨g, 15, none⟩ (.int .i64 900)) b r 50 3 10 ss0 := HS.out.ft (Ft.set (S := fun k => k = g) (Ft.refl _ wO) rfl (.int .i64 900)) (by omega) (by omega)
            have hbb : Below w.heap.size w (wO.setCell ⟨g, 15, none⟩ (.int .i64 900)) := below_set HBt.out hgw
            have hbr : Below wr.heap.size wr (wO.setCell ⟨g, 15, none⟩ (.int .i64 900)) := below_set HBr.out hgr2
            have htt : T49 (wO.setCell ⟨g, 15, none⟩ (.int .i64 900)) g := by obtain ⟨cs, hcs⟩ := HTT.out; exact ⟨_, blk_put hcs 15 _ rfl⟩
            clear q15 z15 HSW HS HBt HBr HTT hltO
            have HSW := Aside0.mk hsw
            have HS := Aside0.mk hss
            have HBt := Aside0.mk hbb
            have HBr := Aside0.mk hbr
            have HTT := Aside0.mk htt
            clear hsw hss hbb hbr htt
            generalize wO.setCell ⟨g, 15, none⟩ (.int .i64 900) = WB at *
            have HOB := Aside0.mk (Kd.R_below HO.out HBr.out)
            have HMTB := Aside0.mk (HMG.out.below HBr.out)
            have hC : Kd.C k49 WB (some ⟨g, 0, none⟩) xs900.length xs900 := HSW.out.1.C 0 (by decide)
            have hcc : xs900.length ≤ cO := hcX
            have HC_ := Aside0.mk hC
            clear hC
            have HMX0 := Aside0.mk (HMTB.out.snoc (m := ⟨⟨g, 0, none⟩, cO, xs900⟩) ⟨HTT.out, HC_.out, hcc, good900.1⟩)
            go_wp2_with (first | ((with_reducible refine gate_builtin (b := .append) (xs := #[.tmp 55, .tmp 57]) rfl ?_); at_builtin; (refine Kd.R_append KM (w0 := w) w.heap.size rfl (.tmp 55) (.tmp 57) 52 47 (.slice none 0 0) 24 rfl Try.underlying52 info47 rfl (by decide) (by omega) _ ms (⟨⟨g, 0, none⟩, cO, xs900⟩ : Met) [.slice (some ⟨g, 0, none⟩) 4 cO] (fun k => k ≠ b ∧ k ≠ r) (fun _ => False) rfl rfl ?aP (fun _ hk => hk.elim) ?aF ?aO ?aB ?aS ?aL ?_; (case aP => exact rfl); (case aB => exact HBt.out); (case aF => exact (fun k hk => by have h_ := HS.out.lt; omega)); (case aO => exact HOB.out); (case aS => exact below_size HBt.out); (case aL => have := HK.out; omega); intro v542 w7 ho hb hg hat; have HB7 := Aside0.mk hb; have HO7 := Aside0.mk ho; have HMX := Aside0.mk (HMX0.out.grown HOB.out hg); have HS7 : Aside0 (Sc w7 b r 50 3 10 ss0) := ⟨HS.out.kept (hg.block b HS.out.lt.1 (fun e => (HOB.out.1 b e.symm).1 rfl)) (hg.block r HS.out.lt.2 (fun e => (HOB.out.1 r e.symm).2 rfl))⟩; clear ho hb hg hat)))
            go_roundg (gk - 1)
            case measure => have := HK.out; omega
            case rel => exact ⟨i + 1, ms ++ [⟨⟨g, 0, none⟩, cO, xs900⟩], true, (by first | rfl | (simp; done)), (by first | rfl | (simp; done) | (congr 1; unfold wrap64; omega)), ⟨by have := HK.out; omega, by have := HK.out; rw [List.length_append]; simp; omega⟩, ⟨by rw [List.map_append]; exact goods HG.out good900⟩, HO7, HMX, HS7, HB7⟩
        | false =>
          cases B2 with
          | true =>
            obtain ⟨WB, hWB⟩ : ∃ z, z = wO := ⟨_, rfl⟩
            subst hWB
            have HOB := Aside0.mk (Kd.R_below HO.out HBr.out)
            have HMTB := Aside0.mk (HMG.out.below HBr.out)
            have c2 : ∀ W : World, (Instr.slice 47 (.slice (some ⟨g, 0, none⟩) 4 cO) (some (.int .i64 2)) none none).run Try.prog W = .ok (.slice (some ⟨g, 8, none⟩) 2 (cO - 2)) W := fun W => cut_l49 W g 4 cO 2 (by omega) hcX
            have hC : Kd.C k49 WB (some ⟨g, 8, none⟩) (xsF.drop 2).length (xsF.drop 2) := HSW.out.1.C 2 (by decide)
            have hcc : (xsF.drop 2).length ≤ cO - 2 := by have h_ : 4 ≤ cO := hcX; show 2 ≤ cO - 2; omega
            have HC_ := Aside0.mk hC
            clear hC
            have HMX0 := Aside0.mk (HMTB.out.snoc (m := ⟨⟨g, 8, none⟩, cO - 2, xsF.drop 2⟩) ⟨HTT.out, HC_.out, hcc, (good_few (xsF.drop 2) ⟨by decide, by decide, by decide⟩ rfl).1⟩)
            go_wp2_with (first | ((with_reducible refine gate_builtin (b := .append) (xs := #[.tmp 55, .tmp 57]) rfl ?_); at_builtin; (refine Kd.R_append KM (w0 := w) w.heap.size rfl (.tmp 55) (.tmp 57) 52 47 (.slice none 0 0) 24 rfl Try.underlying52 info47 rfl (by decide) (by omega) _ ms (⟨⟨g, 8, none⟩, cO - 2, xsF.drop 2⟩ : Met) [.slice (some ⟨g, 8, none⟩) 2 (cO - 2)] (fun k => k ≠ b ∧ k ≠ r) (fun _ => False) rfl rfl ?aP (fun _ hk => hk.elim) ?aF ?aO ?aB ?aS ?aL ?_; (case aP => exact rfl); (case aB => exact HBt.out); (case aF => exact (fun k hk => by have h_ := HS.out.lt; omega)); (case aO => exact HOB.out); (case aS => exact below_size HBt.out); (case aL => have := HK.out; omega); intro v542 w7 ho hb hg hat; have HB7 := Aside0.mk hb; have HO7 := Aside0.mk ho; have HMX := Aside0.mk (HMX0.out.grown HOB.out hg); have HS7 : Aside0 (Sc w7 b r 50 3 10 ss0) := ⟨HS.out.kept (hg.block b HS.out.lt.1 (fun e => (HOB.out.1 b e.symm).1 rfl)) (hg.block r HS.out.lt.2 (fun e => (HOB.out.1 r e.symm).2 rfl))⟩; clear ho hb hg hat)))
            go_roundg (gk - 1)
            case measure => have := HK.out; omega
            case rel => exact ⟨i + 1, ms ++ [⟨⟨g, 8, none⟩, cO - 2, xsF.drop 2⟩], false, (by first | rfl | (simp; done)), (by first | rfl | (simp; done) | (congr 1; unfold wrap64; omega)), ⟨by have := HK.out; omega, by have := HK.out; rw [List.length_append]; simp; omega⟩, ⟨by rw [List.map_append]; exact goods HG.out (good_few (xsF.drop 2) ⟨by decide, by decide, by decide⟩ rfl)⟩, HO7, HMX, HS7, HB7⟩
          | false =>
            obtain ⟨WB, hWB⟩ : ∃ z, z = wO := ⟨_, rfl⟩
            subst hWB
            have HOB := Aside0.mk (Kd.R_below HO.out HBr.out)
            have HMTB := Aside0.mk (HMG.out.below HBr.out)
            have hC : Kd.C k49 WB (some ⟨g, 0, none⟩) xsF.length xsF := HSW.out.1.C 0 (by decide)
            have hcc : xsF.length ≤ cO := hcX
            have HC_ := Aside0.mk hC
            clear hC
            have HMX0 := Aside0.mk (HMTB.out.snoc (m := ⟨⟨g, 0, none⟩, cO, xsF⟩) ⟨HTT.out, HC_.out, hcc, goodF.1⟩)
            go_wp2_with (first | ((with_reducible refine gate_builtin (b := .append) (xs := #[.tmp 55, .tmp 57]) rfl ?_); at_builtin; (refine Kd.R_append KM (w0 := w) w.heap.size rfl (.tmp 55) (.tmp 57) 52 47 (.slice none 0 0) 24 rfl Try.underlying52 info47 rfl (by decide) (by omega) _ ms (⟨⟨g, 0, none⟩, cO, xsF⟩ : Met) [.slice (some ⟨g, 0, none⟩) 4 cO] (fun k => k ≠ b ∧ k ≠ r) (fun _ => False) rfl rfl ?aP (fun _ hk => hk.elim) ?aF ?aO ?aB ?aS ?aL ?_; (case aP => exact rfl); (case aB => exact HBt.out); (case aF => exact (fun k hk => by have h_ := HS.out.lt; omega)); (case aO => exact HOB.out); (case aS => exact below_size HBt.out); (case aL => have := HK.out; omega); intro v542 w7 ho hb hg hat; have HB7 := Aside0.mk hb; have HO7 := Aside0.mk ho; have HMX := Aside0.mk (HMX0.out.grown HOB.out hg); have HS7 : Aside0 (Sc w7 b r 50 3 10 ss0) := ⟨HS.out.kept (hg.block b HS.out.lt.1 (fun e => (HOB.out.1 b e.symm).1 rfl)) (hg.block r HS.out.lt.2 (fun e => (HOB.out.1 r e.symm).2 rfl))⟩; clear ho hb hg hat)))
            go_roundg (gk - 1)
            case measure => have := HK.out; omega
            case rel => exact ⟨i + 1, ms ++ [⟨⟨g, 0, none⟩, cO, xsF⟩], false, (by first | rfl | (simp; done)), (by first | rfl | (simp; done) | (congr 1; unfold wrap64; omega)), ⟨by have := HK.out; omega, by have := HK.out; rw [List.length_append]; simp; omega⟩, ⟨by rw [List.map_append]; exact goods HG.out goodF⟩, HO7, HMX, HS7, HB7⟩
    · have d1 : decide ((i : Int) < 3) = false := decide_eq_false h1
      obtain ⟨lb, cl, rfl, hcl⟩ := own_met HO.out (fun e => by have := HK.out; rw [e] at this; simp at this; omega)
      have HCLB := Aside0.mk hcl
      clear hcl
      go_upto_region 18 with (first | (go_at_call 36; ((with_reducible refine (close_mt (by have := HK.out; omega) HG HS HMG HCLB).mono ?_); rintro e w6 ⟨A_, c_, rfl, hs, hf⟩; have n0_ := Aside0.mk (Below.ft HBt.out hf hbN hrN); clear HBt; have HBt := n0_; clear n0_; clear HS; have HS := Aside0.mk hs; clear hs hf)))
      cases S with
      | true =>
        rw [if_pos rfl] at HS
        have g3 : ([o0, o0, o0, ⟨1, 0, false⟩] : List Std)[3]? = some ⟨1, 0, false⟩ := rfl
        go_upto_region 19 with (first | (go_at_call 37; ((with_reducible refine (get_at 3 3 (by omega) ⟨1, 0, false⟩ g3 HS).mono ?_); rintro e w6 ⟨rfl, hb⟩; have n0_ := Aside0.mk (below_step HBt.out hb); clear HBt; have HBt := n0_; clear n0_; have m_ := Aside0.mk (HS.out.below hb); clear HS; have HS := m_; clear m_; clear hb)) | ((with_reducible refine gate_dst (N := 13) rfl ?_); refine box_event ?hg (N := 13) ?hd (cs := #[.int .i64 0, .int .i64 0, .bool false]) (t := 54) ?hr ?_; (case hd => rfl); (case hg => rfl); (case hr => first | (go_simp; done) | (go_simp; rfl)); intro gb hg w5 hbox hb; have BK := Aside0.mk hbox; have HB5 := Aside0.mk hb; have hcz_0 : w5.cell? ⟨gb, 0, none⟩ = some (.int .i64 0) := (blk_cell hbox 0).trans rfl; have hfz_0 := blk_frozen hbox 0; have hcz_1 : w5.cell? ⟨gb, 1, none⟩ = some (.int .i64 0) := (blk_cell hbox 1).trans rfl; have hfz_1 := blk_frozen hbox 1; have hcz_2 : w5.cell? ⟨gb, 2, none⟩ = some (.bool false) := (blk_cell hbox 2).trans rfl; have hfz_2 := blk_frozen hbox 2; have HG := Aside0.mk hg; clear hb hbox hg))
        have hb1 := box54_put BK.out HB5.out HG.out HS.out.lt ⟨1, 0, false⟩
        clear hcz_0 hfz_0 hcz_1 hfz_1 hcz_2 hfz_2
        dsimp only at hb1
        generalize (((w5.setCell ⟨gb, 0, none⟩ (.int .i64 1)).setCell ⟨gb, 1, none⟩ (.int .i64 0)).setCell ⟨gb, 2, none⟩ (.bool false)) = WB7 at *
        have hb := hb1.1
        have HC7 := Aside0.mk hb1.2
        have n0_ := Aside0.mk (below_step HBt.out hb); clear HBt; have HBt := n0_; clear n0_; have m_ := Aside0.mk (HS.out.below hb); clear HS; have HS := m_; clear m_
        clear hb hb1 BK HB5 HG
        obtain ⟨gb7, hgb7⟩ : ∃ z, z = gb := ⟨_, rfl⟩
        subst hgb7
        go_upto_region 23 with (first | (go_at_call 41; ((with_reducible refine (all_at 4 (by decide) HS).mono ?_); rintro e w6 ⟨Aa, ca, rfl, hca, hCa, hb⟩; have n0_ := Aside0.mk (below_step HBt.out hb); clear HBt; have HBt := n0_; clear n0_; have m_ := Aside0.mk (HC7.out.below hb); clear HC7; have HC7 := m_; clear m_; have HAll := Aside0.mk hCa; clear hb hCa)))
        obtain ⟨x0, x1, x2⟩ := HC7.out.cells
        dsimp only at x0 x1 x2
        go_wp2_with (first | (go_at_call 38; ((with_reducible refine (told_calls _).mono ?_); rintro e w6 ⟨rfl, hb⟩; have n0_ := Aside0.mk (below_step HBt.out hb); clear HBt; have HBt := n0_; clear n0_; have m_ := Aside0.mk (HC7.out.below hb); clear HC7; have HC7 := m_; clear m_; have a0_ := Aside0.mk (Kd.C_below HAll.out hb); clear HAll; have HAll := a0_; clear a0_; obtain ⟨x0, x1, x2⟩ := HC7.out.cells; dsimp only at x0 x1 x2; clear hb)) | (go_at_call 42; ((with_reducible refine (same_at 6 4 4 ca 4 Aa _ _ [⟨0, 0, false⟩, ⟨0, 0, false⟩, ⟨0, 0, false⟩, ⟨1, 0, false⟩] (by decide) (by decide) _ ⟨Kd.C_alloc HAll.out _⟩ hca ⟨lit54C _ 1⟩ (Nat.le_refl _) same1).mono ?_); rintro e w6 ⟨rfl, hb⟩; have n0_ := Aside0.mk (below_step (below_alloc HBt.out _) hb); clear HBt; have HBt := n0_; clear n0_; clear hb)))
        go_ret
        exact ⟨rfl, HBt.out⟩
      | false =>
        rw [if_neg (by decide)] at HS
        have g3 : ([o0, o0, o0, ⟨0, 0, false⟩] : List Std)[3]? = some ⟨0, 0, false⟩ := rfl
        go_upto_region 19 with (first | (go_at_call 37; ((with_reducible refine (get_at 3 3 (by omega) ⟨0, 0, false⟩ g3 HS).mono ?_); rintro e w6 ⟨rfl, hb⟩; have n0_ := Aside0.mk (below_step HBt.out hb); clear HBt; have HBt := n0_; clear n0_; have m_ := Aside0.mk (HS.out.below hb); clear HS; have HS := m_; clear m_; clear hb)) | ((with_reducible refine gate_dst (N := 13) rfl ?_); refine box_event ?hg (N := 13) ?hd (cs := #[.int .i64 0, .int .i64 0, .bool false]) (t := 54) ?hr ?_; (case hd => rfl); (case hg => rfl); (case hr => first | (go_simp; done) | (go_simp; rfl)); intro gb hg w5 hbox hb; have BK := Aside0.mk hbox; have HB5 := Aside0.mk hb; have hcz_0 : w5.cell? ⟨gb, 0, none⟩ = some (.int .i64 0) := (blk_cell hbox 0).trans rfl; have hfz_0 := blk_frozen hbox 0; have hcz_1 : w5.cell? ⟨gb, 1, none⟩ = some (.int .i64 0) := (blk_cell hbox 1).trans rfl; have hfz_1 := blk_frozen hbox 1; have hcz_2 : w5.cell? ⟨gb, 2, none⟩ = some (.bool false) := (blk_cell hbox 2).trans rfl; have hfz_2 := blk_frozen hbox 2; have HG := Aside0.mk hg; clear hb hbox hg))
        have hb1 := box54_put BK.out HB5.out HG.out HS.out.lt ⟨0, 0, false⟩
        clear hcz_0 hfz_0 hcz_1 hfz_1 hcz_2 hfz_2
        dsimp only at hb1
        generalize (((w5.setCell ⟨gb, 0, none⟩ (.int .i64 0)).setCell ⟨gb, 1, none⟩ (.int .i64 0)).setCell ⟨gb, 2, none⟩ (.bool false)) = WB7 at *
        have hb := hb1.1
        have HC7 := Aside0.mk hb1.2
        have n0_ := Aside0.mk (below_step HBt.out hb); clear HBt; have HBt := n0_; clear n0_; have m_ := Aside0.mk (HS.out.below hb); clear HS; have HS := m_; clear m_
        clear hb hb1 BK HB5 HG
        obtain ⟨gb7, hgb7⟩ : ∃ z, z = gb := ⟨_, rfl⟩
        subst hgb7
        go_upto_region 23 with (first | (go_at_call 41; ((with_reducible refine (all_at 4 (by decide) HS).mono ?_); rintro e w6 ⟨Aa, ca, rfl, hca, hCa, hb⟩; have n0_ := Aside0.mk (below_step HBt.out hb); clear HBt; have HBt := n0_; clear n0_; have m_ := Aside0.mk (HC7.out.below hb); clear HC7; have HC7 := m_; clear m_; have HAll := Aside0.mk hCa; clear hb hCa)))
        obtain ⟨x0, x1, x2⟩ := HC7.out.cells
        dsimp only at x0 x1 x2
        go_wp2_with (first | (go_at_call 38; ((with_reducible refine (told_calls _).mono ?_); rintro e w6 ⟨rfl, hb⟩; have n0_ := Aside0.mk (below_step HBt.out hb); clear HBt; have HBt := n0_; clear n0_; have m_ := Aside0.mk (HC7.out.below hb); clear HC7; have HC7 := m_; clear m_; have a0_ := Aside0.mk (Kd.C_below HAll.out hb); clear HAll; have HAll := a0_; clear a0_; obtain ⟨x0, x1, x2⟩ := HC7.out.cells; dsimp only at x0 x1 x2; clear hb)) | (go_at_call 42; ((with_reducible refine (same_at 6 4 4 ca 4 Aa _ _ [⟨0, 0, false⟩, ⟨0, 0, false⟩, ⟨0, 0, false⟩, ⟨0, 0, false⟩] (by decide) (by decide) _ ⟨Kd.C_alloc HAll.out _⟩ hca ⟨lit54C _ 0⟩ (Nat.le_refl _) same0).mono ?_); rintro e w6 ⟨rfl, hb⟩; have n0_ := Aside0.mk (below_step (below_alloc HBt.out _) hb); clear HBt; have HBt := n0_; clear n0_; clear hb)))
        go_ret
        exact ⟨rfl, HBt.out⟩
end Go.Proofs.Ytjcjibghnpjegaa.Sc
