-- Made by a program of this session (wip: patch_print.py, pr.sh) out of the kit's print: functions over lists and the proof that the Go code comes to them.
import Derived.Test.YtjcjibghnpjegaaPr0
namespace Go.Proofs.Ytjcjibghnpjegaa.Pr
open Go.RowKit Go.Proofs.YtjcjibghnpjegaaW.PrintWords Go.Proofs.YtjcjibghnpjegaaW.PrintLast Go.Proofs.YtjcjibghnpjegaaW.PrintMore
attribute [local go_sem] max2_int min2_int max_two min_two max_three min_three max_four min_four   -- for this text's walks alone
set_option linter.unusedVariables false
set_option linter.unusedSimpArgs false

/-! ### quorumiteref9_Sort: function 20 -/
def quorumiteref9_Sort.insAt (m : List Int) (x : Int) : Nat → Nat
  | 0 => 0
  | k + 1 => if x < m.getD k 0 then quorumiteref9_Sort.insAt m x k else k + 1
def quorumiteref9_Sort.ins (m : List Int) (x : Int) : List Int := m.take (quorumiteref9_Sort.insAt m x m.length) ++ [x] ++ m.drop (quorumiteref9_Sort.insAt m x m.length)
def quorumiteref9_Sort.insL : List Int → List Int → List Int
  | m, [] => m
  | m, x :: l => quorumiteref9_Sort.insL (quorumiteref9_Sort.ins m x) l
def quorumiteref9_Sort.f (l0 : List Int) : Option (List Int) := if l0.length < 17592186044416 then some (quorumiteref9_Sort.insL [] l0) else none
theorem quorumiteref9_Sort.insAt_le (m : List Int) (x : Int) : ∀ k, quorumiteref9_Sort.insAt m x k ≤ k
  | 0 => Nat.le_refl _
  | k + 1 => by
    unfold quorumiteref9_Sort.insAt
    split
    · have := quorumiteref9_Sort.insAt_le m x k; omega
    · exact Nat.le_refl _
theorem quorumiteref9_Sort.insL_snoc (x : Int) : ∀ (l m : List Int), quorumiteref9_Sort.insL m (l ++ [x]) = quorumiteref9_Sort.ins (quorumiteref9_Sort.insL m l) x
  | [], m => rfl
  | y :: l, m => quorumiteref9_Sort.insL_snoc x l (quorumiteref9_Sort.ins m y)
theorem quorumiteref9_Sort.ins_length (m : List Int) (x : Int) : (quorumiteref9_Sort.ins m x).length = m.length + 1 := by
  have := quorumiteref9_Sort.insAt_le m x m.length
  unfold quorumiteref9_Sort.ins
  simp only [List.length_append, List.length_take, List.length_drop, List.length_singleton]; omega
theorem quorumiteref9_Sort.insL_length : ∀ (l m : List Int), (quorumiteref9_Sort.insL m l).length = m.length + l.length
  | [], m => rfl
  | y :: l, m => by
    rw [quorumiteref9_Sort.insL, quorumiteref9_Sort.insL_length l, quorumiteref9_Sort.ins_length, List.length_cons]; omega
theorem quorumiteref9_Sort.insL_take (l : List Int) (j : Nat) (h : j < l.length) : quorumiteref9_Sort.insL [] (l.take (j + 1)) = quorumiteref9_Sort.ins (quorumiteref9_Sort.insL [] (l.take j)) (rd l (j : Int)) := by
  rw [List.take_succ_eq_append_getElem h, quorumiteref9_Sort.insL_snoc]
  congr 1
  simp [rd, List.getD_eq_getElem?_getD, h]
def quorumiteref9_Sort.T8 : Bool × List (List Nat × List Nat) := (true, [([], []), ([], []), ([], []), ([1, 2], [1, 2]), ([0, 3], [0, 3]), ([], []), ([], []), ([5, 6], [5, 6]), ([7], [7]), ([8], [8]), ([4, 9, 4], [4, 9]), ([], []), ([], []), ([11, 12], [11, 12]), ([10, 13, 10], [10, 13]), ([14, 14, 0, 1, 2, 3, 4, 5, 6, 7, 8, 9, 10, 11, 12, 13, 14], [1, 11, 14])])
def quorumiteref9_Sort.B8 : List Nat := [0, 0, 0, 6, 15, 0, 0, 96, 224, 480, 1023, 0, 0, 6144, 16383, 32767]
theorem quorumiteref9_Sort.tab8 : rtab .any (opsOf Try.f20 8) = quorumiteref9_Sort.T8 := by kernel_rfl
theorem quorumiteref9_Sort.bits8 : waitsOk quorumiteref9_Sort.T8.2 quorumiteref9_Sort.B8 = true := by kernel_rfl
theorem quorumiteref9_Sort.below_more {w W0 W : World} (h0 : Below w.heap.size w W0) (h : Below W0.heap.size W0 W) : Below w.heap.size w W := below_step h0 h
set_option maxHeartbeats 4000000 in
set_option maxRecDepth 100000 in
theorem quorumiteref9_Sort.calls (A0 : Option Addr) (c0 : Nat) (l0 : List Int) (r : List Int) (w : World) (hr0 : Kd.C (Kd.int .i64) w A0 l0.length l0) (hc0 : l0.length ≤ c0) (h : quorumiteref9_Sort.f l0 = some r) :
    Calls Try.prog 20 #[.slice A0 l0.length c0] w fun e w' => ∃ v0_ : Value, e = .returned (v0_) ∧ Kd.R (Kd.int .i64) 2 w' w.heap.size (fun _ => True) v0_ r ∧ Below w.heap.size w w' := by
  unfold quorumiteref9_Sort.f at h
  by_cases hL : l0.length < 17592186044416
  · rw [if_pos hL] at h
    have HRr := Aside0.mk (Option.some.inj h)
    have HL := Aside0.mk hL
    have HR0 := Aside0.mk hr0
    have HC0 := Aside0.mk hc0
    have HB := Aside0.mk (Below.refl w.heap.size w)
    clear h hL hr0 hc0
    go_enter Try.func20, Try.ntmps20
    go_wp2
    go_loopg [3, 4] l0.length (fun g v3 v4 w' => ∃ (j : Nat), v4 = .int .i64 (j : Int) ∧ Aside0 (j + g = l0.length) ∧ Aside0 (Kd.R (Kd.int .i64) 2 w' w.heap.size (fun _ => True) v3 (quorumiteref9_Sort.insL [] (l0.take j))) ∧ Aside0 (Below w.heap.size w w'))
    case atStart => exact ⟨0, rfl, ⟨Nat.zero_add _⟩, ⟨Kd.R_nil _ _ _ _ _⟩, HB⟩
    case round =>
      clear HB
      obtain ⟨j, rfl, HG, HO, HB⟩ := hrel
      cases gk with
      | zero =>
        have hj := HG.out
        have hjb : decide (j < l0.length) = false := decide_eq_false (by omega)
        have e := HO.out
        rw [List.take_of_length_le (by omega), HRr.out] at e
        have HO2 := Aside0.mk e
        clear hj e
        go_wp2
        go_ret
        exact ⟨_, rfl, HO2.out, HB.out⟩
      | succ g =>
        have hj := HG.out
        have hjl : j < l0.length := by omega
        have hjb : decide (j < l0.length) = true := decide_eq_true hjl
        have hT := quorumiteref9_Sort.insL_take l0 j hjl
        have hxl : (quorumiteref9_Sort.insL [] (l0.take j)).length = j := by rw [quorumiteref9_Sort.insL_length, List.length_take, List.length_nil]; omega
        generalize quorumiteref9_Sort.insL [] (l0.take j) = x at hT hxl HO
        have HT := Aside0.mk hT
        have HX := Aside0.mk hxl
        clear hj hT hxl
        obtain ⟨Am, cm, em⟩ := Kd.R_slice HO.out
        subst em
        go_upto_block 2 with (fail)
        go_cut [5] (fun v5 wc => v5 = .int .i64 ((quorumiteref9_Sort.insAt x (rd l0 (j : Int)) x.length : Nat) : Int) ∧ Aside0 (Kd.R (Kd.int .i64) 2 wc w.heap.size (fun _ => True) (.slice Am x.length cm) x) ∧ Aside0 (Below w.heap.size w wc))
        case first =>
          go_wp2
          go_loopg [5] x.length (fun q v5 w' => v5 = .int .i64 (q : Int) ∧ Aside0 (q ≤ x.length ∧ quorumiteref9_Sort.insAt x (rd l0 (j : Int)) q = quorumiteref9_Sort.insAt x (rd l0 (j : Int)) x.length) ∧ Aside0 (Kd.R (Kd.int .i64) 2 w' w.heap.size (fun _ => True) (.slice Am x.length cm) x) ∧ Aside0 (Below w.heap.size w w'))
          case atStart => exact ⟨rfl, ⟨Nat.le_refl _, rfl⟩, HO, HB⟩
          case round =>
            clear HO HB
            obtain ⟨rfl, HQ, HO, HB⟩ := hrel
            cases gk with
            | zero =>
              have b0 : decide ((0 : Int) < 0) = false := rfl
              go_upto_region 6 with (fail)
              go_quiet (fail)
              go_wp2
              go_meet
              exact ⟨by rw [← HQ.out.2]; rfl, ⟨Kd.R_drewN HO.out _⟩, ⟨pw_below_drewN HB.out _⟩⟩
            | succ q =>
              have hq := HQ.out
              have hql : q < x.length := by omega
              have HL1 := HL.out
              have HX1 := HX.out
              obtain ⟨ad, ea, hx0⟩ := Kd.at_int (Kd.R_reads' HO.out).2.2 (((q + 1 : Nat) : Int) - 1) (by omega) (by omega)
              subst ea
              obtain ⟨al, el, hy0⟩ := Kd.at_int HR0.out (j : Int) (by omega) (by omega)
              subst el
              replace hy0 := (HB.out.cell (World.block_lt_of_cell? w _ hy0)).trans hy0
              rw [Int.toNat_natCast] at hy0
              have hrd : rd x (((q + 1 : Nat) : Int) - 1) = x.getD q 0 := by rw [show ((q + 1 : Nat) : Int) - 1 = (q : Int) by omega]; simp [rd]
              by_cases ht : rd l0 (j : Int) < rd x (((q + 1 : Nat) : Int) - 1)
              · have HZ := Aside0.mk (show ((q + 1 : Nat) : Int) - 1 = (q : Int) by omega)
                have HN : Aside0 (quorumiteref9_Sort.insAt x (rd l0 (j : Int)) q = quorumiteref9_Sort.insAt x (rd l0 (j : Int)) x.length) := ⟨by rw [← hq.2, quorumiteref9_Sort.insAt, if_pos (by rw [← hrd]; exact ht)]⟩
                have HQ2 := Aside0.mk (show q ≤ x.length by omega)
                have b2 : decide (rd l0 (j : Int) < rd x (((q + 1 : Nat) : Int) - 1)) = true := decide_eq_true ht
                have z0 : 0 < ((q + 1 : Nat) : Int) := by omega
                have z1 : ((q + 1 : Nat) : Int) ≤ 17592186044416 := by omega
                have z2 : ((q + 1 : Nat) : Int) - 1 < (x.length : Int) := by omega
                have z3 : (j : Int) < (l0.length : Int) := by omega
                have z4 : 0 ≤ ((q + 1 : Nat) : Int) - 1 := by omega
                clear hq hql HL1 HX1 hrd ht
                generalize ((q + 1 : Nat) : Int) = z at *
                have b1 : decide (0 < z) = true := decide_eq_true z0
                have hw : IntKind.i64.wrap (z - 1) = z - 1 := by rw [i64_w]; unfold wrap64; omega
                have hx1 := hx0
                rw [show (z - 1).toNat = z.toNat - 1 by omega] at hx1
                have z5 := eq_true (show 1 ≤ z by omega)
                have z6 := eq_true (show z ≤ (x.length : Int) by omega)
                replace z4 := eq_true z4
                replace z2 := eq_true z2
                go_upto_region 6 with (fail)
                go_quiet (fail)
                go_wp2
                go_roundg q
                case measure => omega
                case rel => exact ⟨by rw [HZ.out], ⟨HQ2.out, HN.out⟩, ⟨Kd.R_drewN HO.out _⟩, ⟨pw_below_drewN HB.out _⟩⟩
              · have HN : Aside0 (q + 1 = quorumiteref9_Sort.insAt x (rd l0 (j : Int)) x.length) := ⟨by rw [← hq.2, quorumiteref9_Sort.insAt, if_neg (by rw [← hrd]; exact ht)]⟩
                have b2 : decide (rd l0 (j : Int) < rd x (((q + 1 : Nat) : Int) - 1)) = false := decide_eq_false ht
                have z0 : 0 < ((q + 1 : Nat) : Int) := by omega
                have z1 : ((q + 1 : Nat) : Int) ≤ 17592186044416 := by omega
                have z2 : ((q + 1 : Nat) : Int) - 1 < (x.length : Int) := by omega
                have z3 : (j : Int) < (l0.length : Int) := by omega
                have z4 : 0 ≤ ((q + 1 : Nat) : Int) - 1 := by omega
                have HZ2 := Aside0.mk (show ((q + 1 : Nat) : Int) = ((quorumiteref9_Sort.insAt x (rd l0 (j : Int)) x.length : Nat) : Int) by rw [HN.out])
                clear hq hql HL1 HX1 hrd ht
                generalize ((q + 1 : Nat) : Int) = z at *
                have b1 : decide (0 < z) = true := decide_eq_true z0
                have hw : IntKind.i64.wrap (z - 1) = z - 1 := by rw [i64_w]; unfold wrap64; omega
                have hx1 := hx0
                rw [show (z - 1).toNat = z.toNat - 1 by omega] at hx1
                have z5 := eq_true (show 1 ≤ z by omega)
                have z6 := eq_true (show z ≤ (x.length : Int) by omega)
                replace z4 := eq_true z4
                replace z2 := eq_true z2
                go_upto_region 6 with (fail)
                go_quiet (fail)
                go_wp2
                go_meet
                exact ⟨by rw [HZ2.out], ⟨Kd.R_drewN HO.out _⟩, ⟨pw_below_drewN HB.out _⟩⟩
        case rest =>
          clear HO HB
          obtain ⟨rfl, HO, HB⟩ := hcut
          have hkk := quorumiteref9_Sort.insAt_le x (rd l0 (j : Int)) x.length
          have HINS := Aside0.mk (show [] ++ x.take ((quorumiteref9_Sort.insAt x (rd l0 (j : Int)) x.length : Nat) : Int).toNat ++ [rd l0 (j : Int)] ++ x.drop ((quorumiteref9_Sort.insAt x (rd l0 (j : Int)) x.length : Nat) : Int).toNat = quorumiteref9_Sort.ins x (rd l0 (j : Int)) by rw [Int.toNat_natCast]; rfl)
          have z0 : 0 ≤ ((quorumiteref9_Sort.insAt x (rd l0 (j : Int)) x.length : Nat) : Int) := by omega
          have z1 : ((quorumiteref9_Sort.insAt x (rd l0 (j : Int)) x.length : Nat) : Int) ≤ (x.length : Int) := by omega
          clear hkk
          generalize ((quorumiteref9_Sort.insAt x (rd l0 (j : Int)) x.length : Nat) : Int) = z at *
          have HZ := Aside0.mk (show z.toNat ≤ x.length ∧ x.length = j ∧ j < l0.length by have := HX.out; omega)
          have HJ1 := Aside0.mk (show (j : Int) + 1 = ((j + 1 : Nat) : Int) from rfl)
          have HW1 := Aside0.mk (show wrap64 ((j + 1 : Nat) : Int) = ((j + 1 : Nat) : Int) by have := HZ.out; have := HL.out; unfold wrap64; omega)
          have HG2 : Aside0 (j + 1 + g = l0.length) := ⟨by have := HG.out; omega⟩
          obtain ⟨i0, hi0, _, hsz, _⟩ := info_parts info2
          obtain ⟨hcutT, hRT, _⟩ := print_take_of (P := Try.prog) (Value.int .i64) 0 22 2 .i64 Try.underlying22 hi0 hsz Am cm x z z0 z1 (Kd.R_reads' HO.out).2.1
          obtain ⟨A2, hcutD, hRD, _⟩ := print_drop_of (P := Try.prog) (Value.int .i64) 0 22 2 .i64 Try.underlying22 hi0 hsz Am cm x z z0 z1 (Kd.R_reads' HO.out).2.1
          have HCT0 := Aside0.mk (show Kd.C (Kd.int .i64) wc Am z.toNat (x.take z.toNat) by have h_ := Kd.C_of_reads (h1 := fun _ => rfl) (hRT _ (Kd.reads_of_C (Kd.R_reads' HO.out).2.2)); rw [show (x.take z.toNat).length = z.toNat by rw [List.length_take]; omega] at h_; exact h_)
          have HCD0 := Aside0.mk (show Kd.C (Kd.int .i64) wc A2 (x.length - z.toNat) (x.drop z.toNat) by have h_ := Kd.C_of_reads (h1 := fun _ => rfl) (hRD _ (Kd.reads_of_C (Kd.R_reads' HO.out).2.2)); rw [List.length_drop] at h_; exact h_)
          clear hRT hRD
          obtain ⟨al, el, hy0⟩ := Kd.at_int HR0.out (j : Int) (by omega) (by omega)
          subst el
          replace hy0 := (HB.out.cell (World.block_lt_of_cell? w _ hy0)).trans hy0
          rw [Int.toNat_natCast] at hy0
          go_upto_region 8 with (fail)
          refine start_ (n := 16) (S := fun w' => w'.cell? (al.add j) = some (.int .i64 (rd l0 (j : Int)))) (ds := [10, 14]) #[false, false, false, false, false, false, false, false, false, false, false, false, false, false, false, false] (by kernel_rfl) rfl rfl (by simpa using hy0) (fun hHeld => ?_); refine with_tabW quorumiteref9_Sort.tab8 quorumiteref9_Sort.bits8 (fun HT_ HW_ => ?_)
          generalize hW : wc.drew = W0 at hHeld ⊢
          have HCT := Aside0.mk (show Kd.C (Kd.int .i64) W0 Am z.toNat (x.take z.toNat) from by rw [← hW]; exact Kd.C_drew HCT0.out)
          have HCD := Aside0.mk (show Kd.C (Kd.int .i64) W0 A2 (x.length - z.toNat) (x.drop z.toNat) from by rw [← hW]; exact Kd.C_drew HCD0.out)
          have HS0 := Aside0.mk hHeld
          have HWS := Aside0.mk (show w.heap.size ≤ W0.heap.size from by rw [← hW]; exact HB.out.size)
          have HBW := Aside0.mk (show Below w.heap.size w W0 from by rw [← hW]; exact below_drew1 HB.out)
          have HB8 := Aside0.mk (Below.refl W0.heap.size W0)
          clear hW hy0 HO HB HCT0 HCD0
          refine pure_ (i := 1) (N := some 31) (v := ?_) (a' := ?_) #[false, true, false, false, false, false, false, false, false, false, false, false, false, false, false, false] rfl rfl (any_of HT_.out (by kernel_rfl)) (fun _ _ _ h => h) (Or.inl ⟨by rfl, ?_⟩) ?_ ?_
          rotate_left
          · intro w'
            go_simp
            with_reducible rfl
          rotate_left
          · simp only [Act.put, List.setIfInBounds_toArray, List.set_cons_zero, List.set_cons_succ, i64_w, i32_w]
            rfl
          refine pure_ (i := 2) (N := some 32) (v := ?_) (a' := ?_) #[false, true, true, false, false, false, false, false, false, false, false, false, false, false, false, false] rfl rfl (any_of HT_.out (by kernel_rfl)) (fun _ _ _ h => h) (Or.inl ⟨by rfl, ?_⟩) ?_ ?_
          rotate_left
          · intro w'
            go_simp
            with_reducible rfl
          rotate_left
          · simp only [Act.put, List.setIfInBounds_toArray, List.set_cons_zero, List.set_cons_succ, i64_w, i32_w]
            rfl
          refine pure_ (i := 3) (N := some 33) (v := ?_) (a' := ?_) #[false, true, true, true, false, false, false, false, false, false, false, false, false, false, false, false] rfl rfl (any_of HT_.out (by kernel_rfl)) (fun _ _ _ h => h) (Or.inl ⟨by rfl, ?_⟩) ?_ ?_
          rotate_left
          · intro w'
            go_simp
            with_reducible rfl
          rotate_left
          · simp only [Act.put, List.setIfInBounds_toArray, List.set_cons_zero, List.set_cons_succ, i64_w, i32_w]
            rfl
          refine pure_ (i := 5) (N := some 35) (v := ?_) (a' := ?_) #[false, true, true, true, false, true, false, false, false, false, false, false, false, false, false, false] rfl rfl (any_of HT_.out (by kernel_rfl)) (fun _ _ _ h => h) (Or.inl ⟨by rfl, ?_⟩) ?_ ?_
          rotate_left
          · intro w'
            go_simp
            with_reducible rfl
          rotate_left
          · simp only [Act.put, List.setIfInBounds_toArray, List.set_cons_zero, List.set_cons_succ, i64_w, i32_w]
            rfl
          refine pure_ (i := 6) (N := some 36) (v := ?_) (a' := ?_) #[false, true, true, true, false, true, true, false, false, false, false, false, false, false, false, false] rfl rfl (any_of HT_.out (by kernel_rfl)) (fun _ _ _ h => h) (Or.inl ⟨by rfl, ?_⟩) ?_ ?_
          rotate_left
          · intro w'
            go_simp
            with_reducible rfl
          rotate_left
          · simp only [Act.put, List.setIfInBounds_toArray, List.set_cons_zero, List.set_cons_succ, i64_w, i32_w]
            rfl
          refine pure_ (i := 7) (N := some 37) (v := ?_) (a' := ?_) #[false, true, true, true, false, true, true, true, false, false, false, false, false, false, false, false] rfl rfl (any_of HT_.out (by kernel_rfl)) (fun _ _ _ h => h) (Or.inl ⟨by rfl, ?_⟩) ?_ ?_
          rotate_left
          · intro w'
            go_simp
            with_reducible rfl
          rotate_left
          · simp only [Act.put, List.setIfInBounds_toArray, List.set_cons_zero, List.set_cons_succ, i64_w, i32_w]
            rfl
          refine pure_ (i := 11) (N := some 41) (v := ?_) (a' := ?_) #[false, true, true, true, false, true, true, true, false, false, false, true, false, false, false, false] rfl rfl (any_of HT_.out (by kernel_rfl)) (fun _ _ _ h => h) (Or.inl ⟨by rfl, ?_⟩) ?_ ?_
          rotate_left
          · intro w'
            go_simp
            with_reducible rfl
          rotate_left
          · simp only [Act.put, List.setIfInBounds_toArray, List.set_cons_zero, List.set_cons_succ, i64_w, i32_w]
            rfl
          refine pure_ (i := 12) (N := some 42) (v := ?_) (a' := ?_) #[false, true, true, true, false, true, true, true, false, false, false, true, true, false, false, false] rfl rfl (any_of HT_.out (by kernel_rfl)) (fun _ _ _ h => h) (Or.inl ⟨by rfl, ?_⟩) ?_ ?_
          rotate_left
          · intro w'
            go_simp
            with_reducible rfl
          rotate_left
          · simp only [Act.put, List.setIfInBounds_toArray, List.set_cons_zero, List.set_cons_succ, i64_w, i32_w]
            rfl
          refine pure_ (i := 13) (N := some 43) (v := ?_) (a' := ?_) #[false, true, true, true, false, true, true, true, false, false, false, true, true, true, false, false] rfl rfl (any_of HT_.out (by kernel_rfl)) (fun _ _ _ h => h) (Or.inl ⟨by rfl, ?_⟩) ?_ ?_
          rotate_left
          · intro w'
            go_simp
            with_reducible rfl
          rotate_left
          · simp only [Act.put, List.setIfInBounds_toArray, List.set_cons_zero, List.set_cons_succ, i64_w, i32_w]
            rfl
          refine take_ (i := 8) (N := some 38) (v := ?_) (a' := ?_) #[false, true, true, true, false, true, true, true, true, false, false, true, true, true, false, false] rfl rfl (take_ofW HT_.out HW_.out (by kernel_rfl)) (fun _ _ _ h => h) (Or.inl ⟨by rfl, ?_⟩) hHeld ?_ ?_
          rotate_left
          · intro w' s0
            go_simp
            with_reducible rfl
          rotate_left
          · simp only [Act.put, List.setIfInBounds_toArray, List.set_cons_zero, List.set_cons_succ, i64_w, i32_w]
            rfl
          refine two_ (i := 0) (j := 9) (Ni := some 30) (Nj := some 39) #[true, true, true, true, false, true, true, true, true, false, false, true, true, true, false, false] #[false, true, true, true, false, true, true, true, true, true, false, true, true, true, false, false] rfl rfl rfl rfl (two_of HT_.out (by kernel_rfl)) (by decide) (by decide) (fun K hK => ?_) (fun K hK => ?_)
          · clear hHeld
            refine Kd.R_lit_step (Kd.int .i64) _ 2 ?hg (N := 30) ?hd (xs := ([] : List Int)) (inner := []) (ok := fun _ => True) (okp := fun _ => True) ?hr ?hp (fun _ hk => hk) trivial (Below.refl _ _) (Nat.le_refl _) (by simp) ?_; (case hd => rfl); (case hg => rfl); (case hr => first | (go_simp; done) | (go_simp; rfl)); (case hp => exact (Reps.none _ _))
            intro v30 w30 ho hb hg_ hnew_
            clear hg_ hnew_
            have H30 := Aside0.mk (Kd.R_lower ho (below_size HB8.out))
            have nB := Aside0.mk (below_step HB8.out hb)
            clear HB8
            have HB8 := nB
            clear nB hb ho
            refine hK.out _ _ ((HB8.out.cell (World.block_lt_of_cell? W0 _ HS0.out)).trans HS0.out) (fun hHeld => ?_)
            clear hK K
            refine norm_ (a' := ?_) ?_ ?_
            rotate_left
            · show Act.put _ (some 30) _ = _
              simp only [Act.put, List.setIfInBounds_toArray, List.set_cons_zero, List.set_cons_succ, i64_w, i32_w]
              rfl
            refine two_ (i := 4) (j := 9) (Ni := some 34) (Nj := some 39) #[true, true, true, true, true, true, true, true, true, false, false, true, true, true, false, false] #[true, true, true, true, false, true, true, true, true, true, false, true, true, true, false, false] rfl rfl rfl rfl (two_of HT_.out (by kernel_rfl)) (by decide) (by decide) (fun K hK => ?_) (fun K hK => ?_)
            · clear hHeld
              refine Kd.R_append_rows_step (Kd.int .i64) (w0 := W0) W0.heap.size (by rfl) (.tmp 30) (.tmp 33) 22 2 (.int .i64 0) 8 rfl Try.underlying22 info2 rfl (by decide) (by omega) v30 ([] : List Int) (x.take z.toNat) _ _ _ (fun _ => True) (fun _ => False) rfl rfl ?aO ?aR (fun _ _ h => h) (fun _ h => h.elim) ?aF ?aB ?aS ?aL ?_
              (case aR => exact (Kd.C_below HCT.out HB8.out))
              (case aB => exact HB8.out)
              (case aF => exact (fun _ _ => trivial))
              (case aO => exact H30.out)
              (case aS => exact (below_size HB8.out))
              (case aL => have := HZ.out; have := HL.out; simp only [List.length_nil]; omega)
              intro v34 w34 ho hb hg hat
              clear HB8 H30
              have HB8 := Aside0.mk hb
              have H34 := Aside0.mk ho
              clear ho hb hg hat
              refine hK.out _ _ ((HB8.out.cell (World.block_lt_of_cell? W0 _ HS0.out)).trans HS0.out) (fun hHeld => ?_)
              clear hK K
              refine norm_ (a' := ?_) ?_ ?_
              rotate_left
              · show Act.put _ (some 34) _ = _
                simp only [Act.put, List.setIfInBounds_toArray, List.set_cons_zero, List.set_cons_succ, i64_w, i32_w]
                rfl
              refine one_ (i := 9) (N := some 39) #[true, true, true, true, true, true, true, true, true, true, false, true, true, true, false, false] rfl rfl (one_of HT_.out (by kernel_rfl)) (by decide) (fun K hK => ?_)
              clear hHeld
              refine Kd.R_lit_step (Kd.int .i64) _ 2 ?hg (N := 39) ?hd (xs := ([rd l0 (j : Int)] : List Int)) (inner := [.int .i64 (rd l0 (j : Int))]) (ok := fun _ => True) (okp := fun _ => True) ?hr ?hp (fun _ hk => hk) trivial (Below.refl _ _) (Nat.le_refl _) (by simp) ?_; (case hd => rfl); (case hg => rfl); (case hr => first | (go_simp; done) | (go_simp; rfl)); (case hp => exact (Reps.one (show Kd.M (Kd.int .i64) _ _ _ (rd l0 (j : Int)) [.int .i64 (rd l0 (j : Int))] from rfl) (Reps.none _ _)))
              intro v39 w39 ho hb hg_ hnew_
              clear hg_ hnew_
              have H39 := Aside0.mk (Kd.R_lower (Kd.R_new' ho (Kd.R_lt H34.out)) (below_size HB8.out))
              have nX := Aside0.mk (Kd.R_below H34.out hb)
              clear H34
              have H34 := nX
              clear nX
              have nB := Aside0.mk (below_step HB8.out hb)
              clear HB8
              have HB8 := nB
              clear nB hb ho
              refine hK.out _ _ ((HB8.out.cell (World.block_lt_of_cell? W0 _ HS0.out)).trans HS0.out) (fun hHeld => ?_)
              clear hK K
              refine norm_ (a' := ?_) ?_ ?_
              rotate_left
              · show Act.put _ (some 39) _ = _
                simp only [Act.put, List.setIfInBounds_toArray, List.set_cons_zero, List.set_cons_succ, i64_w, i32_w]
                rfl
              refine last_ (i := 10) (N := some 40) #[true, true, true, true, true, true, true, true, true, true, true, true, true, true, false, false] rfl rfl (one_of HT_.out (by kernel_rfl)) (by decide) (fun K hK => ?_)
              obtain ⟨A39, c39, e39⟩ := Kd.R_slice H39.out
              subst e39
              refine Kd.R_append_rows_step (Kd.int .i64) (w0 := W0) W0.heap.size (by rfl) (.tmp 34) (.tmp 39) 22 2 (.int .i64 0) 8 rfl Try.underlying22 info2 rfl (by decide) (by omega) v34 ([] ++ x.take z.toNat) [rd l0 (j : Int)] _ _ _ (fun _ => True) (fun _ => False) rfl rfl ?aO ?aR (fun _ _ h => h) (fun _ h => h.elim) ?aF ?aB ?aS ?aL ?_
              (case aR => exact (Kd.R_reads' H39.out).2.2)
              (case aB => exact HB8.out)
              (case aF => exact (fun _ _ => trivial))
              (case aO => exact H34.out)
              (case aS => exact (below_size HB8.out))
              (case aL => have := HZ.out; have := HL.out; simp only [List.nil_append, List.length_take, List.length_cons, List.length_nil]; omega)
              intro v40 w40 ho hb hg hat
              clear HB8 H34
              have HB8 := Aside0.mk hb
              have H40 := Aside0.mk ho
              clear ho hb hg hat
              refine hK.out _ _ ?_
              clear hK K
              refine norm_ (a' := ?_) ?_ ?_
              rotate_left
              · show Act.put _ (some 40) _ = _
                simp only [Act.put, List.setIfInBounds_toArray, List.set_cons_zero, List.set_cons_succ, i64_w, i32_w]
                rfl
              refine last_ (i := 14) (N := some 44) #[true, true, true, true, true, true, true, true, true, true, true, true, true, true, true, false] rfl rfl (one_of HT_.out (by kernel_rfl)) (by decide) (fun K hK => ?_)
              refine Kd.R_append_rows_step (Kd.int .i64) (w0 := W0) W0.heap.size (by rfl) (.tmp 40) (.tmp 43) 22 2 (.int .i64 0) 8 rfl Try.underlying22 info2 rfl (by decide) (by omega) v40 ([] ++ x.take z.toNat ++ [rd l0 (j : Int)]) (x.drop z.toNat) _ _ _ (fun _ => True) (fun _ => False) rfl rfl ?aO ?aR (fun _ _ h => h) (fun _ h => h.elim) ?aF ?aB ?aS ?aL ?_
              (case aR => exact (Kd.C_below HCD.out HB8.out))
              (case aB => exact HB8.out)
              (case aF => exact (fun _ _ => trivial))
              (case aO => exact H40.out)
              (case aS => exact (below_size HB8.out))
              (case aL => have := HZ.out; have := HL.out; simp only [List.nil_append, List.length_append, List.length_take, List.length_cons, List.length_nil]; omega)
              intro v44 w44 ho hb hg hat
              clear HB8 H40
              have HB8 := Aside0.mk hb
              have H44 := Aside0.mk ho
              clear ho hb hg hat
              refine hK.out _ _ ?_
              clear hK K
              refine norm_ (a' := ?_) ?_ ?_
              rotate_left
              · show Act.put _ (some 44) _ = _
                simp only [Act.put, List.setIfInBounds_toArray, List.set_cons_zero, List.set_cons_succ, i64_w, i32_w]
                rfl
              refine pure_ (i := 15) (N := some 3) (v := ?_) (a' := ?_) #[true, true, true, true, true, true, true, true, true, true, true, true, true, true, true, true] rfl rfl (any_of HT_.out (by kernel_rfl)) (fun _ _ _ h => h) (Or.inl ⟨by rfl, ?_⟩) ?_ ?_
              rotate_left
              · intro w'
                go_simp
                with_reducible rfl
              rotate_left
              · simp only [Act.put, List.setIfInBounds_toArray, List.set_cons_zero, List.set_cons_succ, i64_w, i32_w]
                rfl
              refine done_ (done_of HT_.out (by kernel_rfl)) ?_
              try go_wp2
              go_roundg g
              case measure => omega
              case rel => exact ⟨j + 1, by rw [HJ1.out, HW1.out], HG2, ⟨by rw [HT.out, ← HINS.out]; exact Kd.R_lower H44.out HWS.out⟩, ⟨quorumiteref9_Sort.below_more HBW.out HB8.out⟩⟩
            · clear hHeld
              refine Kd.R_lit_step (Kd.int .i64) _ 2 ?hg (N := 39) ?hd (xs := ([rd l0 (j : Int)] : List Int)) (inner := [.int .i64 (rd l0 (j : Int))]) (ok := fun _ => True) (okp := fun _ => True) ?hr ?hp (fun _ hk => hk) trivial (Below.refl _ _) (Nat.le_refl _) (by simp) ?_; (case hd => rfl); (case hg => rfl); (case hr => first | (go_simp; done) | (go_simp; rfl)); (case hp => exact (Reps.one (show Kd.M (Kd.int .i64) _ _ _ (rd l0 (j : Int)) [.int .i64 (rd l0 (j : Int))] from rfl) (Reps.none _ _)))
              intro v39 w39 ho hb hg_ hnew_
              clear hg_ hnew_
              have H39 := Aside0.mk (Kd.R_lower (Kd.R_new' ho (Kd.R_lt H30.out)) (below_size HB8.out))
              have nX := Aside0.mk (Kd.R_below H30.out hb)
              clear H30
              have H30 := nX
              clear nX
              have nB := Aside0.mk (below_step HB8.out hb)
              clear HB8
              have HB8 := nB
              clear nB hb ho
              refine hK.out _ _ ((HB8.out.cell (World.block_lt_of_cell? W0 _ HS0.out)).trans HS0.out) (fun hHeld => ?_)
              clear hK K
              refine norm_ (a' := ?_) ?_ ?_
              rotate_left
              · show Act.put _ (some 39) _ = _
                simp only [Act.put, List.setIfInBounds_toArray, List.set_cons_zero, List.set_cons_succ, i64_w, i32_w]
                rfl
              refine one_ (i := 4) (N := some 34) #[true, true, true, true, true, true, true, true, true, true, false, true, true, true, false, false] rfl rfl (one_of HT_.out (by kernel_rfl)) (by decide) (fun K hK => ?_)
              clear hHeld
              refine Kd.R_append_rows_step (Kd.int .i64) (w0 := W0) W0.heap.size (by rfl) (.tmp 30) (.tmp 33) 22 2 (.int .i64 0) 8 rfl Try.underlying22 info2 rfl (by decide) (by omega) v30 ([] : List Int) (x.take z.toNat) _ _ _ (fun _ => True) (fun _ => False) rfl rfl ?aO ?aR (fun _ _ h => h) (fun _ h => h.elim) ?aF ?aB ?aS ?aL ?_
              (case aR => exact (Kd.C_below HCT.out HB8.out))
              (case aB => exact HB8.out)
              (case aF => exact (fun _ _ => trivial))
              (case aO => exact H30.out)
              (case aS => exact (below_size HB8.out))
              (case aL => have := HZ.out; have := HL.out; simp only [List.length_nil]; omega)
              intro v34 w34 ho hb hg hat
              have n39 := Aside0.mk (Kd.R_after H39.out hg hat)
              clear H39
              have H39 := n39
              clear n39
              clear HB8 H30
              have HB8 := Aside0.mk hb
              have H34 := Aside0.mk ho
              clear ho hb hg hat
              refine hK.out _ _ ((HB8.out.cell (World.block_lt_of_cell? W0 _ HS0.out)).trans HS0.out) (fun hHeld => ?_)
              clear hK K
              refine norm_ (a' := ?_) ?_ ?_
              rotate_left
              · show Act.put _ (some 34) _ = _
                simp only [Act.put, List.setIfInBounds_toArray, List.set_cons_zero, List.set_cons_succ, i64_w, i32_w]
                rfl
              refine last_ (i := 10) (N := some 40) #[true, true, true, true, true, true, true, true, true, true, true, true, true, true, false, false] rfl rfl (one_of HT_.out (by kernel_rfl)) (by decide) (fun K hK => ?_)
              obtain ⟨A39, c39, e39⟩ := Kd.R_slice H39.out
              subst e39
              refine Kd.R_append_rows_step (Kd.int .i64) (w0 := W0) W0.heap.size (by rfl) (.tmp 34) (.tmp 39) 22 2 (.int .i64 0) 8 rfl Try.underlying22 info2 rfl (by decide) (by omega) v34 ([] ++ x.take z.toNat) [rd l0 (j : Int)] _ _ _ (fun _ => True) (fun _ => False) rfl rfl ?aO ?aR (fun _ _ h => h) (fun _ h => h.elim) ?aF ?aB ?aS ?aL ?_
              (case aR => exact (Kd.R_reads' H39.out).2.2)
              (case aB => exact HB8.out)
              (case aF => exact (fun _ _ => trivial))
              (case aO => exact H34.out)
              (case aS => exact (below_size HB8.out))
              (case aL => have := HZ.out; have := HL.out; simp only [List.nil_append, List.length_take, List.length_cons, List.length_nil]; omega)
              intro v40 w40 ho hb hg hat
              clear HB8 H34
              have HB8 := Aside0.mk hb
              have H40 := Aside0.mk ho
              clear ho hb hg hat
              refine hK.out _ _ ?_
              clear hK K
              refine norm_ (a' := ?_) ?_ ?_
              rotate_left
              · show Act.put _ (some 40) _ = _
                simp only [Act.put, List.setIfInBounds_toArray, List.set_cons_zero, List.set_cons_succ, i64_w, i32_w]
                rfl
              refine last_ (i := 14) (N := some 44) #[true, true, true, true, true, true, true, true, true, true, true, true, true, true, true, false] rfl rfl (one_of HT_.out (by kernel_rfl)) (by decide) (fun K hK => ?_)
              refine Kd.R_append_rows_step (Kd.int .i64) (w0 := W0) W0.heap.size (by rfl) (.tmp 40) (.tmp 43) 22 2 (.int .i64 0) 8 rfl Try.underlying22 info2 rfl (by decide) (by omega) v40 ([] ++ x.take z.toNat ++ [rd l0 (j : Int)]) (x.drop z.toNat) _ _ _ (fun _ => True) (fun _ => False) rfl rfl ?aO ?aR (fun _ _ h => h) (fun _ h => h.elim) ?aF ?aB ?aS ?aL ?_
              (case aR => exact (Kd.C_below HCD.out HB8.out))
              (case aB => exact HB8.out)
              (case aF => exact (fun _ _ => trivial))
              (case aO => exact H40.out)
              (case aS => exact (below_size HB8.out))
              (case aL => have := HZ.out; have := HL.out; simp only [List.nil_append, List.length_append, List.length_take, List.length_cons, List.length_nil]; omega)
              intro v44 w44 ho hb hg hat
              clear HB8 H40
              have HB8 := Aside0.mk hb
              have H44 := Aside0.mk ho
              clear ho hb hg hat
              refine hK.out _ _ ?_
              clear hK K
              refine norm_ (a' := ?_) ?_ ?_
              rotate_left
              · show Act.put _ (some 44) _ = _
                simp only [Act.put, List.setIfInBounds_toArray, List.set_cons_zero, List.set_cons_succ, i64_w, i32_w]
                rfl
              refine pure_ (i := 15) (N := some 3) (v := ?_) (a' := ?_) #[true, true, true, true, true, true, true, true, true, true, true, true, true, true, true, true] rfl rfl (any_of HT_.out (by kernel_rfl)) (fun _ _ _ h => h) (Or.inl ⟨by rfl, ?_⟩) ?_ ?_
              rotate_left
              · intro w'
                go_simp
                with_reducible rfl
              rotate_left
              · simp only [Act.put, List.setIfInBounds_toArray, List.set_cons_zero, List.set_cons_succ, i64_w, i32_w]
                rfl
              refine done_ (done_of HT_.out (by kernel_rfl)) ?_
              try go_wp2
              go_roundg g
              case measure => omega
              case rel => exact ⟨j + 1, by rw [HJ1.out, HW1.out], HG2, ⟨by rw [HT.out, ← HINS.out]; exact Kd.R_lower H44.out HWS.out⟩, ⟨quorumiteref9_Sort.below_more HBW.out HB8.out⟩⟩
          · clear hHeld
            refine Kd.R_lit_step (Kd.int .i64) _ 2 ?hg (N := 39) ?hd (xs := ([rd l0 (j : Int)] : List Int)) (inner := [.int .i64 (rd l0 (j : Int))]) (ok := fun _ => True) (okp := fun _ => True) ?hr ?hp (fun _ hk => hk) trivial (Below.refl _ _) (Nat.le_refl _) (by simp) ?_; (case hd => rfl); (case hg => rfl); (case hr => first | (go_simp; done) | (go_simp; rfl)); (case hp => exact (Reps.one (show Kd.M (Kd.int .i64) _ _ _ (rd l0 (j : Int)) [.int .i64 (rd l0 (j : Int))] from rfl) (Reps.none _ _)))
            intro v39 w39 ho hb hg_ hnew_
            clear hg_ hnew_
            have H39 := Aside0.mk (Kd.R_lower ho (below_size HB8.out))
            have nB := Aside0.mk (below_step HB8.out hb)
            clear HB8
            have HB8 := nB
            clear nB hb ho
            refine hK.out _ _ ((HB8.out.cell (World.block_lt_of_cell? W0 _ HS0.out)).trans HS0.out) (fun hHeld => ?_)
            clear hK K
            refine norm_ (a' := ?_) ?_ ?_
            rotate_left
            · show Act.put _ (some 39) _ = _
              simp only [Act.put, List.setIfInBounds_toArray, List.set_cons_zero, List.set_cons_succ, i64_w, i32_w]
              rfl
            refine one_ (i := 0) (N := some 30) #[true, true, true, true, false, true, true, true, true, true, false, true, true, true, false, false] rfl rfl (one_of HT_.out (by kernel_rfl)) (by decide) (fun K hK => ?_)
            clear hHeld
            refine Kd.R_lit_step (Kd.int .i64) _ 2 ?hg (N := 30) ?hd (xs := ([] : List Int)) (inner := []) (ok := fun _ => True) (okp := fun _ => True) ?hr ?hp (fun _ hk => hk) trivial (Below.refl _ _) (Nat.le_refl _) (by simp) ?_; (case hd => rfl); (case hg => rfl); (case hr => first | (go_simp; done) | (go_simp; rfl)); (case hp => exact (Reps.none _ _))
            intro v30 w30 ho hb hg_ hnew_
            clear hg_ hnew_
            have n39 := Aside0.mk (Kd.R_mono (Kd.R_elder' H39.out (Kd.R_base ho) hb) (fun _ hk => hk))
            clear H39
            have H39 := n39
            clear n39
            have H30 := Aside0.mk (Kd.R_lower ho (below_size HB8.out))
            have nB := Aside0.mk (below_step HB8.out hb)
            clear HB8
            have HB8 := nB
            clear nB hb ho
            refine hK.out _ _ ((HB8.out.cell (World.block_lt_of_cell? W0 _ HS0.out)).trans HS0.out) (fun hHeld => ?_)
            clear hK K
            refine norm_ (a' := ?_) ?_ ?_
            rotate_left
            · show Act.put _ (some 30) _ = _
              simp only [Act.put, List.setIfInBounds_toArray, List.set_cons_zero, List.set_cons_succ, i64_w, i32_w]
              rfl
            refine one_ (i := 4) (N := some 34) #[true, true, true, true, true, true, true, true, true, true, false, true, true, true, false, false] rfl rfl (one_of HT_.out (by kernel_rfl)) (by decide) (fun K hK => ?_)
            clear hHeld
            refine Kd.R_append_rows_step (Kd.int .i64) (w0 := W0) W0.heap.size (by rfl) (.tmp 30) (.tmp 33) 22 2 (.int .i64 0) 8 rfl Try.underlying22 info2 rfl (by decide) (by omega) v30 ([] : List Int) (x.take z.toNat) _ _ _ (fun _ => True) (fun _ => False) rfl rfl ?aO ?aR (fun _ _ h => h) (fun _ h => h.elim) ?aF ?aB ?aS ?aL ?_
            (case aR => exact (Kd.C_below HCT.out HB8.out))
            (case aB => exact HB8.out)
            (case aF => exact (fun _ _ => trivial))
            (case aO => exact H30.out)
            (case aS => exact (below_size HB8.out))
            (case aL => have := HZ.out; have := HL.out; simp only [List.length_nil]; omega)
            intro v34 w34 ho hb hg hat
            have n39 := Aside0.mk (Kd.R_after H39.out hg hat)
            clear H39
            have H39 := n39
            clear n39
            clear HB8 H30
            have HB8 := Aside0.mk hb
            have H34 := Aside0.mk ho
            clear ho hb hg hat
            refine hK.out _ _ ((HB8.out.cell (World.block_lt_of_cell? W0 _ HS0.out)).trans HS0.out) (fun hHeld => ?_)
            clear hK K
            refine norm_ (a' := ?_) ?_ ?_
            rotate_left
            · show Act.put _ (some 34) _ = _
              simp only [Act.put, List.setIfInBounds_toArray, List.set_cons_zero, List.set_cons_succ, i64_w, i32_w]
              rfl
            refine last_ (i := 10) (N := some 40) #[true, true, true, true, true, true, true, true, true, true, true, true, true, true, false, false] rfl rfl (one_of HT_.out (by kernel_rfl)) (by decide) (fun K hK => ?_)
            obtain ⟨A39, c39, e39⟩ := Kd.R_slice H39.out
            subst e39
            refine Kd.R_append_rows_step (Kd.int .i64) (w0 := W0) W0.heap.size (by rfl) (.tmp 34) (.tmp 39) 22 2 (.int .i64 0) 8 rfl Try.underlying22 info2 rfl (by decide) (by omega) v34 ([] ++ x.take z.toNat) [rd l0 (j : Int)] _ _ _ (fun _ => True) (fun _ => False) rfl rfl ?aO ?aR (fun _ _ h => h) (fun _ h => h.elim) ?aF ?aB ?aS ?aL ?_
            (case aR => exact (Kd.R_reads' H39.out).2.2)
            (case aB => exact HB8.out)
            (case aF => exact (fun _ _ => trivial))
            (case aO => exact H34.out)
            (case aS => exact (below_size HB8.out))
            (case aL => have := HZ.out; have := HL.out; simp only [List.nil_append, List.length_take, List.length_cons, List.length_nil]; omega)
            intro v40 w40 ho hb hg hat
            clear HB8 H34
            have HB8 := Aside0.mk hb
            have H40 := Aside0.mk ho
            clear ho hb hg hat
            refine hK.out _ _ ?_
            clear hK K
            refine norm_ (a' := ?_) ?_ ?_
            rotate_left
            · show Act.put _ (some 40) _ = _
              simp only [Act.put, List.setIfInBounds_toArray, List.set_cons_zero, List.set_cons_succ, i64_w, i32_w]
              rfl
            refine last_ (i := 14) (N := some 44) #[true, true, true, true, true, true, true, true, true, true, true, true, true, true, true, false] rfl rfl (one_of HT_.out (by kernel_rfl)) (by decide) (fun K hK => ?_)
            refine Kd.R_append_rows_step (Kd.int .i64) (w0 := W0) W0.heap.size (by rfl) (.tmp 40) (.tmp 43) 22 2 (.int .i64 0) 8 rfl Try.underlying22 info2 rfl (by decide) (by omega) v40 ([] ++ x.take z.toNat ++ [rd l0 (j : Int)]) (x.drop z.toNat) _ _ _ (fun _ => True) (fun _ => False) rfl rfl ?aO ?aR (fun _ _ h => h) (fun _ h => h.elim) ?aF ?aB ?aS ?aL ?_
            (case aR => exact (Kd.C_below HCD.out HB8.out))
            (case aB => exact HB8.out)
            (case aF => exact (fun _ _ => trivial))
            (case aO => exact H40.out)
            (case aS => exact (below_size HB8.out))
            (case aL => have := HZ.out; have := HL.out; simp only [List.nil_append, List.length_append, List.length_take, List.length_cons, List.length_nil]; omega)
            intro v44 w44 ho hb hg hat
            clear HB8 H40
            have HB8 := Aside0.mk hb
            have H44 := Aside0.mk ho
            clear ho hb hg hat
            refine hK.out _ _ ?_
            clear hK K
            refine norm_ (a' := ?_) ?_ ?_
            rotate_left
            · show Act.put _ (some 44) _ = _
              simp only [Act.put, List.setIfInBounds_toArray, List.set_cons_zero, List.set_cons_succ, i64_w, i32_w]
              rfl
            refine pure_ (i := 15) (N := some 3) (v := ?_) (a' := ?_) #[true, true, true, true, true, true, true, true, true, true, true, true, true, true, true, true] rfl rfl (any_of HT_.out (by kernel_rfl)) (fun _ _ _ h => h) (Or.inl ⟨by rfl, ?_⟩) ?_ ?_
            rotate_left
            · intro w'
              go_simp
              with_reducible rfl
            rotate_left
            · simp only [Act.put, List.setIfInBounds_toArray, List.set_cons_zero, List.set_cons_succ, i64_w, i32_w]
              rfl
            refine done_ (done_of HT_.out (by kernel_rfl)) ?_
            try go_wp2
            go_roundg g
            case measure => omega
            case rel => exact ⟨j + 1, by rw [HJ1.out, HW1.out], HG2, ⟨by rw [HT.out, ← HINS.out]; exact Kd.R_lower H44.out HWS.out⟩, ⟨quorumiteref9_Sort.below_more HBW.out HB8.out⟩⟩
  · rw [if_neg hL] at h
    exact absurd h (by simp)

end Go.Proofs.Ytjcjibghnpjegaa.Pr
