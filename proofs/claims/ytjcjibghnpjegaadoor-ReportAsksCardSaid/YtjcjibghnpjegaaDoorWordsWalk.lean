/- The walk of ReportWords, its tests decided ahead: out of what Code and Line answer. Conditions: the table of powers of ten is laid; Code and Line answer as the premises say. -/
import Derived.Test.YtjcjibghnpjegaaDoorPd2
import Derived.Test.YtjcjibghnpjegaaDoorPd26
import Derived.Test.YtjcjibghnpjegaaDoorPd29
namespace Go.Proofs.YtjcjibghnpjegaaDoor.Pd
open Go.RowKit Go.Proofs.YtjcjibghnpjegaaDoorW.PrintWords Go.Proofs.YtjcjibghnpjegaaDoorW.PrintLast Go.Proofs.YtjcjibghnpjegaaDoorW.PrintMore
attribute [local go_sem] max2_int min2_int max_two min_two max_three min_three max_four min_four
set_option linter.unusedVariables false
set_option linter.unusedSimpArgs false
set_option maxHeartbeats 8000000 in
set_option maxRecDepth 100000 in
theorem words_walk (k : Nat) (a0 a1 : Int) (t205 t206 t207 t208 : ByteArray) (w : World) (HTB : Aside0 (TabOk w))
  (A3 : Aside0 (report_Code.f (wrap64 ((wrap64 (Int.tmod (IntKind.u64.wrap (a0)) 15)) - 1)) = some t205)) (A4 : Aside0 (report_Code.f (wrap64 ((wrap64 (Int.tmod (IntKind.u64.wrap (a1)) 15)) - 1)) = some t206))
  (A14 : Aside0 (report_Line.f k (wrap64 (Int.tmod (IntKind.u64.wrap (Int.tdiv (IntKind.u64.wrap (a0)) 15)) 14)) 1 0 0 0 false 0 0 0 0 = some t207)) (A15 : Aside0 (report_Line.f k (wrap64 (Int.tmod (IntKind.u64.wrap (Int.tdiv (IntKind.u64.wrap (a1)) 15)) 14)) 1 0 0 0 false 0 0 0 0 = some t208)) (A33 : Aside0 (quorumitelaw27_told.f k = some true))
  (h1 : ((wrap64 ((wrap64 (Int.tmod (IntKind.u64.wrap (a0)) 15)) - 1)) < 0 ∨ 12 < (wrap64 ((wrap64 (Int.tmod (IntKind.u64.wrap (a0)) 15)) - 1))) → t205.toList = [63]) (h2 : ¬ ((wrap64 ((wrap64 (Int.tmod (IntKind.u64.wrap (a0)) 15)) - 1)) < 0 ∨ 12 < (wrap64 ((wrap64 (Int.tmod (IntKind.u64.wrap (a0)) 15)) - 1))) → t205.toList ≠ [63] ∧ (t205.toList = t206.toList ↔ (wrap64 ((wrap64 (Int.tmod (IntKind.u64.wrap (a0)) 15)) - 1)) = (wrap64 ((wrap64 (Int.tmod (IntKind.u64.wrap (a1)) 15)) - 1))))
  (h3 : ((wrap64 (Int.tmod (IntKind.u64.wrap (Int.tdiv (IntKind.u64.wrap (a0)) 15)) 14)) < 1 ∨ 12 < (wrap64 (Int.tmod (IntKind.u64.wrap (Int.tdiv (IntKind.u64.wrap (a0)) 15)) 14))) → t207.toList = ([63, 32, 97, 114, 103, 117, 109, 101, 110, 116] : List UInt8)) (h4 : ¬ ((wrap64 (Int.tmod (IntKind.u64.wrap (Int.tdiv (IntKind.u64.wrap (a0)) 15)) 14)) < 1 ∨ 12 < (wrap64 (Int.tmod (IntKind.u64.wrap (Int.tdiv (IntKind.u64.wrap (a0)) 15)) 14))) → t207.toList ≠ ([63, 32, 97, 114, 103, 117, 109, 101, 110, 116] : List UInt8) ∧ (t207.toList = t208.toList ↔ (wrap64 (Int.tmod (IntKind.u64.wrap (Int.tdiv (IntKind.u64.wrap (a0)) 15)) 14)) = (wrap64 (Int.tmod (IntKind.u64.wrap (Int.tdiv (IntKind.u64.wrap (a1)) 15)) 14)))) :
  Calls Tryd.prog 3 #[.int .i64 a0, .int .i64 a1] w fun e w' => e = .returned (.bool true) ∧ Below w.heap.size w w' := by
  have hu29 := Tryd.underlying29
  have HB := Aside0.mk (Below.refl w.heap.size w)
  have H1 := Aside0.mk h1
  have H2 := Aside0.mk h2
  have H3 := Aside0.mk h3
  have H4 := Aside0.mk h4
  clear h1 h2 h3 h4
  go_enter Tryd.func3, Tryd.ntmps3
  go_upto_region 3 with (first | ((with_reducible refine gate_callee (f := 6) rfl ?_); refine goesL_ (some 25) rfl rfl Tryd.func6 (by kernel_rfl) rfl #[.int .i64 (wrap64 ((wrap64 (Int.tmod (IntKind.u64.wrap (a0)) 15)) - 1))] rfl (by (try simp only [List.map_toArray, List.map_cons, List.map_nil]); first | done | rfl | (simp only [List.length_drop, List.length_take]; rfl)) ?_; (with_reducible refine (report_Code.calls (wrap64 ((wrap64 (Int.tmod (IntKind.u64.wrap (a0)) 15)) - 1)) t205 _ A3.out).mono ?_); rintro e w6 ⟨rfl, hb⟩; refine ⟨_, rfl, ?_⟩; have n0_ := Aside0.mk (below_step (by repeat (first | (with_reducible first | exact HB.out | apply below_alloc | apply pw_below_drewN | apply below_drew1) | exact HB.out)) hb); clear HB; have HB := n0_; clear n0_; (try clear hb); (try clear hb2); (try clear hk); (try clear hi)) | ((with_reducible refine gate_callee (f := 6) rfl ?_); refine goesL_ (some 27) rfl rfl Tryd.func6 (by kernel_rfl) rfl #[.int .i64 (wrap64 ((wrap64 (Int.tmod (IntKind.u64.wrap (a1)) 15)) - 1))] rfl (by (try simp only [List.map_toArray, List.map_cons, List.map_nil]); first | done | rfl | (simp only [List.length_drop, List.length_take]; rfl)) ?_; (with_reducible refine (report_Code.calls (wrap64 ((wrap64 (Int.tmod (IntKind.u64.wrap (a1)) 15)) - 1)) t206 _ A4.out).mono ?_); rintro e w7 ⟨rfl, hb⟩; refine ⟨_, rfl, ?_⟩; have n0_ := Aside0.mk (below_step (by repeat (first | (with_reducible first | exact HB.out | apply below_alloc | apply pw_below_drewN | apply below_drew1) | exact HB.out)) hb); clear HB; have HB := n0_; clear n0_; (try clear hb); (try clear hb2); (try clear hk); (try clear hi)))
  (try simp only [Act.put, List.setIfInBounds_toArray, List.set_cons_zero, List.set_cons_succ])
  go_cut [49] (fun v49 wc => v49 = .bool false ∧ Aside0 (Below w.heap.size w wc))
  case first =>
    by_cases c1 : (wrap64 ((wrap64 (Int.tmod (IntKind.u64.wrap (a0)) 15)) - 1)) < 0
    · have e := H1.out (Or.inl c1)
      have b1 : decide ((wrap64 ((wrap64 (Int.tmod (IntKind.u64.wrap (a0)) 15)) - 1)) < 0) = true := decide_eq_true c1
      have b3 : (t205.toList == ([63] : List UInt8)) = true := beq_iff_eq.mpr e
      have b4 : (t205.toList != ([63] : List UInt8)) = false := bne_eq_false_iff_eq.mpr e
      clear c1 e
      clear H1 H2 H3 H4
      (try simp only [@List.append_eq Oper, @List.cons_append Oper, @List.nil_append Oper] at *)
      go_wp2
      go_meet
      exact ⟨by first | rfl | (simp; done) | (simp [*]; done), HB⟩
    · by_cases c2 : 12 < (wrap64 ((wrap64 (Int.tmod (IntKind.u64.wrap (a0)) 15)) - 1))
      · have e := H1.out (Or.inr c2)
        have b1 : decide ((wrap64 ((wrap64 (Int.tmod (IntKind.u64.wrap (a0)) 15)) - 1)) < 0) = false := decide_eq_false c1
        have b2 : decide (12 < (wrap64 ((wrap64 (Int.tmod (IntKind.u64.wrap (a0)) 15)) - 1))) = true := decide_eq_true c2
        have b3 : (t205.toList == ([63] : List UInt8)) = true := beq_iff_eq.mpr e
        have b4 : (t205.toList != ([63] : List UInt8)) = false := bne_eq_false_iff_eq.mpr e
        clear c1 c2 e
        clear H1 H2 H3 H4
        (try simp only [@List.append_eq Oper, @List.cons_append Oper, @List.nil_append Oper] at *)
        go_wp2
        go_meet
        exact ⟨by first | rfl | (simp; done) | (simp [*]; done), HB⟩
      · obtain ⟨e, e'⟩ := H2.out (fun h => h.elim c1 c2)
        by_cases c3 : (wrap64 ((wrap64 (Int.tmod (IntKind.u64.wrap (a0)) 15)) - 1)) = (wrap64 ((wrap64 (Int.tmod (IntKind.u64.wrap (a1)) 15)) - 1))
        · have x := e'.2 c3
          have b1 : decide ((wrap64 ((wrap64 (Int.tmod (IntKind.u64.wrap (a0)) 15)) - 1)) < 0) = false := decide_eq_false c1
          have b2 : decide (12 < (wrap64 ((wrap64 (Int.tmod (IntKind.u64.wrap (a0)) 15)) - 1))) = false := decide_eq_false c2
          have b3 : (t205.toList == ([63] : List UInt8)) = false := beq_eq_false_iff_ne.mpr e
          have b4 : (t205.toList != ([63] : List UInt8)) = true := bne_iff_ne.mpr e
          have b5 : (t205.toList == t206.toList) = true := beq_iff_eq.mpr x
          have b6 : ((wrap64 ((wrap64 (Int.tmod (IntKind.u64.wrap (a0)) 15)) - 1)) == (wrap64 ((wrap64 (Int.tmod (IntKind.u64.wrap (a1)) 15)) - 1))) = true := beq_iff_eq.mpr c3
          clear c1 c2 c3 e e' x
          clear H1 H2 H3 H4
          (try simp only [@List.append_eq Oper, @List.cons_append Oper, @List.nil_append Oper] at *)
          go_wp2
          go_meet
          exact ⟨by first | rfl | (simp; done) | (simp [*]; done), HB⟩
        · have x : t205.toList ≠ t206.toList := fun z => c3 (e'.1 z)
          have b1 : decide ((wrap64 ((wrap64 (Int.tmod (IntKind.u64.wrap (a0)) 15)) - 1)) < 0) = false := decide_eq_false c1
          have b2 : decide (12 < (wrap64 ((wrap64 (Int.tmod (IntKind.u64.wrap (a0)) 15)) - 1))) = false := decide_eq_false c2
          have b3 : (t205.toList == ([63] : List UInt8)) = false := beq_eq_false_iff_ne.mpr e
          have b4 : (t205.toList != ([63] : List UInt8)) = true := bne_iff_ne.mpr e
          have b5 : (t205.toList == t206.toList) = false := beq_eq_false_iff_ne.mpr x
          have b6 : ((wrap64 ((wrap64 (Int.tmod (IntKind.u64.wrap (a0)) 15)) - 1)) == (wrap64 ((wrap64 (Int.tmod (IntKind.u64.wrap (a1)) 15)) - 1))) = false := beq_eq_false_iff_ne.mpr c3
          clear c1 c2 c3 e e' x
          clear H1 H2 H3 H4
          (try simp only [@List.append_eq Oper, @List.cons_append Oper, @List.nil_append Oper] at *)
          go_wp2
          go_meet
          exact ⟨by first | rfl | (simp; done) | (simp [*]; done), HB⟩
  case rest =>
    clear HB
    obtain ⟨rfl, HB⟩ := hcut
    by_cases c1 : (wrap64 (Int.tmod (IntKind.u64.wrap (Int.tdiv (IntKind.u64.wrap (a0)) 15)) 14)) < 1
    · have e := H3.out (Or.inl c1)
      have b1 : decide (1 ≤ (wrap64 (Int.tmod (IntKind.u64.wrap (Int.tdiv (IntKind.u64.wrap (a0)) 15)) 14))) = false := decide_eq_false (by omega)
      have b3 : (t207.toList == ([63, 32, 97, 114, 103, 117, 109, 101, 110, 116] : List UInt8)) = true := beq_iff_eq.mpr e
      have b4 : (t207.toList != ([63, 32, 97, 114, 103, 117, 109, 101, 110, 116] : List UInt8)) = false := bne_eq_false_iff_eq.mpr e
      clear c1 e
      clear H1 H2 H3 H4
      (try simp only [@List.append_eq Oper, @List.cons_append Oper, @List.nil_append Oper] at *)
      go_wp2_with (first | ((with_reducible refine gate_callee (f := 7) rfl ?_); refine goesL_ (some 62) rfl rfl Tryd.func7 (by kernel_rfl) rfl #[.agg #[.int .i64 (wrap64 (Int.tmod (IntKind.u64.wrap (Int.tdiv (IntKind.u64.wrap (a0)) 15)) 14)), .int .i64 1, .int .i64 0, .int .i64 0, .int .i64 0, .bool false, .int .i64 0, .int .i64 0, .int .i64 0, .int .i64 0]] rfl (by (try simp only [List.map_toArray, List.map_cons, List.map_nil]); first | done | rfl | (simp only [List.length_drop, List.length_take]; rfl)) ?_; (with_reducible refine (report_Line.calls k (wrap64 (Int.tmod (IntKind.u64.wrap (Int.tdiv (IntKind.u64.wrap (a0)) 15)) 14)) 1 0 0 0 false 0 0 0 0 t207 _ (tab_at HTB (by repeat (first | (with_reducible first | exact HB.out | apply below_alloc | apply pw_below_drewN | apply below_drew1) | exact HB.out))) A14.out).mono ?_); rintro e w36 ⟨rfl, hb⟩; refine ⟨_, rfl, ?_⟩; have n0_ := Aside0.mk (below_step (by repeat (first | (with_reducible first | exact HB.out | apply below_alloc | apply pw_below_drewN | apply below_drew1) | exact HB.out)) hb); clear HB; have HB := n0_; clear n0_; (try clear hb); (try clear hb2); (try clear hk); (try clear hi)) | ((with_reducible refine gate_callee (f := 7) rfl ?_); refine goesL_ (some 65) rfl rfl Tryd.func7 (by kernel_rfl) rfl #[.agg #[.int .i64 (wrap64 (Int.tmod (IntKind.u64.wrap (Int.tdiv (IntKind.u64.wrap (a1)) 15)) 14)), .int .i64 1, .int .i64 0, .int .i64 0, .int .i64 0, .bool false, .int .i64 0, .int .i64 0, .int .i64 0, .int .i64 0]] rfl (by (try simp only [List.map_toArray, List.map_cons, List.map_nil]); first | done | rfl | (simp only [List.length_drop, List.length_take]; rfl)) ?_; (with_reducible refine (report_Line.calls k (wrap64 (Int.tmod (IntKind.u64.wrap (Int.tdiv (IntKind.u64.wrap (a1)) 15)) 14)) 1 0 0 0 false 0 0 0 0 t208 _ (tab_at HTB (by repeat (first | (with_reducible first | exact HB.out | apply below_alloc | apply pw_below_drewN | apply below_drew1) | exact HB.out))) A15.out).mono ?_); rintro e w37 ⟨rfl, hb⟩; refine ⟨_, rfl, ?_⟩; have n0_ := Aside0.mk (below_step (by repeat (first | (with_reducible first | exact HB.out | apply below_alloc | apply pw_below_drewN | apply below_drew1) | exact HB.out)) hb); clear HB; have HB := n0_; clear n0_; (try clear hb); (try clear hb2); (try clear hk); (try clear hi)) | ((with_reducible refine gate_callee (f := 8) rfl ?_); refine goesL_ (some 72) rfl rfl Tryd.func8 (by kernel_rfl) rfl #[] rfl (by (try simp only [List.map_toArray, List.map_cons, List.map_nil]); first | done | rfl | (simp only [List.length_drop, List.length_take]; rfl)) ?_; (with_reducible refine (quorumitelaw27_told.calls k  true _ (tab_at HTB (by repeat (first | (with_reducible first | exact HB.out | apply below_alloc | apply pw_below_drewN | apply below_drew1) | exact HB.out))) rfl A33.out).mono ?_); rintro e w38 ⟨rfl, hb⟩; refine ⟨_, rfl, ?_⟩; have n0_ := Aside0.mk (below_step (by repeat (first | (with_reducible first | exact HB.out | apply below_alloc | apply pw_below_drewN | apply below_drew1) | exact HB.out)) hb); clear HB; have HB := n0_; clear n0_; (try clear hb); (try clear hb2); (try clear hk); (try clear hi)))
      go_ret
      exact ⟨by first | rfl | (simp; done) | (simp [*]; done), HB.out⟩
    · by_cases c2 : 12 < (wrap64 (Int.tmod (IntKind.u64.wrap (Int.tdiv (IntKind.u64.wrap (a0)) 15)) 14))
      · have e := H3.out (Or.inr c2)
        have b1 : decide (1 ≤ (wrap64 (Int.tmod (IntKind.u64.wrap (Int.tdiv (IntKind.u64.wrap (a0)) 15)) 14))) = true := decide_eq_true (by omega)
        have b2 : decide ((wrap64 (Int.tmod (IntKind.u64.wrap (Int.tdiv (IntKind.u64.wrap (a0)) 15)) 14)) ≤ 12) = false := decide_eq_false (by omega)
        have b3 : (t207.toList == ([63, 32, 97, 114, 103, 117, 109, 101, 110, 116] : List UInt8)) = true := beq_iff_eq.mpr e
        have b4 : (t207.toList != ([63, 32, 97, 114, 103, 117, 109, 101, 110, 116] : List UInt8)) = false := bne_eq_false_iff_eq.mpr e
        clear c1 c2 e
        clear H1 H2 H3 H4
        (try simp only [@List.append_eq Oper, @List.cons_append Oper, @List.nil_append Oper] at *)
        go_wp2_with (first | ((with_reducible refine gate_callee (f := 7) rfl ?_); refine goesL_ (some 62) rfl rfl Tryd.func7 (by kernel_rfl) rfl #[.agg #[.int .i64 (wrap64 (Int.tmod (IntKind.u64.wrap (Int.tdiv (IntKind.u64.wrap (a0)) 15)) 14)), .int .i64 1, .int .i64 0, .int .i64 0, .int .i64 0, .bool false, .int .i64 0, .int .i64 0, .int .i64 0, .int .i64 0]] rfl (by (try simp only [List.map_toArray, List.map_cons, List.map_nil]); first | done | rfl | (simp only [List.length_drop, List.length_take]; rfl)) ?_; (with_reducible refine (report_Line.calls k (wrap64 (Int.tmod (IntKind.u64.wrap (Int.tdiv (IntKind.u64.wrap (a0)) 15)) 14)) 1 0 0 0 false 0 0 0 0 t207 _ (tab_at HTB (by repeat (first | (with_reducible first | exact HB.out | apply below_alloc | apply pw_below_drewN | apply below_drew1) | exact HB.out))) A14.out).mono ?_); rintro e w36 ⟨rfl, hb⟩; refine ⟨_, rfl, ?_⟩; have n0_ := Aside0.mk (below_step (by repeat (first | (with_reducible first | exact HB.out | apply below_alloc | apply pw_below_drewN | apply below_drew1) | exact HB.out)) hb); clear HB; have HB := n0_; clear n0_; (try clear hb); (try clear hb2); (try clear hk); (try clear hi)) | ((with_reducible refine gate_callee (f := 7) rfl ?_); refine goesL_ (some 65) rfl rfl Tryd.func7 (by kernel_rfl) rfl #[.agg #[.int .i64 (wrap64 (Int.tmod (IntKind.u64.wrap (Int.tdiv (IntKind.u64.wrap (a1)) 15)) 14)), .int .i64 1, .int .i64 0, .int .i64 0, .int .i64 0, .bool false, .int .i64 0, .int .i64 0, .int .i64 0, .int .i64 0]] rfl (by (try simp only [List.map_toArray, List.map_cons, List.map_nil]); first | done | rfl | (simp only [List.length_drop, List.length_take]; rfl)) ?_; (with_reducible refine (report_Line.calls k (wrap64 (Int.tmod (IntKind.u64.wrap (Int.tdiv (IntKind.u64.wrap (a1)) 15)) 14)) 1 0 0 0 false 0 0 0 0 t208 _ (tab_at HTB (by repeat (first | (with_reducible first | exact HB.out | apply below_alloc | apply pw_below_drewN | apply below_drew1) | exact HB.out))) A15.out).mono ?_); rintro e w37 ⟨rfl, hb⟩; refine ⟨_, rfl, ?_⟩; have n0_ := Aside0.mk (below_step (by repeat (first | (with_reducible first | exact HB.out | apply below_alloc | apply pw_below_drewN | apply below_drew1) | exact HB.out)) hb); clear HB; have HB := n0_; clear n0_; (try clear hb); (try clear hb2); (try clear hk); (try clear hi)) | ((with_reducible refine gate_callee (f := 8) rfl ?_); refine goesL_ (some 72) rfl rfl Tryd.func8 (by kernel_rfl) rfl #[] rfl (by (try simp only [List.map_toArray, List.map_cons, List.map_nil]); first | done | rfl | (simp only [List.length_drop, List.length_take]; rfl)) ?_; (with_reducible refine (quorumitelaw27_told.calls k  true _ (tab_at HTB (by repeat (first | (with_reducible first | exact HB.out | apply below_alloc | apply pw_below_drewN | apply below_drew1) | exact HB.out))) rfl A33.out).mono ?_); rintro e w38 ⟨rfl, hb⟩; refine ⟨_, rfl, ?_⟩; have n0_ := Aside0.mk (below_step (by repeat (first | (with_reducible first | exact HB.out | apply below_alloc | apply pw_below_drewN | apply below_drew1) | exact HB.out)) hb); clear HB; have HB := n0_; clear n0_; (try clear hb); (try clear hb2); (try clear hk); (try clear hi)))
        go_ret
        exact ⟨by first | rfl | (simp; done) | (simp [*]; done), HB.out⟩
      · obtain ⟨e, e'⟩ := H4.out (fun h => h.elim c1 c2)
        by_cases c3 : (wrap64 (Int.tmod (IntKind.u64.wrap (Int.tdiv (IntKind.u64.wrap (a0)) 15)) 14)) = (wrap64 (Int.tmod (IntKind.u64.wrap (Int.tdiv (IntKind.u64.wrap (a1)) 15)) 14))
        · have x := e'.2 c3
          have b1 : decide (1 ≤ (wrap64 (Int.tmod (IntKind.u64.wrap (Int.tdiv (IntKind.u64.wrap (a0)) 15)) 14))) = true := decide_eq_true (by omega)
          have b2 : decide ((wrap64 (Int.tmod (IntKind.u64.wrap (Int.tdiv (IntKind.u64.wrap (a0)) 15)) 14)) ≤ 12) = true := decide_eq_true (by omega)
          have b3 : (t207.toList == ([63, 32, 97, 114, 103, 117, 109, 101, 110, 116] : List UInt8)) = false := beq_eq_false_iff_ne.mpr e
          have b4 : (t207.toList != ([63, 32, 97, 114, 103, 117, 109, 101, 110, 116] : List UInt8)) = true := bne_iff_ne.mpr e
          have b5 : (t207.toList == t208.toList) = true := beq_iff_eq.mpr x
          have b6 : ((wrap64 (Int.tmod (IntKind.u64.wrap (Int.tdiv (IntKind.u64.wrap (a0)) 15)) 14)) == (wrap64 (Int.tmod (IntKind.u64.wrap (Int.tdiv (IntKind.u64.wrap (a1)) 15)) 14))) = true := beq_iff_eq.mpr c3
          clear c1 c2 c3 e e' x
          clear H1 H2 H3 H4
          (try simp only [@List.append_eq Oper, @List.cons_append Oper, @List.nil_append Oper] at *)
          go_wp2_with (first | ((with_reducible refine gate_callee (f := 7) rfl ?_); refine goesL_ (some 62) rfl rfl Tryd.func7 (by kernel_rfl) rfl #[.agg #[.int .i64 (wrap64 (Int.tmod (IntKind.u64.wrap (Int.tdiv (IntKind.u64.wrap (a0)) 15)) 14)), .int .i64 1, .int .i64 0, .int .i64 0, .int .i64 0, .bool false, .int .i64 0, .int .i64 0, .int .i64 0, .int .i64 0]] rfl (by (try simp only [List.map_toArray, List.map_cons, List.map_nil]); first | done | rfl | (simp only [List.length_drop, List.length_take]; rfl)) ?_; (with_reducible refine (report_Line.calls k (wrap64 (Int.tmod (IntKind.u64.wrap (Int.tdiv (IntKind.u64.wrap (a0)) 15)) 14)) 1 0 0 0 false 0 0 0 0 t207 _ (tab_at HTB (by repeat (first | (with_reducible first | exact HB.out | apply below_alloc | apply pw_below_drewN | apply below_drew1) | exact HB.out))) A14.out).mono ?_); rintro e w36 ⟨rfl, hb⟩; refine ⟨_, rfl, ?_⟩; have n0_ := Aside0.mk (below_step (by repeat (first | (with_reducible first | exact HB.out | apply below_alloc | apply pw_below_drewN | apply below_drew1) | exact HB.out)) hb); clear HB; have HB := n0_; clear n0_; (try clear hb); (try clear hb2); (try clear hk); (try clear hi)) | ((with_reducible refine gate_callee (f := 7) rfl ?_); refine goesL_ (some 65) rfl rfl Tryd.func7 (by kernel_rfl) rfl #[.agg #[.int .i64 (wrap64 (Int.tmod (IntKind.u64.wrap (Int.tdiv (IntKind.u64.wrap (a1)) 15)) 14)), .int .i64 1, .int .i64 0, .int .i64 0, .int .i64 0, .bool false, .int .i64 0, .int .i64 0, .int .i64 0, .int .i64 0]] rfl (by (try simp only [List.map_toArray, List.map_cons, List.map_nil]); first | done | rfl | (simp only [List.length_drop, List.length_take]; rfl)) ?_; (with_reducible refine (report_Line.calls k (wrap64 (Int.tmod (IntKind.u64.wrap (Int.tdiv (IntKind.u64.wrap (a1)) 15)) 14)) 1 0 0 0 false 0 0 0 0 t208 _ (tab_at HTB (by repeat (first | (with_reducible first | exact HB.out | apply below_alloc | apply pw_below_drewN | apply below_drew1) | exact HB.out))) A15.out).mono ?_); rintro e w37 ⟨rfl, hb⟩; refine ⟨_, rfl, ?_⟩; have n0_ := Aside0.mk (below_step (by repeat (first | (with_reducible first | exact HB.out | apply below_alloc | apply pw_below_drewN | apply below_drew1) | exact HB.out)) hb); clear HB; have HB := n0_; clear n0_; (try clear hb); (try clear hb2); (try clear hk); (try clear hi)) | ((with_reducible refine gate_callee (f := 8) rfl ?_); refine goesL_ (some 72) rfl rfl Tryd.func8 (by kernel_rfl) rfl #[] rfl (by (try simp only [List.map_toArray, List.map_cons, List.map_nil]); first | done | rfl | (simp only [List.length_drop, List.length_take]; rfl)) ?_; (with_reducible refine (quorumitelaw27_told.calls k  true _ (tab_at HTB (by repeat (first | (with_reducible first | exact HB.out | apply below_alloc | apply pw_below_drewN | apply below_drew1) | exact HB.out))) rfl A33.out).mono ?_); rintro e w38 ⟨rfl, hb⟩; refine ⟨_, rfl, ?_⟩; have n0_ := Aside0.mk (below_step (by repeat (first | (with_reducible first | exact HB.out | apply below_alloc | apply pw_below_drewN | apply below_drew1) | exact HB.out)) hb); clear HB; have HB := n0_; clear n0_; (try clear hb); (try clear hb2); (try clear hk); (try clear hi)))
          go_ret
          exact ⟨by first | rfl | (simp; done) | (simp [*]; done), HB.out⟩
        · have x : t207.toList ≠ t208.toList := fun z => c3 (e'.1 z)
          have b1 : decide (1 ≤ (wrap64 (Int.tmod (IntKind.u64.wrap (Int.tdiv (IntKind.u64.wrap (a0)) 15)) 14))) = true := decide_eq_true (by omega)
          have b2 : decide ((wrap64 (Int.tmod (IntKind.u64.wrap (Int.tdiv (IntKind.u64.wrap (a0)) 15)) 14)) ≤ 12) = true := decide_eq_true (by omega)
          have b3 : (t207.toList == ([63, 32, 97, 114, 103, 117, 109, 101, 110, 116] : List UInt8)) = false := beq_eq_false_iff_ne.mpr e
          have b4 : (t207.toList != ([63, 32, 97, 114, 103, 117, 109, 101, 110, 116] : List UInt8)) = true := bne_iff_ne.mpr e
          have b5 : (t207.toList == t208.toList) = false := beq_eq_false_iff_ne.mpr x
          have b6 : ((wrap64 (Int.tmod (IntKind.u64.wrap (Int.tdiv (IntKind.u64.wrap (a0)) 15)) 14)) == (wrap64 (Int.tmod (IntKind.u64.wrap (Int.tdiv (IntKind.u64.wrap (a1)) 15)) 14))) = false := beq_eq_false_iff_ne.mpr c3
          clear c1 c2 c3 e e' x
          clear H1 H2 H3 H4
          (try simp only [@List.append_eq Oper, @List.cons_append Oper, @List.nil_append Oper] at *)
          go_wp2_with (first | ((with_reducible refine gate_callee (f := 7) rfl ?_); refine goesL_ (some 62) rfl rfl Tryd.func7 (by kernel_rfl) rfl #[.agg #[.int .i64 (wrap64 (Int.tmod (IntKind.u64.wrap (Int.tdiv (IntKind.u64.wrap (a0)) 15)) 14)), .int .i64 1, .int .i64 0, .int .i64 0, .int .i64 0, .bool false, .int .i64 0, .int .i64 0, .int .i64 0, .int .i64 0]] rfl (by (try simp only [List.map_toArray, List.map_cons, List.map_nil]); first | done | rfl | (simp only [List.length_drop, List.length_take]; rfl)) ?_; (with_reducible refine (report_Line.calls k (wrap64 (Int.tmod (IntKind.u64.wrap (Int.tdiv (IntKind.u64.wrap (a0)) 15)) 14)) 1 0 0 0 false 0 0 0 0 t207 _ (tab_at HTB (by repeat (first | (with_reducible first | exact HB.out | apply below_alloc | apply pw_below_drewN | apply below_drew1) | exact HB.out))) A14.out).mono ?_); rintro e w36 ⟨rfl, hb⟩; refine ⟨_, rfl, ?_⟩; have n0_ := Aside0.mk (below_step (by repeat (first | (with_reducible first | exact HB.out | apply below_alloc | apply pw_below_drewN | apply below_drew1) | exact HB.out)) hb); clear HB; have HB := n0_; clear n0_; (try clear hb); (try clear hb2); (try clear hk); (try clear hi)) | ((with_reducible refine gate_callee (f := 7) rfl ?_); refine goesL_ (some 65) rfl rfl Tryd.func7 (by kernel_rfl) rfl #[.agg #[.int .i64 (wrap64 (Int.tmod (IntKind.u64.wrap (Int.tdiv (IntKind.u64.wrap (a1)) 15)) 14)), .int .i64 1, .int .i64 0, .int .i64 0, .int .i64 0, .bool false, .int .i64 0, .int .i64 0, .int .i64 0, .int .i64 0]] rfl (by (try simp only [List.map_toArray, List.map_cons, List.map_nil]); first | done | rfl | (simp only [List.length_drop, List.length_take]; rfl)) ?_; (with_reducible refine (report_Line.calls k (wrap64 (Int.tmod (IntKind.u64.wrap (Int.tdiv (IntKind.u64.wrap (a1)) 15)) 14)) 1 0 0 0 false 0 0 0 0 t208 _ (tab_at HTB (by repeat (first | (with_reducible first | exact HB.out | apply below_alloc | apply pw_below_drewN | apply below_drew1) | exact HB.out))) A15.out).mono ?_); rintro e w37 ⟨rfl, hb⟩; refine ⟨_, rfl, ?_⟩; have n0_ := Aside0.mk (below_step (by repeat (first | (with_reducible first | exact HB.out | apply below_alloc | apply pw_below_drewN | apply below_drew1) | exact HB.out)) hb); clear HB; have HB := n0_; clear n0_; (try clear hb); (try clear hb2); (try clear hk); (try clear hi)) | ((with_reducible refine gate_callee (f := 8) rfl ?_); refine goesL_ (some 72) rfl rfl Tryd.func8 (by kernel_rfl) rfl #[] rfl (by (try simp only [List.map_toArray, List.map_cons, List.map_nil]); first | done | rfl | (simp only [List.length_drop, List.length_take]; rfl)) ?_; (with_reducible refine (quorumitelaw27_told.calls k  true _ (tab_at HTB (by repeat (first | (with_reducible first | exact HB.out | apply below_alloc | apply pw_below_drewN | apply below_drew1) | exact HB.out))) rfl A33.out).mono ?_); rintro e w38 ⟨rfl, hb⟩; refine ⟨_, rfl, ?_⟩; have n0_ := Aside0.mk (below_step (by repeat (first | (with_reducible first | exact HB.out | apply below_alloc | apply pw_below_drewN | apply below_drew1) | exact HB.out)) hb); clear HB; have HB := n0_; clear n0_; (try clear hb); (try clear hb2); (try clear hk); (try clear hi)))
          go_ret
          exact ⟨by first | rfl | (simp; done) | (simp [*]; done), HB.out⟩
end Go.Proofs.YtjcjibghnpjegaaDoor.Pd
