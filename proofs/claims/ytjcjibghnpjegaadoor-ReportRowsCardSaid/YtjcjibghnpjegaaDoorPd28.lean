-- Made by a program of this session (wip: patch_print.py, patch_arr.py, prD.sh) out of the kit's print: functions over lists and the proof that the Go code comes to them.
import Derived.Test.YtjcjibghnpjegaaDoorPd0
import Derived.Test.YtjcjibghnpjegaaDoorPd26
namespace Go.Proofs.YtjcjibghnpjegaaDoor.Pd
open Go.RowKit Go.Proofs.YtjcjibghnpjegaaDoorW.PrintWords Go.Proofs.YtjcjibghnpjegaaDoorW.PrintLast Go.Proofs.YtjcjibghnpjegaaDoorW.PrintMore
attribute [local go_sem] max2_int min2_int max_two min_two max_three min_three max_four min_four   -- for this text's walks alone
set_option linter.unusedVariables false
set_option linter.unusedSimpArgs false

/-! ### report_All: function 10 -/
def report_All.l0 (k : Nat) : List S29 → ByteArray → Option ByteArray
  | [], acc => some acc
  | o :: l, acc => (report_Line.f k o.f0 o.f1 o.f2.f0 o.f2.f1 o.f2.f2 o.f2.f3 o.f2.f4.f0 o.f2.f4.f1 o.f2.f4.f2 o.f2.f4.f3).bind fun t => (if acc.size + (t ++ (⟨#[10]⟩ : ByteArray)).size ≤ 140737488355328 then report_All.l0 k l (acc ++ (t ++ (⟨#[10]⟩ : ByteArray))) else none)
def report_All.f (k : Nat) (l0 : List S29) : Option (ByteArray) := report_All.l0 k l0 ⟨#[]⟩
theorem report_All.mono_l : ∀ (l : List S29) (acc : ByteArray) (k : Nat), LeO (report_All.l0 k l acc) (report_All.l0 (k + 1) l acc)
  | [], _, _ => LeO.refl _
  | o :: l, acc, k => by
    unfold report_All.l0
    exact LeO.bind (report_Line.mono _ _ _ _ _ _ _ _ _ _ _) (fun _ => LeO.ite (report_All.mono_l l _ k) (LeO.refl _))
theorem report_All.mono : ∀ a0 k, LeO (report_All.f k a0) (report_All.f (k + 1) a0) := fun a0 k => report_All.mono_l a0 _ k
theorem all_write (B b : Nat) (acc : ByteArray) (s : ByteArray) (w : World) (h : Lib.IsBuilder 45 5 B b (Lib.byteCells acc.data.toList) w) (hlen : acc.size + s.size ≤ 140737488355328) (hBw : B ≤ w.heap.size) :
    Calls Tryd.prog 18 #[.pointer (some ⟨b, 0, none⟩), .string s] w fun e w' => e = .returned (.tuple #[.int .i64 s.size, .nilIface]) ∧ Lib.IsBuilder 45 5 B b (Lib.byteCells (acc ++ s).data.toList) w' ∧ Below B w w' := by
  refine (Any.Builder_WriteString { Tryd.lays156 with } Tryd.Builder_Extra_156 B b (Lib.byteCells acc.data.toList) s w h (by rw [Lib.byteCells_length]; exact hlen) hBw).mono ?_
  rintro e w' ⟨rfl, h1, h2⟩
  refine ⟨rfl, ?_, h2⟩
  rw [Lib.strCells_eq, ← Lib.byteCells_append] at h1
  have e : (acc ++ s).data.toList = acc.data.toList ++ s.data.toList := by simp
  rw [e]
  exact Or.inr h1
theorem builder_below {B b : Nat} {bs : List Value} {w w1 : World} (h : Lib.IsBuilder 45 5 B b bs w) (hb : Below w.heap.size w w1) : Lib.IsBuilder 45 5 B b bs w1 := by
  have H : ∀ p, Lib.BuilderAt 45 5 B b p bs w → Lib.BuilderAt 45 5 B b p bs w1 := by
    rintro p ⟨h0, v, h1, h2, h3⟩
    refine ⟨h0, v, ?_, own_move h2 (fun k hk => hb.block k (own_lt h2 k hk)), h3⟩
    rw [hb.block b]
    · exact h1
    · rcases Nat.lt_or_ge b w.heap.size with h | h
      · exact h
      · rw [Array.getElem?_eq_none h] at h1; cases h1
  exact h.imp (H _) (H _)
theorem all_string {B b : Nat} {l : List UInt8} {w : World} (h : Lib.IsBuilder 45 5 B b (Lib.byteCells l) w) (hBw : B ≤ w.heap.size) :
    Calls Tryd.prog 19 #[.pointer (some ⟨b, 0, none⟩)] w fun e w' => e = .returned (.string ⟨l.toArray⟩) ∧ Below B w w' := Tryd.Builder_String_any B b l w h hBw
theorem all_drop (l : List S29) (i : Nat) (h : i < l.length) : l.drop i = rd_T29 l (i : Int) :: l.drop (i + 1) := by
  rw [List.drop_eq_getElem_cons h]
  congr 1
  unfold rd_T29
  simp [List.getElem?_eq_getElem h]
set_option maxHeartbeats 4000000 in
set_option maxRecDepth 100000 in
theorem report_All.calls (k : Nat) (A0 : Option Addr) (c0 : Nat) (l0 : List (S29)) (r : ByteArray) (w : World) (HTB : Aside0 (TabOk w)) (hr0 : Kd.C k29 w A0 l0.length l0) (hc0 : l0.length ≤ c0) (h : report_All.f k l0 = some r) :
    Calls Tryd.prog 10 #[.slice A0 l0.length c0] w fun e w' => e = .returned (.string r) ∧ Below w.heap.size w w' := by
  have hu29 := Tryd.underlying29
  have HR0 := Aside0.mk hr0
  have HC0 := Aside0.mk hc0
  clear hr0 hc0
  have HI0 : Aside0 (Lib.IsBuilder 45 5 w.heap.size w.heap.size (Lib.byteCells []) (w.alloc (.cells #[.pointer none, .slice none 0 0] 45))) := ⟨Lib.fresh_isBuilder 45 5 w⟩
  have HB0 : Aside0 (Below w.heap.size w (w.alloc (.cells #[.pointer none, .slice none 0 0] 45))) := ⟨(Below.refl _ w).alloc (Nat.le_refl _) _⟩
  have H0 := Aside0.mk h
  clear h
  go_enter Tryd.func10, Tryd.ntmps10
  go_wp2
  go_loopg [8] l0.length (fun kq v8 wr => ∃ (i : Nat) (acc : ByteArray), v8 = .int .i64 (i : Int) ∧ Aside0 (kq + i = l0.length) ∧ Aside0 (report_All.l0 k (l0.drop i) acc = some r) ∧ Aside0 (Lib.IsBuilder 45 5 w.heap.size w.heap.size (Lib.byteCells acc.data.toList) wr) ∧ Aside0 (Below w.heap.size w wr))
  case atStart => exact ⟨0, ⟨#[]⟩, rfl, ⟨by omega⟩, H0, HI0, HB0⟩
  case round =>
    rename_i wr _ _ _ _
    clear HI0 HB0 H0
    obtain ⟨i, acc, rfl, HK, H, HI, HBw⟩ := hrel
    by_cases hlt : (i : Int) < (l0.length : Int)
    · have hlt' : i < l0.length := by omega
      have q1 : decide ((i : Int) < (l0.length : Int)) = true := decide_eq_true hlt
      have hq := H.out
      clear H
      rw [all_drop l0 i hlt'] at hq
      simp only [report_All.l0] at hq
      obtain ⟨t, hL, hq⟩ := Option.bind_eq_some_iff.mp hq
      have hz : acc.size + (t ++ (⟨#[10]⟩ : ByteArray)).size ≤ 140737488355328 := by
        rcases Nat.lt_or_ge 140737488355328 (acc.size + (t ++ (⟨#[10]⟩ : ByteArray)).size) with h | h
        · rw [if_neg (by omega)] at hq; cases hq
        · exact h
      rw [if_pos hz] at hq
      have HZ := Aside0.mk hz
      have HL := Aside0.mk hL
      have HN := Aside0.mk hq
      clear hz hL hq
      have p144 : 0 ≤ (i : Int) := by omega
      obtain ⟨ad144, e144, hx_0, hx_1, hx_2, hx_3, hx_4, hx_5, hx_6, hx_7, hx_8, hx_9⟩ := at_T29 HR0.out (i : Int) p144 hlt
      cases e144
      simp only [Int.toNat_natCast] at hx_0 hx_1 hx_2 hx_3 hx_4 hx_5 hx_6 hx_7 hx_8 hx_9
      replace hx_0 := (HBw.out.cell (World.block_lt_of_cell? w _ hx_0)).trans hx_0
      replace hx_1 := (HBw.out.cell (World.block_lt_of_cell? w _ hx_1)).trans hx_1
      replace hx_2 := (HBw.out.cell (World.block_lt_of_cell? w _ hx_2)).trans hx_2
      replace hx_3 := (HBw.out.cell (World.block_lt_of_cell? w _ hx_3)).trans hx_3
      replace hx_4 := (HBw.out.cell (World.block_lt_of_cell? w _ hx_4)).trans hx_4
      replace hx_5 := (HBw.out.cell (World.block_lt_of_cell? w _ hx_5)).trans hx_5
      replace hx_6 := (HBw.out.cell (World.block_lt_of_cell? w _ hx_6)).trans hx_6
      replace hx_7 := (HBw.out.cell (World.block_lt_of_cell? w _ hx_7)).trans hx_7
      replace hx_8 := (HBw.out.cell (World.block_lt_of_cell? w _ hx_8)).trans hx_8
      replace hx_9 := (HBw.out.cell (World.block_lt_of_cell? w _ hx_9)).trans hx_9
      replace p144 := eq_true p144
      replace hlt := eq_true hlt
      have HTBr : Aside0 (TabOk wr) := tab_at HTB HBw.out
      have HB := Aside0.mk (Below.refl wr.heap.size wr)
      go_wp2_with (first | ((with_reducible refine gate_dst (N := 5) rfl ?_); refine box_event ?hg (N := 5) ?hd (cs := #[.int .i64 0, .int .i64 0, .int .i64 0, .int .i64 0, .int .i64 0, .bool false, .int .i64 0, .int .i64 0, .int .i64 0, .int .i64 0]) (t := 29) ?hr ?_; (case hd => rfl); (case hg => rfl); (case hr => first | (go_simp; done) | (go_simp; rfl)); intro gb hg w6 hbox hb; have n0_ := Aside0.mk (below_step (by repeat (first | (with_reducible first | exact HB.out | apply below_alloc | apply pw_below_drewN | apply below_drew1) | exact HB.out)) hb); have BK := Aside0.mk hbox; have GE := Aside0.mk ((by rw [hg]; exact (below_size (by repeat (first | (with_reducible first | exact HB.out | apply below_alloc | apply pw_below_drewN | apply below_drew1) | exact HB.out))) : wr.heap.size ≤ gb)); clear HB; have HB := n0_; clear n0_; clear hb hbox hg; have hcz_0 : w6.cell? ⟨gb, 0, none⟩ = some (.int .i64 0) := (blk_cell BK.out 0).trans rfl; have hfz_0 := blk_frozen BK.out 0; have hcz_1 : w6.cell? ⟨gb, 1, none⟩ = some (.int .i64 0) := (blk_cell BK.out 1).trans rfl; have hfz_1 := blk_frozen BK.out 1; have hcz_2 : w6.cell? ⟨gb, 2, none⟩ = some (.int .i64 0) := (blk_cell BK.out 2).trans rfl; have hfz_2 := blk_frozen BK.out 2; have hcz_3 : w6.cell? ⟨gb, 3, none⟩ = some (.int .i64 0) := (blk_cell BK.out 3).trans rfl; have hfz_3 := blk_frozen BK.out 3; have hcz_4 : w6.cell? ⟨gb, 4, none⟩ = some (.int .i64 0) := (blk_cell BK.out 4).trans rfl; have hfz_4 := blk_frozen BK.out 4; have hcz_5 : w6.cell? ⟨gb, 5, none⟩ = some (.bool false) := (blk_cell BK.out 5).trans rfl; have hfz_5 := blk_frozen BK.out 5; have hcz_6 : w6.cell? ⟨gb, 6, none⟩ = some (.int .i64 0) := (blk_cell BK.out 6).trans rfl; have hfz_6 := blk_frozen BK.out 6; have hcz_7 : w6.cell? ⟨gb, 7, none⟩ = some (.int .i64 0) := (blk_cell BK.out 7).trans rfl; have hfz_7 := blk_frozen BK.out 7; have hcz_8 : w6.cell? ⟨gb, 8, none⟩ = some (.int .i64 0) := (blk_cell BK.out 8).trans rfl; have hfz_8 := blk_frozen BK.out 8; have hcz_9 : w6.cell? ⟨gb, 9, none⟩ = some (.int .i64 0) := (blk_cell BK.out 9).trans rfl; have hfz_9 := blk_frozen BK.out 9) | ((with_reducible refine gate_callee (f := 7) rfl ?_); refine goesL_ (some 13) rfl rfl Tryd.func7 (by kernel_rfl) rfl #[.agg #[.int .i64 (rd_T29 l0 (i : Int)).f0, .int .i64 (rd_T29 l0 (i : Int)).f1, .int .i64 (rd_T29 l0 (i : Int)).f2.f0, .int .i64 (rd_T29 l0 (i : Int)).f2.f1, .int .i64 (rd_T29 l0 (i : Int)).f2.f2, .bool (rd_T29 l0 (i : Int)).f2.f3, .int .i64 (rd_T29 l0 (i : Int)).f2.f4.f0, .int .i64 (rd_T29 l0 (i : Int)).f2.f4.f1, .int .i64 (rd_T29 l0 (i : Int)).f2.f4.f2, .int .i64 (rd_T29 l0 (i : Int)).f2.f4.f3]] rfl (by (try simp only [List.map_toArray, List.map_cons, List.map_nil]); first | done | rfl | (simp only [List.length_drop, List.length_take]; rfl)) ?_; (with_reducible refine (report_Line.calls k (rd_T29 l0 (i : Int)).f0 (rd_T29 l0 (i : Int)).f1 (rd_T29 l0 (i : Int)).f2.f0 (rd_T29 l0 (i : Int)).f2.f1 (rd_T29 l0 (i : Int)).f2.f2 (rd_T29 l0 (i : Int)).f2.f3 (rd_T29 l0 (i : Int)).f2.f4.f0 (rd_T29 l0 (i : Int)).f2.f4.f1 (rd_T29 l0 (i : Int)).f2.f4.f2 (rd_T29 l0 (i : Int)).f2.f4.f3 t _ (tab_at HTBr (by repeat (first | (with_reducible first | exact HB.out | apply below_alloc | apply pw_below_drewN | apply below_drew1 | refine below_set ?_ GE.out) | exact HB.out))) HL.out).mono ?_); rintro e w7 ⟨rfl, hb⟩; refine ⟨_, rfl, ?_⟩; have n0_ := Aside0.mk (below_step (by repeat (first | (with_reducible first | exact HB.out | apply below_alloc | apply pw_below_drewN | apply below_drew1 | refine below_set ?_ GE.out) | exact HB.out)) hb); clear HB; have HB := n0_; clear n0_; clear hb) | ((with_reducible refine gate_callee (f := 18) rfl ?_); refine goesL_ (some 15) rfl rfl Tryd.func18 (by kernel_rfl) rfl #[.pointer (some ⟨w.heap.size, 0, none⟩), .string (t ++ ⟨#[10]⟩)] rfl (by (try simp only [List.map_toArray, List.map_cons, List.map_nil]); first | done | rfl) ?_; (with_reducible refine (all_write w.heap.size w.heap.size acc (t ++ ⟨#[10]⟩) _ (builder_below HI.out (by repeat (first | (with_reducible first | exact HB.out | apply below_alloc | apply pw_below_drewN | apply below_drew1 | refine below_set ?_ GE.out) | exact HB.out))) HZ.out (Nat.le_trans (below_size HBw.out) (below_size (by repeat (first | (with_reducible first | exact HB.out | apply below_alloc | apply pw_below_drewN | apply below_drew1 | refine below_set ?_ GE.out) | exact HB.out))))).mono ?_); rintro e w8 ⟨rfl, hi, hb⟩; refine ⟨_, rfl, ?_⟩; have HI2 := Aside0.mk hi; have HBd := Aside0.mk (HBw.out.trans (((show Below wr.heap.size wr _ from (by repeat (first | (with_reducible first | exact HB.out | apply below_alloc | apply pw_below_drewN | apply below_drew1 | refine below_set ?_ GE.out) | exact HB.out))).mono (below_size HBw.out)).trans hb)); clear hb hi))
      · exfalso
        have := HZ.out
        rename_i hbig
        rw [ByteArray.size_append] at this
        have e : (⟨#[10]⟩ : ByteArray).size = 1 := rfl
        omega
      · have hmax := Kd.C_max HR0.out
        go_roundg (gk - 1)
        case measure => have := HK.out; omega
        case rel => exact ⟨i + 1, acc ++ (t ++ ⟨#[10]⟩), (by rw [show wrap64 ((i : Int) + 1) = ((i + 1 : Nat) : Int) from by (unfold wrap64; omega)]), ⟨by have := HK.out; omega⟩, HN, HI2, HBd⟩
    · have hlt' : l0.length ≤ i := by omega
      have q1 : decide ((i : Int) < (l0.length : Int)) = false := decide_eq_false hlt
      have hq := H.out
      clear H
      rw [List.drop_eq_nil_of_le hlt'] at hq
      obtain rfl := Option.some.inj hq
      clear hlt
      go_wp2_with (first | ((with_reducible refine gate_callee (f := 19) rfl ?_); refine goesL_ (some 17) rfl rfl Tryd.func19 (by kernel_rfl) rfl #[.pointer (some ⟨w.heap.size, 0, none⟩)] rfl (by (try simp only [List.map_toArray, List.map_cons, List.map_nil]); first | done | rfl) ?_; (with_reducible refine (all_string (l := acc.data.toList) HI.out (below_size HBw.out)).mono ?_); rintro e w8 ⟨rfl, hb⟩; refine ⟨_, rfl, ?_⟩; have HBd := Aside0.mk (HBw.out.trans hb); clear hb))
      go_ret
      exact ⟨by first | rfl | (simp [errW_none, errW_some] <;> rfl) | (simp [*, errW_none, errW_some] <;> rfl), HBd.out⟩

end Go.Proofs.YtjcjibghnpjegaaDoor.Pd
