/- The score: what lies in memory, and what its methods New, has, Out, Get, Set, All, end come to (merged texts). -/
import Derived.Test.YtjcjibghnpjegaaProg
import Derived.Maps.OwnOps
import Derived.Maps.OwnSet
import Derived.Maps.Views
import Derived.Maps.Keyed
import Derived.KernelRfl
import Derived.Test.YtjcjibghnpjegaaWWords
import Derived.Test.YtjcjibghnpjegaaWLast
import Derived.Test.YtjcjibghnpjegaaWMore
import Derived.Test.YtjcjibghnpjegaaWKept
import Derived.WalkKit
import Derived.RowKit3
import Derived.OwnWalk
import Derived.Laws.LoneSync
import Derived.Test.YtjcjibghnpjegaaPr0
/- A set kept as a map[int]bool that the call has made: what is asked, what is stored. No condition but that the keys are numbers of an int. -/
namespace Go.Proofs.Ytjcjibghnpjegaa.Sc
set_option linter.unusedVariables false
set_option linter.unusedSimpArgs false
open Go.Maps
def InI (a : Int) : Prop := -9223372036854775808 ≤ a ∧ a ≤ 9223372036854775807
theorem wf_of {a : Int} (h : InI a) : (Lit.int .i64 a).wf = true := by
  have e1 : IntKind.i64.min = -9223372036854775808 := rfl
  have e2 : IntKind.i64.max = 9223372036854775807 := rfl
  simp [Lit.wf, e1, e2]
  exact h
theorem key3 : Keyed Try.prog 3 := int_keyed Try.underlying3
theorem zero4 (w : World) : (zeroValue 4).run Try.prog w = .ok (.bool false) w := by kernel_rfl
theorem plainElem_bool_inv {H : Type} {v : Value} {z : DataW H × List MemPlace} (h : plainElem Try.prog 4 v = some z) : ∃ x, v = .bool x ∧ z = (.lit (.bool x), []) := by
  unfold plainElem at h
  rw [Try.underlying4] at h
  cases v <;> simp at h
  exact ⟨_, rfl, h.symm⟩
/-- Block b is a map[int]bool of at most n entries; at i it tells f i. -/
def SetIs (w : World) (b n : Nat) (f : Int → Bool) : Prop :=
  ∃ D : DataW Unit, w.ownsMap Try.prog 3 (plainElem Try.prog 4) b n D ∧ ∀ i, InI i → D.atKey (.int .i64 i) (.lit (.bool false)) = .lit (.bool (f i))
theorem SetIs.made (w : World) : SetIs (w.alloc (.map #[] 0)) w.heap.size 0 (fun _ => false) :=
  ⟨_, World.ownsMap_made _ _ _ _, fun i _ => rfl⟩
theorem SetIs.lt {w : World} {b n : Nat} {f : Int → Bool} (h : SetIs w b n f) : b < w.heap.size := by
  obtain ⟨D, h, _⟩ := h; exact h.lt
theorem SetIs.mono {w : World} {b n n' : Nat} {f : Int → Bool} (h : SetIs w b n f) (hn : n ≤ n') : SetIs w b n' f := by
  obtain ⟨D, h, k⟩ := h; exact ⟨D, h.mono hn, k⟩
theorem SetIs.kept {w w' : World} {b n : Nat} {f : Int → Bool} (h : SetIs w b n f) (hb : w'.heap[b]? = w.heap[b]?) : SetIs w' b n f := by
  obtain ⟨D, ⟨es, clock, h1, h2, h3, h4⟩, k⟩ := h
  exact ⟨D, ⟨es, clock, hb.trans h1, h2, h3, h4⟩, k⟩
/-- 'm[k]' at the operation. -/
theorem wpList_lookup_set (w : World) {ops : Array Oper} {rest : List Oper} {o : Oper} {a : Act} {Q : Exit → Act → World → Prop}
    (hg : o.guard = none) (m x : Operand) (hop : o.op = Op.lookup 71 m x false) (b n : Nat) (f : Int → Bool)
    (hm : a.eval m = .map (some b)) (h : SetIs w b n f) (i : Int) (hx : a.eval x = .int .i64 i) (hi : InI i)
    (hK : wpList Try.prog ops Q rest (a.put o.dst (.bool (f i))) w) : wpList Try.prog ops Q (o :: rest) a w := by
  refine wpList_plain hg fun K' hK' => ?_
  obtain ⟨D, hown, hf⟩ := h
  obtain ⟨v, ps, hrun, hv⟩ := hown.lookup key3 Try.underlying71 (zero4 w) (plainElem_bool Try.underlying4 false) (keyOf_int_mk Try.underlying3 (wf_of hi))
  obtain ⟨c, rfl, hc⟩ := plainElem_bool_inv hv
  have hc' : D.atKey (.int .i64 i) (.lit (.bool false)) = .lit (.bool c) := congrArg Prod.fst hc
  rw [hf i hi] at hc'
  injection hc' with hc'
  injection hc' with hc'
  subst hc'
  unfold Oper.wp
  simp [execOp, hop, hm, hx, hrun, Result.andThen]
  exact hK' _ _ hK
/-- 'm[k] = true' at the operation. -/
theorem wpList_store_set (w : World) {ops : Array Oper} {rest : List Oper} {o : Oper} {a : Act} {Q : Exit → Act → World → Prop}
    (hg : o.guard = none) (m x v : Operand) (hop : o.op = Op.mapUpdate 71 m x v) (b n : Nat) (f : Int → Bool)
    (hm : a.eval m = .map (some b)) (h : SetIs w b n f) (hn : n < maxLen) (i : Int) (hx : a.eval x = .int .i64 i) (hi : InI i) (hv : a.eval v = .bool true)
    (hK : ∀ w', SetIs w' b (n + 1) (fun j => decide (j = i) || f j) → w.grownBy w' (some b) → wpList Try.prog ops Q rest (a.put o.dst undef) w') : wpList Try.prog ops Q (o :: rest) a w := by
  obtain ⟨D, hown, hf⟩ := h
  refine wpList_mapUpdate_own w hg m x v 71 hop 3 4 key3 Try.underlying71 _ b n D hm hown hn (.int .i64 i) (.bool true) (.int .i64 i) hx hv (keyOf_int_mk Try.underlying3 (wf_of hi)) (.lit (.bool true)) [] (plainElem_bool Try.underlying4 true) fun w' h1 h2 => hK w' ⟨_, h1, fun j hj => ?_⟩ h2
  by_cases e : j = i
  · subst e
    rw [atKey_put_same hown.isMap (by trivial)]
    simp
  · rw [atKey_put_other (fun q => e (by injection q)), hf j hj]
    simp [e]
end Go.Proofs.Ytjcjibghnpjegaa.Sc

/- A score in memory, and what its small methods answer: has, Out, Get. Condition: the score lies as Sc says. -/
namespace Go.Proofs.Ytjcjibghnpjegaa.Sc
open Go.RowKit Go.Proofs.YtjcjibghnpjegaaW.PrintWords Go.Proofs.YtjcjibghnpjegaaW.PrintLast Go.Proofs.YtjcjibghnpjegaaW.PrintMore
set_option linter.unusedVariables false
set_option linter.unusedSimpArgs false
/-- What is known of a collector. -/
structure Std where
  k : Int
  c : Int
  o : Bool
def Std.cells (s : Std) : List Value := [.int .i64 s.k, .int .i64 s.c, .bool s.o]
def row (ss : List Std) : List Value := ss.flatMap Std.cells
theorem row_length (ss : List Std) : (row ss).length = 3 * ss.length := by
  induction ss with
  | nil => rfl
  | cons s ss ih => simp only [row, List.flatMap_cons, List.length_append, Std.cells, List.length_cons, List.length_nil] at *; omega
theorem row_at : ∀ (ss : List Std) (i : Nat) (s : Std), ss[i]? = some s → (row ss)[i * 3]? = some (.int .i64 s.k) ∧ (row ss)[i * 3 + 1]? = some (.int .i64 s.c) ∧ (row ss)[i * 3 + 2]? = some (.bool s.o)
  | [], i, s, h => by simp at h
  | t :: ss, 0, s, h => by
    simp only [List.getElem?_cons_zero, Option.some.injEq] at h
    subst h
    simp [row, Std.cells]
  | t :: ss, i + 1, s, h => by
    simp only [List.getElem?_cons_succ] at h
    obtain ⟨h0, h1, h2⟩ := row_at ss i s h
    have e : row (t :: ss) = [.int .i64 t.k, .int .i64 t.c, .bool t.o] ++ row ss := rfl
    refine ⟨?_, ?_, ?_⟩
    · rw [e, List.getElem?_append_right (by simp; omega)]
      rw [show (i + 1) * 3 - ([Value.int .i64 t.k, .int .i64 t.c, .bool t.o] : List Value).length = i * 3 by simp; omega]; exact h0
    · rw [e, List.getElem?_append_right (by simp; omega)]
      rw [show (i + 1) * 3 + 1 - ([Value.int .i64 t.k, .int .i64 t.c, .bool t.o] : List Value).length = i * 3 + 1 by simp; omega]; exact h1
    · rw [e, List.getElem?_append_right (by simp; omega)]
      rw [show (i + 1) * 3 + 2 - ([Value.int .i64 t.k, .int .i64 t.c, .bool t.o] : List Value).length = i * 3 + 2 by simp; omega]; exact h2
/-- A score at block b, its row at block r. -/
def Sc (w : World) (b r : Nat) (st pr fa : Int) (ss : List Std) : Prop :=
  b ≠ r ∧ ss.length ≤ 16 ∧ (∃ ct, w.heap[b]? = some (.cells #[.slice (some ⟨r, 0, none⟩) ss.length ss.length, .int .i64 st, .int .i64 pr, .int .i64 fa, .int .i64 ct] 70 (0, 0))) ∧ w.heap[r]? = some (.cells (row ss).toArray 54 (0, 0))
section
variable {w : World} {b r : Nat} {st pr fa : Int} {ss : List Std}
theorem Sc.kept {w' : World} (h : Sc w b r st pr fa ss) (hb : w'.heap[b]? = w.heap[b]?) (hr : w'.heap[r]? = w.heap[r]?) : Sc w' b r st pr fa ss := by
  obtain ⟨h0, h1, ⟨ct, h2⟩, h3⟩ := h
  exact ⟨h0, h1, ⟨ct, hb.trans h2⟩, hr.trans h3⟩
theorem lt_of_block {w : World} {k : Nat} {o : Obj} (h : w.heap[k]? = some o) : k < w.heap.size := by
  rcases Nat.lt_or_ge k w.heap.size with q | q
  · exact q
  · rw [Array.getElem?_eq_none q] at h; cases h
theorem Sc.lt (h : Sc w b r st pr fa ss) : b < w.heap.size ∧ r < w.heap.size := by
  obtain ⟨_, _, ⟨_, h2⟩, h3⟩ := h
  exact ⟨lt_of_block h2, lt_of_block h3⟩
theorem Sc.below {w' : World} (h : Sc w b r st pr fa ss) (hb : Below w.heap.size w w') : Sc w' b r st pr fa ss := h.kept (hb.block b h.lt.1) (hb.block r h.lt.2)
theorem cell_of {w : World} {k : Nat} {cs : Array Value} {t : TypeId} (h : w.heap[k]? = some (.cells cs t (0, 0))) (j : Nat) : w.cell? ⟨k, j, none⟩ = cs[j]? := by
  simp [World.cell?, h]
theorem Sc.c0 (h : Sc w b r st pr fa ss) : w.cell? ⟨b, 0, none⟩ = some (.slice (some ⟨r, 0, none⟩) ss.length ss.length) := by
  obtain ⟨_, _, ⟨_, h2⟩, _⟩ := h; rw [cell_of h2]; rfl
theorem Sc.c1 (h : Sc w b r st pr fa ss) : w.cell? ⟨b, 1, none⟩ = some (.int .i64 st) := by
  obtain ⟨_, _, ⟨_, h2⟩, _⟩ := h; rw [cell_of h2]; rfl
theorem Sc.c2 (h : Sc w b r st pr fa ss) : w.cell? ⟨b, 2, none⟩ = some (.int .i64 pr) := by
  obtain ⟨_, _, ⟨_, h2⟩, _⟩ := h; rw [cell_of h2]; rfl
theorem Sc.c3 (h : Sc w b r st pr fa ss) : w.cell? ⟨b, 3, none⟩ = some (.int .i64 fa) := by
  obtain ⟨_, _, ⟨_, h2⟩, _⟩ := h; rw [cell_of h2]; rfl
theorem Sc.at_ (h : Sc w b r st pr fa ss) {i : Nat} {s : Std} (hi : ss[i]? = some s) : w.cell? ⟨r, i * 3, none⟩ = some (.int .i64 s.k) ∧ w.cell? ⟨r, i * 3 + 1, none⟩ = some (.int .i64 s.c) ∧ w.cell? ⟨r, i * 3 + 2, none⟩ = some (.bool s.o) := by
  obtain ⟨_, _, _, h3⟩ := h
  obtain ⟨e0, e1, e2⟩ := row_at ss i s hi
  rw [cell_of h3, cell_of h3, cell_of h3]
  simp only [List.getElem?_toArray]
  exact ⟨e0, e1, e2⟩
end
set_option maxHeartbeats 1000000 in
set_option maxRecDepth 100000 in
theorem has_calls {w : World} {b r : Nat} {st pr fa : Int} {ss : List Std} (who : Int) (h : Aside0 (Sc w b r st pr fa ss)) :
    Calls Try.prog 52 #[.pointer (some ⟨b, 0, none⟩), .int .i64 who] w fun e w' => e = .returned (.bool (decide (0 ≤ who ∧ who < ss.length))) ∧ Below w.heap.size w w' := by
  have c0 := h.out.c0
  have HB := Aside0.mk (Below.refl w.heap.size w)
  have hl := h.out.2.1
  go_enter Try.func52, Try.ntmps52
  by_cases h0 : 0 ≤ who
  · by_cases h1 : who < ss.length
    · go_wp2
      go_ret
      refine ⟨by simp [h0, h1], ?_⟩
      repeat (first | (with_reducible first | exact HB.out | apply below_alloc | apply pw_below_drewN | apply below_drew1) | exact HB.out)
    · go_wp2
      go_ret
      refine ⟨by simp [h1], ?_⟩
      repeat (first | (with_reducible first | exact HB.out | apply below_alloc | apply pw_below_drewN | apply below_drew1) | exact HB.out)
  · go_wp2
    go_ret
    refine ⟨by simp; omega, ?_⟩
    repeat (first | (with_reducible first | exact HB.out | apply below_alloc | apply pw_below_drewN | apply below_drew1) | exact HB.out)
theorem idx {r i : Nat} (j : Nat) : (⟨r, 0, none⟩ : Addr).add (i * 3) = ⟨r, i * 3, none⟩ := by
  unfold Addr.add
  split
  · next h => rw [h]
  · simp
def outOf (ss : List Std) (who : Int) : Bool := if 0 ≤ who ∧ who < ss.length then (ss.getD who.toNat ⟨0, 0, false⟩).o else true
set_option maxHeartbeats 2000000 in
set_option maxRecDepth 100000 in
theorem out_calls {w : World} {b r : Nat} {st pr fa : Int} {ss : List Std} (who : Int) (h : Aside0 (Sc w b r st pr fa ss)) :
    Calls Try.prog 40 #[.pointer (some ⟨b, 0, none⟩), .int .i64 who] w fun e w' => e = .returned (.bool (outOf ss who)) ∧ Below w.heap.size w w' := by
  have HB := Aside0.mk (Below.refl w.heap.size w)
  have hl := h.out.2.1
  by_cases h0 : 0 ≤ who ∧ who < ss.length
  · obtain ⟨i, rfl⟩ : ∃ i : Nat, who = (i : Int) := ⟨who.toNat, by omega⟩
    obtain ⟨s, hs⟩ : ∃ s, ss[i]? = some s := ⟨ss[i]'(by omega), List.getElem?_eq_getElem (by omega)⟩
    have e : outOf ss (i : Int) = s.o := by
      unfold outOf
      rw [if_pos h0]
      simp [hs]
    rw [e]
    have hd : decide (0 ≤ (i : Int) ∧ (i : Int) < ss.length) = true := decide_eq_true h0
    have hi := h0.2
    go_enter Try.func40, Try.ntmps40
    go_wp2_with (first | (go_at_call 52; (with_reducible refine (has_calls (w := _) (i : Int) ⟨h.out.below (by repeat (first | (with_reducible first | exact HB.out | apply below_alloc | apply pw_below_drewN | apply below_drew1) | exact HB.out))⟩).mono ?_); rintro e w6 ⟨rfl, hb⟩; have n0_ := Aside0.mk (below_step (by repeat (first | (with_reducible first | exact HB.out | apply below_alloc | apply pw_below_drewN | apply below_drew1) | exact HB.out)) hb); clear HB; have HB := n0_; clear n0_; clear hb; have hS := Aside0.mk (h.out.below HB.out); have q0 := hS.out.c0; obtain ⟨q1, q2, q3⟩ := hS.out.at_ hs))
    go_ret
    exact ⟨rfl, HB.out⟩
  · have hd : decide (0 ≤ who ∧ who < ss.length) = false := decide_eq_false h0
    have e : outOf ss who = true := by
      unfold outOf
      rw [if_neg h0]
    rw [e]
    go_enter Try.func40, Try.ntmps40
    go_wp2_with (first | (go_at_call 52; (with_reducible refine (has_calls (w := _) who ⟨h.out.below (by repeat (first | (with_reducible first | exact HB.out | apply below_alloc | apply pw_below_drewN | apply below_drew1) | exact HB.out))⟩).mono ?_); rintro e w6 ⟨rfl, hb⟩; have n0_ := Aside0.mk (below_step (by repeat (first | (with_reducible first | exact HB.out | apply below_alloc | apply pw_below_drewN | apply below_drew1) | exact HB.out)) hb); clear HB; have HB := n0_; clear n0_; clear hb))
    go_ret
    exact ⟨by simp, HB.out⟩
set_option maxHeartbeats 2000000 in
set_option maxRecDepth 100000 in
theorem get_calls {w : World} {b r : Nat} {st pr fa : Int} {ss : List Std} (i : Nat) (s : Std) (hs : ss[i]? = some s) (h : Aside0 (Sc w b r st pr fa ss)) :
    Calls Try.prog 37 #[.pointer (some ⟨b, 0, none⟩), .int .i64 i] w fun e w' => e = .returned (.tuple #[.agg #[.int .i64 s.k, .int .i64 s.c, .bool s.o], .int .i64 0]) ∧ Below w.heap.size w w' := by
  have HB := Aside0.mk (Below.refl w.heap.size w)
  have hl := h.out.2.1
  have hi : i < ss.length := by
    rcases Nat.lt_or_ge i ss.length with q | q
    · exact q
    · rw [List.getElem?_eq_none q] at hs; cases hs
  have h0 : 0 ≤ (i : Int) ∧ (i : Int) < ss.length := by omega
  have hd : decide (0 ≤ (i : Int) ∧ (i : Int) < ss.length) = true := decide_eq_true h0
  have hi' := h0.2
  go_enter Try.func37, Try.ntmps37
  go_wp2_with (first | ((with_reducible refine gate_dst (N := 4) rfl ?_); refine box_event ?hg (N := 4) ?hd (cs := #[.int .i64 0, .int .i64 0, .bool false]) (t := 54) ?hr ?_; (case hd => rfl); (case hg => rfl); (case hr => first | (go_simp; done) | (go_simp; rfl)); intro gb hg w5 hbox hb; have n0_ := Aside0.mk (below_step (by repeat (first | (with_reducible first | exact HB.out | apply below_alloc | apply pw_below_drewN | apply below_drew1 | refine below_set ?_ (Nat.le_refl _)) | exact HB.out)) hb); have BK := Aside0.mk hbox; have GE := Aside0.mk ((by rw [hg]; exact (below_size (by repeat (first | (with_reducible first | exact HB.out | apply below_alloc | apply pw_below_drewN | apply below_drew1 | refine below_set ?_ (Nat.le_refl _)) | exact HB.out))) : w.heap.size ≤ gb)); clear HB; have HB := n0_; clear n0_; clear hb hbox hg) | (go_at_call 52; (with_reducible refine (has_calls (w := _) (i : Int) ⟨h.out.below (by repeat (first | (with_reducible first | exact HB.out | apply below_alloc | apply pw_below_drewN | apply below_drew1 | refine below_set ?_ (Nat.le_refl _)) | exact HB.out))⟩).mono ?_); rintro e w6 ⟨rfl, hb⟩; have n0_ := Aside0.mk (below_step (by repeat (first | (with_reducible first | exact HB.out | apply below_alloc | apply pw_below_drewN | apply below_drew1 | refine below_set ?_ (Nat.le_refl _)) | exact HB.out)) hb); (try (have n1_ := Aside0.mk (blk_below (by (with_reducible repeat (first | refine blk_drewN ?_ _ | refine blk_drew ?_ | refine blk_alloc ?_ _)); exact BK.out) hb))); clear HB; have HB := n0_; clear n0_; clear hb; have hS := Aside0.mk (h.out.below HB.out); have q0 := hS.out.c0; obtain ⟨q1, q2, q3⟩ := hS.out.at_ hs; have hcz_0 : w6.cell? ⟨gb, 0, none⟩ = some (.int .i64 0) := (blk_cell n1_.out 0).trans rfl; have hfz_0 := blk_frozen n1_.out 0; have hcz_1 : w6.cell? ⟨gb, 1, none⟩ = some (.int .i64 0) := (blk_cell n1_.out 1).trans rfl; have hfz_1 := blk_frozen n1_.out 1; have hcz_2 : w6.cell? ⟨gb, 2, none⟩ = some (.bool false) := (blk_cell n1_.out 2).trans rfl; have hfz_2 := blk_frozen n1_.out 2))
  have hB3 := blk_put (cs' := #[.int .i64 s.k, .int .i64 s.c, .bool s.o]) (blk_put (cs' := #[.int .i64 s.k, .int .i64 s.c, .bool false]) (blk_put (cs' := #[.int .i64 s.k, .int .i64 0, .bool false]) n1_.out 0 (.int .i64 s.k) rfl) 1 (.int .i64 s.c) rfl) 2 (.bool s.o) rfl
  exact bodyPost_ret (results_ct rfl _ _ gb 54 _ (0, 0) _ rfl hB3 Try.underlying54 rfl (by kernel_rfl)) rfl ⟨rfl, below_set (below_set (below_set HB.out GE.out) GE.out) GE.out⟩
end Go.Proofs.Ytjcjibghnpjegaa.Sc

/- score.New at numbers that may be: a new score, of whom nothing is known. -/
namespace Go.Proofs.Ytjcjibghnpjegaa.Sc
open Go.RowKit Go.Proofs.YtjcjibghnpjegaaW.PrintWords Go.Proofs.YtjcjibghnpjegaaW.PrintLast Go.Proofs.YtjcjibghnpjegaaW.PrintMore
set_option linter.unusedVariables false
set_option linter.unusedSimpArgs false
theorem info54 : (Try.prog.info? 54).map (fun i => (i.zero, i.size, i.bytes)) = some (some (.agg #[.int .i64 0, .int .i64 0, .bool false]), 3, 24) := by kernel_rfl
theorem made (n : Nat) (h : 1 ≤ n ∧ n ≤ 16) : madeCells (Value.agg #[.int .i64 0, .int .i64 0, .bool false]).cells (n * 3) = (row (List.replicate n ⟨0, 0, false⟩)).toArray := by
  have : n = 1 ∨ n = 2 ∨ n = 3 ∨ n = 4 ∨ n = 5 ∨ n = 6 ∨ n = 7 ∨ n = 8 ∨ n = 9 ∨ n = 10 ∨ n = 11 ∨ n = 12 ∨ n = 13 ∨ n = 14 ∨ n = 15 ∨ n = 16 := by omega
  rcases this with rfl | rfl | rfl | rfl | rfl | rfl | rfl | rfl | rfl | rfl | rfl | rfl | rfl | rfl | rfl | rfl <;> (apply Array.ext'; rw [madeCells, Array.toList_map, Array.toList_range]; rfl)
set_option maxHeartbeats 2000000 in
set_option maxRecDepth 100000 in
theorem new_calls (n : Nat) (st pr fa : Int) (w : World) (hn : 1 ≤ n ∧ n ≤ 16) (hs : 1 ≤ st ∧ st ≤ 100) (hp : 1 ≤ pr ∧ pr ≤ 100) (hf : 0 ≤ fa ∧ fa ≤ 1099511627776) :
    Calls Try.prog 35 #[.int .i64 n, .int .i64 st, .int .i64 pr, .int .i64 fa] w fun e w' => ∃ b r, e = .returned (.pointer (some ⟨b, 0, none⟩)) ∧ Sc w' b r st pr fa (List.replicate n ⟨0, 0, false⟩) ∧ w.heap.size ≤ b ∧ w.heap.size ≤ r ∧ Below w.heap.size w w' := by
  have HB := Aside0.mk (Below.refl w.heap.size w)
  have b1 : decide ((n : Int) < 1) = false := decide_eq_false (by omega)
  have b2 : decide ((16 : Int) < n) = false := decide_eq_false (by omega)
  have b3 : decide (st < 1) = false := decide_eq_false (by omega)
  have b4 : decide ((100 : Int) < st) = false := decide_eq_false (by omega)
  have b5 : decide (pr < 1) = false := decide_eq_false (by omega)
  have b6 : decide ((100 : Int) < pr) = false := decide_eq_false (by omega)
  have b7 : decide (fa < 0) = false := decide_eq_false (by omega)
  have b8 : decide ((1099511627776 : Int) < fa) = false := decide_eq_false (by omega)
  obtain ⟨i0, hi, hz0, hz1, hz2⟩ := info_parts info54
  have hmk : ∀ W : World, (Instr.makeSlice 61 (.int .i64 n) (.int .i64 n)).run Try.prog W = .ok (.slice (some ⟨W.heap.size, 0, none⟩) n n) (W.alloc (.cells (row (List.replicate n ⟨0, 0, false⟩)).toArray 54)) := by
    intro W
    have := run_makeSlice W 61 54 i0 _ Try.underlying61 hi hz0 .i64 .i64 n n (by omega) (by omega) (by rw [hz1]; omega) (by rw [hz2]; omega) (by omega)
    simp only [Int.toNat_natCast, hz1] at this
    rw [made n hn] at this
    exact this
  clear hi hz0 hz1 hz2
  go_enter Try.func35, Try.ntmps35
  go_wp2
  go_ret
  refine ⟨w.heap.size + 1, w.heap.size, rfl, ⟨by omega, by simp; omega, ⟨0, ?_⟩, ?_⟩, by omega, Nat.le_refl _, by repeat (first | (with_reducible first | exact HB.out | apply below_alloc | apply pw_below_drewN | apply below_drew1) | exact HB.out)⟩
  · have := blk_new (w.alloc (.cells (row (List.replicate n ⟨0, 0, false⟩)).toArray 54)) (.cells #[.slice (some ⟨w.heap.size, 0, none⟩) n n, .int .i64 st, .int .i64 pr, .int .i64 fa, .int .i64 0] 70)
    simpa using this
  · rw [Below.heap_alloc _ _ _ (by simp)]
    exact blk_new _ _
end Go.Proofs.Ytjcjibghnpjegaa.Sc

/- score's end of an epoch for one collector: what is known of it turns as endS says; nothing else but the score's own two blocks. -/
namespace Go.Proofs.Ytjcjibghnpjegaa.Sc
open Go.RowKit Go.Proofs.YtjcjibghnpjegaaW.PrintWords Go.Proofs.YtjcjibghnpjegaaW.PrintLast Go.Proofs.YtjcjibghnpjegaaW.PrintMore
set_option linter.unusedVariables false
set_option linter.unusedSimpArgs false
def endS (st pr : Int) (s : Std) (struck sent : Bool) : Std × Bool :=
  if s.o = true then (if pr ≤ wrap64 (s.c + 1) then (⟨0, 0, false⟩, false) else (⟨s.k, wrap64 (s.c + 1), true⟩, false))
  else if struck = true then (if st ≤ wrap64 (s.k + 1) then (⟨0, 0, true⟩, true) else (⟨wrap64 (s.k + 1), s.c, false⟩, false))
  else if sent = true then (⟨max (wrap64 (s.k - 1)) 0, s.c, false⟩, false) else (s, false)
theorem row_set0 : ∀ (ss : List Std) (i : Nat) (s : Std) (x : Int), ss[i]? = some s → (row ss).set (i * 3) (.int .i64 x) = row (ss.set i ⟨x, s.c, s.o⟩)
  | [], i, s, x, h => by simp at h
  | t :: ss, 0, s, x, h => by
    simp only [List.getElem?_cons_zero, Option.some.injEq] at h
    subst h
    simp [row, Std.cells]
  | t :: ss, i + 1, s, x, h => by
    simp only [List.getElem?_cons_succ] at h
    have e : row (t :: ss) = [.int .i64 t.k, .int .i64 t.c, .bool t.o] ++ row ss := rfl
    have := row_set0 ss i s x h
    rw [e, List.set_cons_succ, show row (t :: ss.set i ⟨x, s.c, s.o⟩) = [.int .i64 t.k, .int .i64 t.c, .bool t.o] ++ row (ss.set i ⟨x, s.c, s.o⟩) from rfl, ← this, List.set_append_right _ _ (by simp; omega)]
    congr 2
    simp; omega
theorem row_set1 : ∀ (ss : List Std) (i : Nat) (s : Std) (x : Int), ss[i]? = some s → (row ss).set (i * 3 + 1) (.int .i64 x) = row (ss.set i ⟨s.k, x, s.o⟩)
  | [], i, s, x, h => by simp at h
  | t :: ss, 0, s, x, h => by
    simp only [List.getElem?_cons_zero, Option.some.injEq] at h
    subst h
    simp [row, Std.cells]
  | t :: ss, i + 1, s, x, h => by
    simp only [List.getElem?_cons_succ] at h
    have e : row (t :: ss) = [.int .i64 t.k, .int .i64 t.c, .bool t.o] ++ row ss := rfl
    have := row_set1 ss i s x h
    rw [e, List.set_cons_succ, show row (t :: ss.set i ⟨s.k, x, s.o⟩) = [.int .i64 t.k, .int .i64 t.c, .bool t.o] ++ row (ss.set i ⟨s.k, x, s.o⟩) from rfl, ← this, List.set_append_right _ _ (by simp; omega)]
    congr 2
    simp; omega
theorem row_set2 : ∀ (ss : List Std) (i : Nat) (s : Std) (x : Bool), ss[i]? = some s → (row ss).set (i * 3 + 2) (.bool x) = row (ss.set i ⟨s.k, s.c, x⟩)
  | [], i, s, x, h => by simp at h
  | t :: ss, 0, s, x, h => by
    simp only [List.getElem?_cons_zero, Option.some.injEq] at h
    subst h
    simp [row, Std.cells]
  | t :: ss, i + 1, s, x, h => by
    simp only [List.getElem?_cons_succ] at h
    have e : row (t :: ss) = [.int .i64 t.k, .int .i64 t.c, .bool t.o] ++ row ss := rfl
    have := row_set2 ss i s x h
    rw [e, List.set_cons_succ, show row (t :: ss.set i ⟨s.k, s.c, x⟩) = [.int .i64 t.k, .int .i64 t.c, .bool t.o] ++ row (ss.set i ⟨s.k, s.c, x⟩) from rfl, ← this, List.set_append_right _ _ (by simp; omega)]
    congr 2
    simp; omega
/-- All but what S names is as it was. -/
def Ft (S : Nat → Prop) (w w' : World) : Prop := Below 0 w w' ∧ ∀ k, k < w.heap.size → ¬ S k → w'.heap[k]? = w.heap[k]?
theorem Ft.refl (S : Nat → Prop) (w : World) : Ft S w w := ⟨Below.refl _ _, fun _ _ _ => rfl⟩
theorem Ft.trans {S : Nat → Prop} {a b c : World} (h : Ft S a b) (k : Ft S b c) : Ft S a c :=
  ⟨h.1.trans k.1, fun i hi hs => (k.2 i (Nat.lt_of_lt_of_le hi h.1.size) hs).trans (h.2 i hi hs)⟩
theorem Ft.of_below {S : Nat → Prop} {a b : World} (h : Below a.heap.size a b) : Ft S a b := ⟨h.mono (Nat.zero_le _), fun i hi _ => h.block i hi⟩
theorem Ft.mono {S T : Nat → Prop} {a b : World} (h : Ft S a b) (hS : ∀ k, k < a.heap.size → S k → T k) : Ft T a b := ⟨h.1, fun i hi ht => h.2 i hi (fun q => ht (hS i hi q))⟩
theorem Ft.set {S : Nat → Prop} {a b : World} (h : Ft S a b) {p : Addr} (hp : S p.block) (u : Value) : Ft S a (b.setCell p u) :=
  ⟨h.1.setCell (Nat.zero_le _) u, fun i hi hs => (Below.heap_setCell b p u i (fun e => hs (e ▸ hp))).trans (h.2 i hi hs)⟩
theorem Ft.below {S : Nat → Prop} {B : Nat} {a b : World} (h : Ft S a b) (hB : B ≤ a.heap.size) (hS : ∀ k, S k → B ≤ k) : Below B a b :=
  ⟨h.1.os, h.1.tape, h.1.output, h.1.size, fun k hk => h.2 k (by omega) (fun q => by have := hS k q; omega)⟩
theorem add_next : Extern.findNext Try.f60 = none := by kernel_rfl
set_option maxHeartbeats 2000000 in
set_option maxRecDepth 100000 in
theorem add_calls {w : World} {b r : Nat} {st pr fa : Int} {ss : List Std} (h : Aside0 (Sc w b r st pr fa ss)) :
    Calls Try.prog 58 #[.pointer (some ⟨b, 4, none⟩), .int .i64 1] w fun e w' => (∃ x, e = .returned (.int .i64 x)) ∧ Sc w' b r st pr fa ss ∧ Ft (fun k => k = b) w w' := by
  obtain ⟨hne, hl, ⟨ct, h2⟩, h3⟩ := h.out
  have hc : w.cell? ⟨b, 4, none⟩ = some (.int .i64 ct) := by rw [cell_of h2]; rfl
  have hz : w.frozen? ⟨b, 4, none⟩ = false := by simp [World.frozen?, h2]
  have hadd := run_call_add (P := Try.prog) Try.func60 (by kernel_rfl) (by kernel_rfl) (by kernel_rfl) .i64 (by kernel_rfl) (y := 1) (s := wrap64 (ct + 1)) hc hz (by simp [go_sem, wrap64, IntKind.wrap_i64])
  go_enter Try.func58, Try.ntmps58
  go_wp2
  go_ret
  refine ⟨⟨_, rfl⟩, ⟨hne, hl, ⟨wrap64 (ct + 1), blk_put h2 4 _ rfl⟩, ?_⟩, Ft.set (S := fun k => k = b) (Ft.refl _ w) rfl _⟩
  rw [Below.heap_setCell _ _ _ _ (fun e => hne e.symm)]
  exact h3
section
variable {w : World} {b r : Nat} {st pr fa : Int} {ss : List Std}
theorem Sc.fz (h : Sc w b r st pr fa ss) (j : Nat) : w.frozen? ⟨r, j, none⟩ = false := by
  obtain ⟨_, _, _, h3⟩ := h
  simp [World.frozen?, h3]
theorem Sc.put (h : Sc w b r st pr fa ss) (j : Nat) (v : Value) (ss' : List Std) (hr : (row ss).set j v = row ss') (hl : ss'.length = ss.length) : Sc (w.setCell ⟨r, j, none⟩ v) b r st pr fa ss' := by
  obtain ⟨h0, h1, ⟨ct, h2⟩, h3⟩ := h
  refine ⟨h0, by omega, ⟨ct, ?_⟩, ?_⟩
  · rw [Below.heap_setCell _ _ _ _ h0, h2, hl]
  · refine blk_put h3 j v ?_
    rw [List.setIfInBounds_toArray, hr]
theorem Sc.put0 (h : Sc w b r st pr fa ss) {i : Nat} {s : Std} (hs : ss[i]? = some s) (x : Int) : Sc (w.setCell ⟨r, i * 3, none⟩ (.int .i64 x)) b r st pr fa (ss.set i ⟨x, s.c, s.o⟩) := h.put _ _ _ (row_set0 ss i s x hs) (by simp)
theorem Sc.put1 (h : Sc w b r st pr fa ss) {i : Nat} {s : Std} (hs : ss[i]? = some s) (x : Int) : Sc (w.setCell ⟨r, i * 3 + 1, none⟩ (.int .i64 x)) b r st pr fa (ss.set i ⟨s.k, x, s.o⟩) := h.put _ _ _ (row_set1 ss i s x hs) (by simp)
theorem Sc.put2 (h : Sc w b r st pr fa ss) {i : Nat} {s : Std} (hs : ss[i]? = some s) (x : Bool) : Sc (w.setCell ⟨r, i * 3 + 2, none⟩ (.bool x)) b r st pr fa (ss.set i ⟨s.k, s.c, x⟩) := h.put _ _ _ (row_set2 ss i s x hs) (by simp)
end
theorem Sc.put3 {w : World} {b r : Nat} {st pr fa : Int} {ss : List Std} (h : Sc w b r st pr fa ss) {i : Nat} {s : Std} (hs : ss[i]? = some s) (x y : Int) (z : Bool) : Sc (((w.setCell ⟨r, i * 3, none⟩ (.int .i64 x)).setCell ⟨r, i * 3 + 1, none⟩ (.int .i64 y)).setCell ⟨r, i * 3 + 2, none⟩ (.bool z)) b r st pr fa (ss.set i ⟨x, y, z⟩) := by
  have hi : i < ss.length := by
    rcases Nat.lt_or_ge i ss.length with q | q
    · exact q
    · rw [List.getElem?_eq_none q] at hs; cases hs
  have h0 := h.put0 hs x
  have h1 := h0.put1 (i := i) (s := ⟨x, s.c, s.o⟩) (by simp [hi]) y
  have h2 := h1.put2 (i := i) (s := ⟨x, y, s.o⟩) (by simp [hi]) z
  simpa using h2
theorem Ft.put3 {w W : World} {b r i : Nat} (h : Ft (fun k => k = b ∨ k = r) w W) (x y z : Value) : Ft (fun k => k = b ∨ k = r) w (((W.setCell ⟨r, i, none⟩ x).setCell ⟨r, i + 1, none⟩ y).setCell ⟨r, i + 2, none⟩ z) :=
  Ft.set (S := fun k => k = b ∨ k = r) (Ft.set (S := fun k => k = b ∨ k = r) (Ft.set (S := fun k => k = b ∨ k = r) h (Or.inr rfl) _) (Or.inr rfl) _) (Or.inr rfl) _
theorem set_at {ss : List Std} {i : Nat} {s : Std} (hs : ss[i]? = some s) (t : Std) : (ss.set i t)[i]? = some t := by
  have hi : i < ss.length := by
    rcases Nat.lt_or_ge i ss.length with q | q
    · exact q
    · rw [List.getElem?_eq_none q] at hs; cases hs
  simp [hi]
set_option maxHeartbeats 4000000 in
set_option maxRecDepth 100000 in
theorem end_out {w : World} {b r : Nat} {st pr fa : Int} {ss : List Std} (i : Nat) (s : Std) (hs : ss[i]? = some s) (struck sent : Bool) (h : Aside0 (Sc w b r st pr fa ss)) (ho : s.o = true) :
    Calls Try.prog 51 #[.pointer (some ⟨b, 0, none⟩), .pointer (some ⟨r, i * 3, none⟩), .bool struck, .bool sent] w fun e w' => e = .returned (.bool (endS st pr s struck sent).2) ∧ Sc w' b r st pr fa (ss.set i (endS st pr s struck sent).1) ∧ Ft (fun k => k = b ∨ k = r) w w' := by
  have hne := h.out.1
  obtain ⟨q0, q1, q2⟩ := h.out.at_ hs
  rw [ho] at q2
  have q3 := h.out.c2
  have z0 := h.out.fz (i * 3)
  have z1 := h.out.fz (i * 3 + 1)
  have z2 := h.out.fz (i * 3 + 2)
  by_cases hp : pr ≤ wrap64 (s.c + 1)
  · have e : endS st pr s struck sent = (⟨0, 0, false⟩, false) := by unfold endS; rw [if_pos ho, if_pos hp]
    rw [e]
    have dp : decide (pr ≤ wrap64 (s.c + 1)) = true := decide_eq_true hp
    go_enter Try.func51, Try.ntmps51
    go_upto_region 3 with (fail)
    have S1 : Aside0 (Sc (w.setCell ⟨r, i * 3 + 1, none⟩ (.int .i64 (wrap64 (s.c + 1)))) b r st pr fa (ss.set i ⟨s.k, wrap64 (s.c + 1), s.o⟩)) := ⟨h.out.put1 hs _⟩
    have F1 : Aside0 (Ft (fun k => k = b ∨ k = r) w (w.setCell ⟨r, i * 3 + 1, none⟩ (.int .i64 (wrap64 (s.c + 1))))) := ⟨Ft.set (S := fun k => k = b ∨ k = r) (Ft.refl _ w) (Or.inr rfl) _⟩
    clear q0 q1 q2 q3 z0 z1 z2
    generalize w.setCell ⟨r, i * 3 + 1, none⟩ (.int .i64 (wrap64 (s.c + 1))) = W1 at *
    have hs1 := set_at hs ⟨s.k, wrap64 (s.c + 1), s.o⟩
    obtain ⟨q0, q1, q2⟩ := S1.out.at_ hs1
    have q3 := S1.out.c2
    have z0 := S1.out.fz (i * 3)
    have z1 := S1.out.fz (i * 3 + 1)
    have z2 := S1.out.fz (i * 3 + 2)
    go_quiet (fail)
    go_wp2
    go_ret
    refine ⟨rfl, ?_, Ft.put3 (F1.out.trans (Ft.of_below (pw_below_drewN (Below.refl _ _) nq))) _ _ _⟩
    have := (S1.out.below (pw_below_drewN (Below.refl _ _) nq)).put3 hs1 0 0 false
    simpa using this
  · have e : endS st pr s struck sent = (⟨s.k, wrap64 (s.c + 1), true⟩, false) := by unfold endS; rw [if_pos ho, if_neg hp]
    rw [e]
    have dp : decide (pr ≤ wrap64 (s.c + 1)) = false := decide_eq_false hp
    go_enter Try.func51, Try.ntmps51
    go_upto_region 3 with (fail)
    have S1 : Aside0 (Sc (w.setCell ⟨r, i * 3 + 1, none⟩ (.int .i64 (wrap64 (s.c + 1)))) b r st pr fa (ss.set i ⟨s.k, wrap64 (s.c + 1), s.o⟩)) := ⟨h.out.put1 hs _⟩
    have F1 : Aside0 (Ft (fun k => k = b ∨ k = r) w (w.setCell ⟨r, i * 3 + 1, none⟩ (.int .i64 (wrap64 (s.c + 1))))) := ⟨Ft.set (S := fun k => k = b ∨ k = r) (Ft.refl _ w) (Or.inr rfl) _⟩
    clear q0 q1 q2 q3 z0 z1 z2
    generalize w.setCell ⟨r, i * 3 + 1, none⟩ (.int .i64 (wrap64 (s.c + 1))) = W1 at *
    have hs1 := set_at hs ⟨s.k, wrap64 (s.c + 1), s.o⟩
    obtain ⟨q0, q1, q2⟩ := S1.out.at_ hs1
    have q3 := S1.out.c2
    have z0 := S1.out.fz (i * 3)
    have z1 := S1.out.fz (i * 3 + 1)
    have z2 := S1.out.fz (i * 3 + 2)
    go_quiet (fail)
    go_wp2
    go_ret
    refine ⟨rfl, ?_, F1.out.trans (Ft.of_below (pw_below_drewN (Below.refl _ _) _))⟩
    have := S1.out.below (pw_below_drewN (Below.refl _ _) nq)
    rw [ho] at this
    exact this
set_option maxHeartbeats 4000000 in
set_option maxRecDepth 100000 in
theorem end_struck {w : World} {b r : Nat} {st pr fa : Int} {ss : List Std} (i : Nat) (s : Std) (hs : ss[i]? = some s) (sent : Bool) (h : Aside0 (Sc w b r st pr fa ss)) (ho : s.o = false) :
    Calls Try.prog 51 #[.pointer (some ⟨b, 0, none⟩), .pointer (some ⟨r, i * 3, none⟩), .bool true, .bool sent] w fun e w' => e = .returned (.bool (endS st pr s true sent).2) ∧ Sc w' b r st pr fa (ss.set i (endS st pr s true sent).1) ∧ Ft (fun k => k = b ∨ k = r) w w' := by
  have hne := h.out.1
  have ho' : ¬ s.o = true := by rw [ho]; decide
  obtain ⟨q0, q1, q2⟩ := h.out.at_ hs
  rw [ho] at q2
  have q3 := h.out.c1
  have z0 := h.out.fz (i * 3)
  have z1 := h.out.fz (i * 3 + 1)
  have z2 := h.out.fz (i * 3 + 2)
  by_cases hp : st ≤ wrap64 (s.k + 1)
  · have e : endS st pr s true sent = (⟨0, 0, true⟩, true) := by unfold endS; rw [if_neg ho', if_pos rfl, if_pos hp]
    rw [e]
    have dp : decide (st ≤ wrap64 (s.k + 1)) = true := decide_eq_true hp
    go_enter Try.func51, Try.ntmps51
    go_upto_region 8 with (first | (go_at_call 58; (with_reducible refine (add_calls (w := _) h).mono ?_); rintro e w6 ⟨⟨x6, rfl⟩, h6, ft6⟩; obtain ⟨q0, q1, q2⟩ := h6.at_ hs; have q3 := h6.c1; have z0 := h6.fz (i * 3); have z1 := h6.fz (i * 3 + 1); have z2 := h6.fz (i * 3 + 2); have H6 := Aside0.mk h6; have F6 := Aside0.mk ft6; clear h6 ft6))
    have S1 : Aside0 (Sc (w6.setCell ⟨r, i * 3, none⟩ (.int .i64 (wrap64 (s.k + 1)))) b r st pr fa (ss.set i ⟨wrap64 (s.k + 1), s.c, s.o⟩)) := ⟨H6.out.put0 hs _⟩
    have F1 : Aside0 (Ft (fun k => k = b ∨ k = r) w (w6.setCell ⟨r, i * 3, none⟩ (.int .i64 (wrap64 (s.k + 1))))) := ⟨Ft.set (S := fun k => k = b ∨ k = r) (F6.out.mono (fun _ _ e => Or.inl e)) (Or.inr rfl) _⟩
    clear q0 q1 q2 q3 z0 z1 z2 H6 F6
    generalize w6.setCell ⟨r, i * 3, none⟩ (.int .i64 (wrap64 (s.k + 1))) = W1 at *
    have hs1 := set_at hs ⟨wrap64 (s.k + 1), s.c, s.o⟩
    obtain ⟨q0, q1, q2⟩ := S1.out.at_ hs1
    have q3 := S1.out.c1
    have z0 := S1.out.fz (i * 3)
    have z1 := S1.out.fz (i * 3 + 1)
    have z2 := S1.out.fz (i * 3 + 2)
    go_quiet (fail)
    go_wp2
    go_ret
    refine ⟨rfl, ?_, Ft.put3 (F1.out.trans (Ft.of_below (pw_below_drewN (Below.refl _ _) nq))) _ _ _⟩
    have := (S1.out.below (pw_below_drewN (Below.refl _ _) nq)).put3 hs1 0 0 true
    simpa using this
  · have e : endS st pr s true sent = (⟨wrap64 (s.k + 1), s.c, false⟩, false) := by unfold endS; rw [if_neg ho', if_pos rfl, if_neg hp]
    rw [e]
    have dp : decide (st ≤ wrap64 (s.k + 1)) = false := decide_eq_false hp
    go_enter Try.func51, Try.ntmps51
    go_upto_region 8 with (first | (go_at_call 58; (with_reducible refine (add_calls (w := _) h).mono ?_); rintro e w6 ⟨⟨x6, rfl⟩, h6, ft6⟩; obtain ⟨q0, q1, q2⟩ := h6.at_ hs; have q3 := h6.c1; have z0 := h6.fz (i * 3); have z1 := h6.fz (i * 3 + 1); have z2 := h6.fz (i * 3 + 2); have H6 := Aside0.mk h6; have F6 := Aside0.mk ft6; clear h6 ft6))
    have S1 : Aside0 (Sc (w6.setCell ⟨r, i * 3, none⟩ (.int .i64 (wrap64 (s.k + 1)))) b r st pr fa (ss.set i ⟨wrap64 (s.k + 1), s.c, s.o⟩)) := ⟨H6.out.put0 hs _⟩
    have F1 : Aside0 (Ft (fun k => k = b ∨ k = r) w (w6.setCell ⟨r, i * 3, none⟩ (.int .i64 (wrap64 (s.k + 1))))) := ⟨Ft.set (S := fun k => k = b ∨ k = r) (F6.out.mono (fun _ _ e => Or.inl e)) (Or.inr rfl) _⟩
    clear q0 q1 q2 q3 z0 z1 z2 H6 F6
    generalize w6.setCell ⟨r, i * 3, none⟩ (.int .i64 (wrap64 (s.k + 1))) = W1 at *
    have hs1 := set_at hs ⟨wrap64 (s.k + 1), s.c, s.o⟩
    obtain ⟨q0, q1, q2⟩ := S1.out.at_ hs1
    have q3 := S1.out.c1
    have z0 := S1.out.fz (i * 3)
    have z1 := S1.out.fz (i * 3 + 1)
    have z2 := S1.out.fz (i * 3 + 2)
    go_quiet (fail)
    go_wp2
    go_ret
    refine ⟨rfl, ?_, F1.out.trans (Ft.of_below (pw_below_drewN (Below.refl _ _) _))⟩
    have := S1.out.below (pw_below_drewN (Below.refl _ _) nq)
    rw [ho] at this
    exact this
set_option maxHeartbeats 4000000 in
set_option maxRecDepth 100000 in
theorem end_not {w : World} {b r : Nat} {st pr fa : Int} {ss : List Std} (i : Nat) (s : Std) (hs : ss[i]? = some s) (sent : Bool) (h : Aside0 (Sc w b r st pr fa ss)) (ho : s.o = false) :
    Calls Try.prog 51 #[.pointer (some ⟨b, 0, none⟩), .pointer (some ⟨r, i * 3, none⟩), .bool false, .bool sent] w fun e w' => e = .returned (.bool (endS st pr s false sent).2) ∧ Sc w' b r st pr fa (ss.set i (endS st pr s false sent).1) ∧ Ft (fun k => k = b ∨ k = r) w w' := by
  have hne := h.out.1
  have ho' : ¬ s.o = true := by rw [ho]; decide
  obtain ⟨q0, q1, q2⟩ := h.out.at_ hs
  rw [ho] at q2
  have q3 := h.out.c1
  have z0 := h.out.fz (i * 3)
  have z1 := h.out.fz (i * 3 + 1)
  have z2 := h.out.fz (i * 3 + 2)
  cases sent with
  | true =>
    have e : endS st pr s false true = (⟨max (wrap64 (s.k - 1)) 0, s.c, false⟩, false) := by unfold endS; rw [if_neg ho', if_neg (by decide), if_pos rfl]
    rw [e]
    have HS := h
    clear h
    by_cases hm : 0 ≤ wrap64 (s.k - 1)
    · rw [Int.max_eq_left hm]
      go_enter Try.func51, Try.ntmps51
      go_wp2
      all_goals first | (exfalso; omega) | skip
      go_ret
      refine ⟨rfl, ?_, Ft.set (S := fun k => k = b ∨ k = r) (Ft.refl _ _) (Or.inr rfl) _⟩
      have := HS.out.put0 hs (wrap64 (s.k - 1))
      rw [ho] at this
      exact this
    · rw [Int.max_eq_right (by omega)]
      go_enter Try.func51, Try.ntmps51
      go_wp2
      all_goals first | (exfalso; omega) | skip
      go_ret
      refine ⟨rfl, ?_, Ft.set (S := fun k => k = b ∨ k = r) (Ft.refl _ _) (Or.inr rfl) _⟩
      have := HS.out.put0 hs 0
      rw [ho] at this
      exact this
  | false =>
    have e : endS st pr s false false = (s, false) := by unfold endS; rw [if_neg ho', if_neg (by decide), if_neg (by decide)]
    rw [e]
    go_enter Try.func51, Try.ntmps51
    go_wp2
    go_ret
    refine ⟨rfl, ?_, Ft.refl _ _⟩
    have hi : i < ss.length := by
      rcases Nat.lt_or_ge i ss.length with q | q
      · exact q
      · rw [List.getElem?_eq_none q] at hs; cases hs
    have : ss.set i s = ss := by
      rw [List.getElem?_eq_getElem hi] at hs
      obtain rfl := Option.some.inj hs
      simp
    show Sc _ b r st pr fa (ss.set i s)
    rw [this]
    exact h.out
theorem end_calls {w : World} {b r : Nat} {st pr fa : Int} {ss : List Std} (i : Nat) (s : Std) (hs : ss[i]? = some s) (struck sent : Bool) (h : Aside0 (Sc w b r st pr fa ss)) :
    Calls Try.prog 51 #[.pointer (some ⟨b, 0, none⟩), .pointer (some ⟨r, i * 3, none⟩), .bool struck, .bool sent] w fun e w' => e = .returned (.bool (endS st pr s struck sent).2) ∧ Sc w' b r st pr fa (ss.set i (endS st pr s struck sent).1) ∧ Ft (fun k => k = b ∨ k = r) w w' := by
  cases ho : s.o with
  | true => exact end_out i s hs struck sent h ho
  | false =>
    cases struck with
    | true => exact end_struck i s hs sent h ho
    | false => exact end_not i s hs sent h ho
end Go.Proofs.Ytjcjibghnpjegaa.Sc

/- judge's predicate: is the collector of a sample put out? Condition: the captured variable holds the score. -/
namespace Go.Proofs.Ytjcjibghnpjegaa.Sc
open Go.RowKit Go.Proofs.YtjcjibghnpjegaaW.PrintWords Go.Proofs.YtjcjibghnpjegaaW.PrintLast Go.Proofs.YtjcjibghnpjegaaW.PrintMore
set_option linter.unusedVariables false
set_option linter.unusedSimpArgs false
set_option maxHeartbeats 2000000 in
set_option maxRecDepth 100000 in
theorem clo_calls {w : World} {b r p : Nat} {st pr fa : Int} {ss : List Std} (a0 a1 a2 a3 : Int) (h : Aside0 (Sc w b r st pr fa ss)) (hp : w.cell? ⟨p, 0, none⟩ = some (.pointer (some ⟨b, 0, none⟩))) :
    Calls Try.prog 57 #[.agg #[.int .i64 a0, .int .i64 a1, .int .i64 a2, .int .i64 a3], .pointer (some ⟨p, 0, none⟩)] w fun e w' => e = .returned (.bool (outOf ss a0)) ∧ Below w.heap.size w w' := by
  have HB := Aside0.mk (Below.refl w.heap.size w)
  have hlt := World.block_lt_of_cell? w _ hp
  go_enter Try.func57, Try.ntmps57
  go_wp2_with (first | ((with_reducible refine gate_dst (N := 2) rfl ?_); refine box_event ?hg (N := 2) ?hd (cs := #[.int .i64 a0, .int .i64 a1, .int .i64 a2, .int .i64 a3]) (t := 49) ?hr ?_; (case hd => rfl); (case hg => rfl); (case hr => first | (go_simp; done) | (go_simp; rfl)); intro gb hg w5 hbox hb; have n0_ := Aside0.mk (below_step HB.out hb); have BK := Aside0.mk hbox; clear HB; have HB := n0_; clear n0_; replace hp := (hb.cell hlt).trans hp; have hx := (blk_cell BK.out 0).trans rfl; clear hb hbox hg) | (go_at_call 40; (with_reducible refine (out_calls (w := _) a0 ⟨h.out.below HB.out⟩).mono ?_); rintro e w6 ⟨rfl, hb⟩; have n0_ := Aside0.mk (below_step HB.out hb); clear HB; have HB := n0_; clear n0_; clear hb))

  go_ret
  exact ⟨rfl, HB.out⟩
end Go.Proofs.Ytjcjibghnpjegaa.Sc

/- slices.IndexFunc at judge's predicate: the first sample whose collector is put out, or -1. -/
namespace Go.Proofs.Ytjcjibghnpjegaa.Sc
open Go.RowKit Go.Proofs.Ytjcjibghnpjegaa.Pr Go.Proofs.YtjcjibghnpjegaaW.PrintWords Go.Proofs.YtjcjibghnpjegaaW.PrintLast Go.Proofs.YtjcjibghnpjegaaW.PrintMore
set_option linter.unusedVariables false
set_option linter.unusedSimpArgs false
def SR (w : World) (g : Nat) (xs : List S49) : Prop :=
  ∀ (i : Nat) (s : S49), xs[i]? = some s → w.cell? ⟨g, i * 4, none⟩ = some (.int .i64 s.f0) ∧ w.cell? ⟨g, i * 4 + 1, none⟩ = some (.int .i64 s.f1) ∧ w.cell? ⟨g, i * 4 + 2, none⟩ = some (.int .i64 s.f2) ∧ w.cell? ⟨g, i * 4 + 3, none⟩ = some (.int .i64 s.f3)
theorem SR.below {w w' : World} {g : Nat} {xs : List S49} (h : SR w g xs) (hb : Below w.heap.size w w') : SR w' g xs := by
  intro i s hs
  obtain ⟨h0, h1, h2, h3⟩ := h i s hs
  have lt : g < w.heap.size := World.block_lt_of_cell? w _ h0
  exact ⟨(hb.cell (p := ⟨g, i * 4, none⟩) lt).trans h0, (hb.cell (p := ⟨g, i * 4 + 1, none⟩) lt).trans h1, (hb.cell (p := ⟨g, i * 4 + 2, none⟩) lt).trans h2, (hb.cell (p := ⟨g, i * 4 + 3, none⟩) lt).trans h3⟩
def first (ss : List Std) : List S49 → Nat → Int
  | [], _ => -1
  | s :: l, i => if outOf ss s.f0 = true then (i : Int) else first ss l (i + 1)
set_option maxHeartbeats 4000000 in
set_option maxRecDepth 100000 in
theorem idx_calls {w : World} {b r p g c : Nat} {st pr fa : Int} {ss : List Std} (xs : List S49) (hl : xs.length ≤ 1000) (h : Aside0 (Sc w b r st pr fa ss)) (hp : Aside0 (w.cell? ⟨p, 0, none⟩ = some (.pointer (some ⟨b, 0, none⟩)))) (hx : Aside0 (SR w g xs)) :
    Calls Try.prog 59 #[.slice (some ⟨g, 0, none⟩) xs.length c, .func (.func 57) #[] #[.pointer (some ⟨p, 0, none⟩)]] w fun e w' => e = .returned (.int .i64 (first ss xs 0)) ∧ Below w.heap.size w w' := by
  have HB := Aside0.mk (Below.refl w.heap.size w)
  go_enter Try.func59, Try.ntmps59
  go_wp2
  go_loopg [8] xs.length (fun kq v8 wr => ∃ (i : Nat), v8 = .int .i64 (i : Int) ∧ Aside0 (kq + i = xs.length) ∧ Aside0 (first ss (xs.drop i) i = first ss xs 0) ∧ Aside0 (Below w.heap.size w wr))
  case atStart => exact ⟨0, rfl, ⟨by omega⟩, ⟨by rw [List.drop_zero]⟩, HB⟩
  case round =>
    rename_i wr _ _ _ _
    obtain ⟨i, rfl, HK, HF, HBw⟩ := hrel
    by_cases hlt : (i : Int) < (xs.length : Int)
    · have hi : i < xs.length := by omega
      have dlt : decide ((i : Int) < (xs.length : Int)) = true := decide_eq_true hlt
      obtain ⟨s, hs⟩ : ∃ s, xs[i]? = some s := ⟨xs[i], List.getElem?_eq_getElem hi⟩
      have hd : xs.drop i = s :: xs.drop (i + 1) := by
        rw [List.drop_eq_getElem_cons hi]
        congr 1
        rw [List.getElem?_eq_getElem hi] at hs
        exact Option.some.inj hs
      have hF := HF.out
      clear HF
      rw [hd] at hF
      simp only [first] at hF
      obtain ⟨q0, q1, q2, q3⟩ := (hx.out.below HBw.out) i s hs
      have HBr := Aside0.mk (Below.refl wr.heap.size wr)
      cases ho : outOf ss s.f0 with
      | true =>
        rw [if_pos ho] at hF
        have HFa := Aside0.mk hF
        clear HB hF
        go_wp2_with (first | (go_at_call 57; (with_reducible refine (clo_calls (w := _) (b := b) (r := r) (p := p) (st := st) (pr := pr) (fa := fa) (ss := ss) s.f0 s.f1 s.f2 s.f3 ⟨h.out.below HBw.out⟩ ((HBw.out.cell (World.block_lt_of_cell? w _ hp.out)).trans hp.out)).mono ?_); rintro e w6 ⟨rfl, hb⟩; have HB6 := Aside0.mk (below_step HBw.out hb); clear hb; rw [ho]))
        go_ret
        exact ⟨by rw [← HFa.out]; rfl, HB6.out⟩
      | false =>
        rw [if_neg (by rw [ho]; decide)] at hF
        have HFa := Aside0.mk hF
        clear HB hF
        go_wp2_with (first | (go_at_call 57; (with_reducible refine (clo_calls (w := _) (b := b) (r := r) (p := p) (st := st) (pr := pr) (fa := fa) (ss := ss) s.f0 s.f1 s.f2 s.f3 ⟨h.out.below HBw.out⟩ ((HBw.out.cell (World.block_lt_of_cell? w _ hp.out)).trans hp.out)).mono ?_); rintro e w6 ⟨rfl, hb⟩; have HB6 := Aside0.mk (below_step HBw.out hb); clear hb; rw [ho]))
        go_roundg (gk - 1)
        case measure => have := HK.out; omega
        case rel => exact ⟨i + 1, (by first | rfl | (simp; done) | (congr 1; unfold wrap64; omega)), ⟨by have := HK.out; omega⟩, HFa, HB6⟩
    · have dlt : decide ((i : Int) < (xs.length : Int)) = false := decide_eq_false hlt
      have hF := HF.out
      rw [List.drop_eq_nil_of_le (by omega)] at hF
      have HFa := Aside0.mk hF
      clear hF HF
      go_wp2
      go_ret
      exact ⟨by rw [← HFa.out]; rfl, HBw.out⟩
end Go.Proofs.Ytjcjibghnpjegaa.Sc

/- slices.DeleteFunc at judge's predicate where none is put out: the row as it is. -/
namespace Go.Proofs.Ytjcjibghnpjegaa.Sc
open Go.RowKit Go.Proofs.Ytjcjibghnpjegaa.Pr Go.Proofs.YtjcjibghnpjegaaW.PrintWords Go.Proofs.YtjcjibghnpjegaaW.PrintLast Go.Proofs.YtjcjibghnpjegaaW.PrintMore
set_option linter.unusedVariables false
set_option linter.unusedSimpArgs false
theorem first_none : ∀ (ss : List Std) (xs : List S49) (i : Nat), (∀ s ∈ xs, outOf ss s.f0 = false) → first ss xs i = -1
  | _, [], _, _ => rfl
  | ss, s :: l, i, h => by
    rw [first, if_neg (by rw [h s List.mem_cons_self]; decide)]
    exact first_none ss l (i + 1) (fun t ht => h t (List.mem_cons_of_mem _ ht))
set_option maxHeartbeats 4000000 in
set_option maxRecDepth 100000 in
theorem del_none {w : World} {b r p g c : Nat} {st pr fa : Int} {ss : List Std} (xs : List S49) (hl : xs.length ≤ 1000) (h : Aside0 (Sc w b r st pr fa ss)) (hp : Aside0 (w.cell? ⟨p, 0, none⟩ = some (.pointer (some ⟨b, 0, none⟩)))) (hx : Aside0 (SR w g xs)) (hn : ∀ s ∈ xs, outOf ss s.f0 = false) :
    Calls Try.prog 55 #[.slice (some ⟨g, 0, none⟩) xs.length c, .func (.func 57) #[] #[.pointer (some ⟨p, 0, none⟩)]] w fun e w' => e = .returned (.slice (some ⟨g, 0, none⟩) xs.length c) ∧ Below w.heap.size w w' := by
  have HB := Aside0.mk (Below.refl w.heap.size w)
  have hf := first_none ss xs 0 hn
  go_enter Try.func55, Try.ntmps55
  go_wp2_with (first | (go_at_call 59; (with_reducible refine (idx_calls (w := _) (b := b) (r := r) (p := p) (g := g) (st := st) (pr := pr) (fa := fa) (ss := ss) xs hl h hp hx).mono ?_); rintro e w6 ⟨rfl, hb⟩; have HB6 := Aside0.mk hb; clear hb; rw [hf]))
  go_ret
  exact ⟨rfl, HB6.out⟩
end Go.Proofs.Ytjcjibghnpjegaa.Sc

/- slices.DeleteFunc over samples with the score's closure: the samples of those that are believed stay, in their order, in the same row; nothing else turns. Condition: the row is one of its own block, at most 1000 samples. -/
namespace Go.Proofs.Ytjcjibghnpjegaa.Sc
open Go.RowKit Go.Proofs.Ytjcjibghnpjegaa.Pr Go.Proofs.YtjcjibghnpjegaaW.PrintWords Go.Proofs.YtjcjibghnpjegaaW.PrintLast Go.Proofs.YtjcjibghnpjegaaW.PrintMore
set_option linter.unusedVariables false
set_option linter.unusedSimpArgs false
def keep (ss : List Std) (s : S49) : Bool := !outOf ss s.f0
theorem first_is : ∀ (ss : List Std) (xs : List S49) (o : Nat), (first ss xs o = -1 ∧ xs.filter (keep ss) = xs ∧ ∀ s ∈ xs, outOf ss s.f0 = false) ∨ ∃ i, i < xs.length ∧ first ss xs o = ((o + i : Nat) : Int) ∧ xs.take i = (xs.take (i + 1)).filter (keep ss)
  | _, [], _ => .inl ⟨rfl, rfl, by simp⟩
  | ss, s :: l, o => by
    cases h : outOf ss s.f0 with
    | true =>
      refine .inr ⟨0, by simp, ?_, ?_⟩
      · rw [first, if_pos h]; rfl
      · simp [keep, h]
    | false =>
      rw [first, if_neg (by rw [h]; decide)]
      rcases first_is ss l (o + 1) with ⟨h1, h2, h3⟩ | ⟨i, hi, h1, h2⟩
      · refine .inl ⟨h1, ?_, ?_⟩
        · rw [List.filter_cons, if_pos (by simp [keep, h]), h2]
        · intro t ht
          rcases List.mem_cons.1 ht with rfl | ht
          · exact h
          · exact h3 t ht
      · refine .inr ⟨i + 1, by simp; omega, ?_, ?_⟩
        · rw [h1]; congr 1; omega
        · rw [List.take_succ_cons, List.take_succ_cons, List.filter_cons, if_pos (by simp [keep, h]), h2]
def SW (w : World) (g : Nat) (xs : List S49) : Prop := SR w g xs ∧ ∀ j, w.frozen? ⟨g, j, none⟩ = false
theorem SW.below {w w' : World} {g : Nat} {xs : List S49} (h : SW w g xs) (hg : g < w.heap.size) (hb : Below w.heap.size w w') : SW w' g xs :=
  ⟨h.1.below hb, fun j => (World.frozen?_of_block (a := ⟨g, j, none⟩) (hb.block g hg)).trans (h.2 j)⟩
theorem SR.put {w : World} {g : Nat} {xs : List S49} (h : SR w g xs) {i : Nat} (hi : i < xs.length) (t : S49) :
    SR ((((w.setCell ⟨g, i * 4, none⟩ (.int .i64 t.f0)).setCell ⟨g, i * 4 + 1, none⟩ (.int .i64 t.f1)).setCell ⟨g, i * 4 + 2, none⟩ (.int .i64 t.f2)).setCell ⟨g, i * 4 + 3, none⟩ (.int .i64 t.f3)) g (xs.set i t) := by
  intro k s hs
  by_cases e : k = i
  · subst e
    have hs' : t = s := by simpa [hi] using hs
    subst hs'
    obtain ⟨h0, h1, h2, h3⟩ := h k _ (List.getElem?_eq_getElem hi)
    refine ⟨?_, ?_, ?_, ?_⟩ <;> simp [World.cell?_setCell_other, World.cell?_setCell_same', h0, h1, h2, h3]
  · have hs' : xs[k]? = some s := by rw [List.getElem?_set_ne (Ne.symm e)] at hs; exact hs
    obtain ⟨h0, h1, h2, h3⟩ := h k s hs'
    have n1 : ∀ p q : Nat, p ≠ q → ∀ (W : World) (v : Value), (W.setCell ⟨g, p, none⟩ v).cell? ⟨g, q, none⟩ = W.cell? ⟨g, q, none⟩ := fun p q hpq W v => by
      rw [World.cell?_setCell_other]
      intro z; injection z; omega
    refine ⟨?_, ?_, ?_, ?_⟩
    · rw [n1 _ _ (by omega), n1 _ _ (by omega), n1 _ _ (by omega), n1 _ _ (by omega), h0]
    · rw [n1 _ _ (by omega), n1 _ _ (by omega), n1 _ _ (by omega), n1 _ _ (by omega), h1]
    · rw [n1 _ _ (by omega), n1 _ _ (by omega), n1 _ _ (by omega), n1 _ _ (by omega), h2]
    · rw [n1 _ _ (by omega), n1 _ _ (by omega), n1 _ _ (by omega), n1 _ _ (by omega), h3]
theorem SW.put {w : World} {g : Nat} {xs : List S49} (h : SW w g xs) {i : Nat} (hi : i < xs.length) (t : S49) :
    SW ((((w.setCell ⟨g, i * 4, none⟩ (.int .i64 t.f0)).setCell ⟨g, i * 4 + 1, none⟩ (.int .i64 t.f1)).setCell ⟨g, i * 4 + 2, none⟩ (.int .i64 t.f2)).setCell ⟨g, i * 4 + 3, none⟩ (.int .i64 t.f3)) g (xs.set i t) :=
  ⟨h.1.put hi t, fun j => by simp [h.2]⟩
theorem info49' : ∃ i, Try.prog.info? 49 = some i ∧ i.zero = some (.agg #[.int .i64 0, .int .i64 0, .int .i64 0, .int .i64 0]) ∧ i.size = 4 ∧ i.bytes = 32 := info_parts info49
theorem zero49 (w : World) : (zeroValue 49).run Try.prog w = .ok (.agg #[.int .i64 0, .int .i64 0, .int .i64 0, .int .i64 0]) w := by kernel_rfl
/-- 'clear(s)' over samples. -/
theorem run_clear49 (w : World) (ty : TypeId) (g o n c : Nat) (hn : 0 < n) (hc : ∀ j, j < n * 4 → (w.cell? ⟨g, o + j, none⟩).isSome = true) (hf : ∀ j, j < n * 4 → w.frozen? ⟨g, o + j, none⟩ = false) :
    (Builtin.clear_ #[47] ty #[.slice (some ⟨g, o, none⟩) n c]).run Try.prog w = .ok (.tuple #[]) (w.setCells g o (List.replicate (n * 4) (.int .i64 0))) := by
  have hzc : (Builtin.zeroCells (Value.agg #[.int .i64 0, .int .i64 0, .int .i64 0, .int .i64 0]).cells n).toList = List.replicate (n * 4) (.int .i64 0) := by
    apply List.ext_getElem
    · simp [Builtin.zeroCells, Value.cells]
    · intro i h1 h2
      have : i % 4 = 0 ∨ i % 4 = 1 ∨ i % 4 = 2 ∨ i % 4 = 3 := by omega
      rcases this with e | e | e | e <;> simp [Builtin.zeroCells, Value.cells, e]
  have hst := run_storeCells_cells (P := Try.prog) g o (List.replicate (n * 4) (.int .i64 0)) 0 w (by simpa using hc) (by simpa using hf) (by intro v hv'; rw [List.eq_of_mem_replicate hv']; rfl)
  simp only [Nat.add_zero] at hst
  obtain ⟨m, rfl⟩ : ∃ m, n = m + 1 := ⟨n - 1, by omega⟩
  simp [Builtin.clear_, run_underlying Try.underlying47, zero49, hzc, hst]
theorem SR.cleared {w : World} {g : Nat} {xs : List S49} (h : SR w g xs) (i n : Nat) (hi : i ≤ xs.length) (vs : List Value) : SR (w.setCells g (i * 4) vs) g (xs.take i) := by
  intro k s hs
  have hk : k < i := by
    rcases Nat.lt_or_ge k i with q | q
    · exact q
    · rw [List.getElem?_eq_none (by rw [List.length_take]; omega)] at hs; cases hs
  rw [List.getElem?_take_of_lt hk] at hs
  obtain ⟨h0, h1, h2, h3⟩ := h k s hs
  refine ⟨?_, ?_, ?_, ?_⟩ <;> rw [World.cell?_setCells_out g vs (i * 4) w _ (fun _ _ => .inl (by dsimp only; omega))] <;> assumption
theorem SR.there {w : World} {g : Nat} {xs : List S49} (h : SR w g xs) (j : Nat) (hj : j < xs.length * 4) : (w.cell? ⟨g, j, none⟩).isSome = true := by
  have hk : j / 4 < xs.length := by omega
  obtain ⟨h0, h1, h2, h3⟩ := h (j / 4) _ (List.getElem?_eq_getElem hk)
  have : j = j / 4 * 4 ∨ j = j / 4 * 4 + 1 ∨ j = j / 4 * 4 + 2 ∨ j = j / 4 * 4 + 3 := by omega
  rcases this with e | e | e | e <;> rw [e]
  · rw [h0]; rfl
  · rw [h1]; rfl
  · rw [h2]; rfl
  · rw [h3]; rfl
theorem Ft.setCells {g : Nat} {a : World} : ∀ (vs : List Value) (o : Nat) (b : World), Ft (fun k => k = g) a b → Ft (fun k => k = g) a (b.setCells g o vs)
  | [], o, b, h => h
  | v :: vs, o, b, h => Ft.setCells vs (o + 1) _ (Ft.set (S := fun k => k = g) h rfl v)
theorem cut_l49 (W : World) (g n c i : Nat) (hi : i < n) (hc : n ≤ c) : (Instr.slice 47 (.slice (some ⟨g, 0, none⟩) n c) (some (.int .i64 i)) none none).run Try.prog W = .ok (.slice (some ⟨g, i * 4, none⟩) (n - i) (c - i)) W := by
  obtain ⟨i0, h1, hz0, hz1, hz2⟩ := info_parts info49
  have hel : Try.prog.elem 47 = 49 := by simp [Program.elem, Try.underlying47]
  have hu : Try.prog.underlying 47 = some (.slice (Try.prog.elem 47)) := by rw [hel]; exact Try.underlying47
  rw [run_slice_l W 47 (some ⟨g, 0, none⟩) n c hu .i64 (i : Int) (by omega) (by omega), hel]
  have hne : ¬ c = i := by omega
  simp [sizeOf, typeInfo, h1, hz1, sliced, Result.andThen, hne, Addr.add]
  omega
theorem cut_h49 (W : World) (g n c i : Nat) (hi : i ≤ n) (hc : n ≤ c) : (Instr.slice 47 (.slice (some ⟨g, 0, none⟩) n c) none (some (.int .i64 i)) none).run Try.prog W = .ok (.slice (some ⟨g, 0, none⟩) i c) W := by
  obtain ⟨i0, h1, hz0, hz1, hz2⟩ := info_parts info49
  have hel : Try.prog.elem 47 = 49 := by simp [Program.elem, Try.underlying47]
  have hu : Try.prog.underlying 47 = some (.slice (Try.prog.elem 47)) := by rw [hel]; exact Try.underlying47
  rw [run_slice_h W 47 (some ⟨g, 0, none⟩) n c hu .i64 (i : Int) (by omega) (by omega), hel]
  simp [sizeOf, typeInfo, h1, hz1, sliced, Result.andThen, Addr.add]
/-- A variable of a loop's round: a new block, then the four cells written. -/
theorem box49_put {w w5 : World} {gb : Nat} (BK : w5.heap[gb]? = some (.cells #[.int .i64 0, .int .i64 0, .int .i64 0, .int .i64 0] 49 (0, 0))) (hb : Below w.heap.size w w5) (hg : gb = w.heap.size) (v0 v1 v2 v3 : Value) :
    Below w.heap.size w ((((w5.setCell ⟨gb, 0, none⟩ v0).setCell ⟨gb, 1, none⟩ v1).setCell ⟨gb, 2, none⟩ v2).setCell ⟨gb, 3, none⟩ v3) ∧
      ((((w5.setCell ⟨gb, 0, none⟩ v0).setCell ⟨gb, 1, none⟩ v1).setCell ⟨gb, 2, none⟩ v2).setCell ⟨gb, 3, none⟩ v3).heap[gb]? = some (.cells #[v0, v1, v2, v3] 49 (0, 0)) := by
  have GE : w.heap.size ≤ gb := by omega
  exact ⟨below_set (below_set (below_set (below_set hb GE) GE) GE) GE, blk_put (blk_put (blk_put (blk_put BK 0 v0 rfl) 1 v1 rfl) 2 v2 rfl) 3 v3 rfl⟩
theorem filter_step {ss : List Std} {xs ys : List S49} {i j : Nat} {s : S49} (hl : ys.length = xs.length) (hij : i < j) (hj : j < xs.length) (hs : ys[j]? = some s) (h1 : ys.take i = (xs.take j).filter (keep ss)) (h2 : ys.drop j = xs.drop j) :
    (keep ss s = false → ys.take i = (xs.take (j + 1)).filter (keep ss) ∧ ys.drop (j + 1) = xs.drop (j + 1)) ∧
    (keep ss s = true → (ys.set i s).take (i + 1) = (xs.take (j + 1)).filter (keep ss) ∧ (ys.set i s).drop (j + 1) = xs.drop (j + 1)) := by
  have e1 : xs[j]? = some s := by
    have : (ys.drop j)[0]? = (xs.drop j)[0]? := by rw [h2]
    simpa [hs] using this.symm
  have e2 : xs.take (j + 1) = xs.take j ++ [s] := by
    rw [List.take_add_one, e1]; rfl
  have e3 : ys.drop (j + 1) = xs.drop (j + 1) := by
    have := congrArg List.tail h2
    simpa using this
  rw [e2, List.filter_append, ← h1]
  refine ⟨fun hk => ?_, fun hk => ?_⟩
  · simp [hk, e3]
  · constructor
    · rw [List.take_add_one, List.take_set_of_le (Nat.le_refl _), List.getElem?_set_self (by omega)]
      simp [hk]
    · rw [List.drop_set_of_lt (by omega), e3]
set_option maxHeartbeats 4000000 in
set_option maxRecDepth 100000 in
theorem del_some {w : World} {b r p g c i0 : Nat} {st pr fa : Int} {ss : List Std} (xs : List S49) (hl : xs.length ≤ 1000) (hc : xs.length ≤ c) (h : Aside0 (Sc w b r st pr fa ss)) (hp : Aside0 (w.cell? ⟨p, 0, none⟩ = some (.pointer (some ⟨b, 0, none⟩)))) (hx : Aside0 (SW w g xs))
    (hgb : Aside0 (g ≠ b ∧ g ≠ r ∧ g ≠ p)) (hg : g < w.heap.size) (hi0 : i0 < xs.length) (hf : first ss xs 0 = (i0 : Int)) (h1 : Aside0 (xs.take i0 = (xs.take (i0 + 1)).filter (keep ss))) :
    Calls Try.prog 55 #[.slice (some ⟨g, 0, none⟩) xs.length c, .func (.func 57) #[] #[.pointer (some ⟨p, 0, none⟩)]] w fun e w' => e = .returned (.slice (some ⟨g, 0, none⟩) (xs.filter (keep ss)).length c) ∧ SR w' g (xs.filter (keep ss)) ∧ Ft (fun k => k = g) w w' := by
  have HB := Aside0.mk (Below.refl w.heap.size w)
  have hxr : Aside0 (SR w g xs) := ⟨hx.out.1⟩
  have hne : decide ((i0 : Int) = -1) = false := decide_eq_false (by omega)
  go_enter Try.func55, Try.ntmps55
  go_upto_region 4 with (first | (go_at_call 59; go_loud ((with_reducible refine (idx_calls (w := _) (b := b) (r := r) (p := p) (g := g) (st := st) (pr := pr) (fa := fa) (ss := ss) xs hl h hp hxr).mono ?_); rintro e w6 ⟨rfl, hb⟩; have HB6 := Aside0.mk hb; clear hb; rw [hf])))
  go_wp2
  go_loopg [5, 6] (xs.length - (i0 + 1)) (fun kq v5 v6 wr => ∃ (i j : Nat) (ys : List S49), v5 = .int .i64 (i : Int) ∧ v6 = .int .i64 (j : Int) ∧ Aside0 (kq + j = xs.length ∧ i < j ∧ j ≤ xs.length ∧ ys.length = xs.length) ∧ Aside0 (ys.take i = (xs.take j).filter (keep ss) ∧ ys.drop j = xs.drop j) ∧ Aside0 (SW wr g ys) ∧ Aside0 (Ft (fun k => k = g) w wr))
  case atStart => exact ⟨i0, i0 + 1, xs, rfl, (by first | rfl | (simp; done) | (congr 1; unfold wrap64; omega)), ⟨by omega⟩, ⟨h1.out, rfl⟩, ⟨hx.out.below hg HB6.out⟩, ⟨Ft.of_below HB6.out⟩⟩
  case round =>
    rename_i wr _ _ _ _
    obtain ⟨i, j, ys, rfl, rfl, HK, HF, HW, HT⟩ := hrel
    have HS : Aside0 (Sc wr b r st pr fa ss) := ⟨h.out.kept (HT.out.2 b h.out.lt.1 (Ne.symm hgb.out.1)) (HT.out.2 r h.out.lt.2 (Ne.symm hgb.out.2.1))⟩
    have HP : Aside0 (wr.cell? ⟨p, 0, none⟩ = some (.pointer (some ⟨b, 0, none⟩))) := ⟨(World.cell?_of_block (a := ⟨p, 0, none⟩) (HT.out.2 p (World.block_lt_of_cell? w _ hp.out) (Ne.symm hgb.out.2.2))).trans hp.out⟩
    by_cases hlt : (j : Int) < (xs.length : Int)
    · have dlt : decide ((j : Int) < (xs.length : Int)) = true := decide_eq_true hlt
      have hj : j < ys.length := by have := HK.out; omega
      obtain ⟨s, hs⟩ : ∃ s, ys[j]? = some s := ⟨ys[j], List.getElem?_eq_getElem hj⟩
      obtain ⟨q0, q1, q2, q3⟩ := HW.out.1 j s hs
      go_upto_region 8 with (first | ((with_reducible refine gate_dst (N := 7) rfl ?_); refine box_event ?hg (N := 7) ?hd (cs := #[.int .i64 0, .int .i64 0, .int .i64 0, .int .i64 0]) (t := 49) ?hr ?_; (case hd => rfl); (case hg => rfl); (case hr => first | (go_simp; done) | (go_simp; rfl)); intro gb hg w5 hbox hb; have BK := Aside0.mk hbox; have HB5 := Aside0.mk hb; have hcz_0 : w5.cell? ⟨gb, 0, none⟩ = some (.int .i64 0) := (blk_cell hbox 0).trans rfl; have hfz_0 := blk_frozen hbox 0; have hcz_1 : w5.cell? ⟨gb, 1, none⟩ = some (.int .i64 0) := (blk_cell hbox 1).trans rfl; have hfz_1 := blk_frozen hbox 1; have hcz_2 : w5.cell? ⟨gb, 2, none⟩ = some (.int .i64 0) := (blk_cell hbox 2).trans rfl; have hfz_2 := blk_frozen hbox 2; have hcz_3 : w5.cell? ⟨gb, 3, none⟩ = some (.int .i64 0) := (blk_cell hbox 3).trans rfl; have hfz_3 := blk_frozen hbox 3; have HG := Aside0.mk hg; clear hb hbox hg))
      have hb1 := box49_put BK.out HB5.out HG.out (.int .i64 s.f0) (.int .i64 s.f1) (.int .i64 s.f2) (.int .i64 s.f3)
      clear q0 q1 q2 q3 hcz_0 hfz_0 hcz_1 hfz_1 hcz_2 hfz_2 hcz_3 hfz_3
      generalize ((((w5.setCell ⟨gb, 0, none⟩ (.int .i64 s.f0)).setCell ⟨gb, 1, none⟩ (.int .i64 s.f1)).setCell ⟨gb, 2, none⟩ (.int .i64 s.f2)).setCell ⟨gb, 3, none⟩ (.int .i64 s.f3)) = W1 at *
      have HB1 := Aside0.mk hb1.1
      have BK1 := Aside0.mk hb1.2
      clear hb1 BK HB5
      have x0 : W1.cell? ⟨gb, 0, none⟩ = some (.int .i64 s.f0) := (blk_cell BK1.out 0).trans rfl
      have x1 : W1.cell? ⟨gb, 1, none⟩ = some (.int .i64 s.f1) := (blk_cell BK1.out 1).trans rfl
      have x2 : W1.cell? ⟨gb, 2, none⟩ = some (.int .i64 s.f2) := (blk_cell BK1.out 2).trans rfl
      have x3 : W1.cell? ⟨gb, 3, none⟩ = some (.int .i64 s.f3) := (blk_cell BK1.out 3).trans rfl
      have HS1 : Aside0 (Sc W1 b r st pr fa ss) := ⟨HS.out.below HB1.out⟩
      have HP1 := (HB1.out.cell (World.block_lt_of_cell? wr _ HP.out)).trans HP.out
      have hgr : g < wr.heap.size := Nat.lt_of_lt_of_le hg HT.out.1.size
      have HW1 : Aside0 (SW W1 g ys) := ⟨HW.out.below hgr HB1.out⟩
      have HT1 : Aside0 (Ft (fun k => k = g) w W1) := ⟨HT.out.trans (Ft.of_below HB1.out)⟩
      have hij : i < j := HK.out.2.1
      have hjl : j < xs.length := by omega
      have fs := Aside0.mk (filter_step HK.out.2.2.2 hij hjl hs HF.out.1 HF.out.2)
      have hg1 : g < W1.heap.size := Nat.lt_of_lt_of_le hgr HB1.out.size
      have HPA := Aside0.mk HP1
      clear HP1
      cases ho : outOf ss s.f0 with
      | true =>
        have hk : keep ss s = false := by simp [keep, ho]
        have HF2 := Aside0.mk (fs.out.1 hk)
        clear fs hk
        go_wp2_with (first | (go_at_call 57; (with_reducible refine (clo_calls (w := _) (b := b) (r := r) (p := p) (st := st) (pr := pr) (fa := fa) (ss := ss) s.f0 s.f1 s.f2 s.f3 HS1 HPA.out).mono ?_); rintro e w7 ⟨rfl, hb⟩; have HB7 := Aside0.mk hb; clear hb; rw [ho]))
        go_roundg (gk - 1)
        case measure => have := HK.out; omega
        case rel => exact ⟨i, j + 1, ys, rfl, (by first | rfl | (simp; done) | (congr 1; unfold wrap64; omega)), ⟨by have := HK.out; omega⟩, HF2, ⟨HW1.out.below hg1 HB7.out⟩, ⟨HT1.out.trans (Ft.of_below HB7.out)⟩⟩
      | false =>
        have hk : keep ss s = true := by simp [keep, ho]
        have HF2 := Aside0.mk (fs.out.2 hk)
        clear fs hk
        have hil : i < ys.length := by omega
        have hil2 : (i : Int) < (xs.length : Int) := by have := HK.out; omega
        obtain ⟨t, ht⟩ : ∃ t, ys[i]? = some t := ⟨ys[i], List.getElem?_eq_getElem hil⟩
        go_wp2_with (first | (go_at_call 57; (with_reducible refine (clo_calls (w := _) (b := b) (r := r) (p := p) (st := st) (pr := pr) (fa := fa) (ss := ss) s.f0 s.f1 s.f2 s.f3 HS1 HPA.out).mono ?_); rintro e w7 ⟨rfl, hb⟩; have HB7 := Aside0.mk hb; clear hb; rw [ho]; have BK7 := Aside0.mk (blk_below BK1.out HB7.out); have HW7 := Aside0.mk (HW1.out.below hg1 HB7.out); clear x0 x1 x2 x3; have x0 : w7.cell? ⟨gb, 0, none⟩ = some (.int .i64 s.f0) := (blk_cell BK7.out 0).trans rfl; have x1 : w7.cell? ⟨gb, 1, none⟩ = some (.int .i64 s.f1) := (blk_cell BK7.out 1).trans rfl; have x2 : w7.cell? ⟨gb, 2, none⟩ = some (.int .i64 s.f2) := (blk_cell BK7.out 2).trans rfl; have x3 : w7.cell? ⟨gb, 3, none⟩ = some (.int .i64 s.f3) := (blk_cell BK7.out 3).trans rfl; obtain ⟨y0, y1, y2, y3⟩ := HW7.out.1 i t ht; have z0 := HW7.out.2 (i * 4); have z1 := HW7.out.2 (i * 4 + 1); have z2 := HW7.out.2 (i * 4 + 2); have z3 := HW7.out.2 (i * 4 + 3)))
        go_roundg (gk - 1)
        case measure => have := HK.out; omega
        case rel => exact ⟨i + 1, j + 1, ys.set i s, (by first | rfl | (simp; done) | (congr 1; unfold wrap64; omega)), (by first | rfl | (simp; done) | (congr 1; unfold wrap64; omega)), ⟨by have := HK.out; rw [List.length_set]; omega⟩, HF2, ⟨HW7.out.put hil s⟩, ⟨Ft.set (S := fun k => k = g) (Ft.set (S := fun k => k = g) (Ft.set (S := fun k => k = g) (Ft.set (S := fun k => k = g) (HT1.out.trans (Ft.of_below HB7.out)) rfl _) rfl _) rfl _) rfl _⟩⟩
    · have dlt : decide ((j : Int) < (xs.length : Int)) = false := decide_eq_false hlt
      have hj : j = xs.length := by have := HK.out; omega
      have hij : i < xs.length := by have := HK.out; omega
      have hil : i ≤ ys.length := by have := HK.out; omega
      have c1 := fun W : World => cut_l49 W g xs.length c i hij hc
      have c2 := fun W : World => cut_h49 W g xs.length c i (by omega) hc
      have hcl := fun ty => run_clear49 wr ty g (i * 4) (xs.length - i) (c - i) (by omega) (fun k hk => HW.out.1.there (i * 4 + k) (by have := HK.out; omega)) (fun k _ => HW.out.2 (i * 4 + k))
      have hF := HF.out.1
      rw [hj, List.take_length] at hF
      have hlen : (xs.filter (keep ss)).length = i := by rw [← hF, List.length_take]; omega
      have HR := Aside0.mk (HW.out.1.cleared i (xs.length - i) hil (List.replicate ((xs.length - i) * 4) (.int .i64 0)))
      have HFA := Aside0.mk hF
      have HL := Aside0.mk hlen
      clear hF hlen
      go_wp2
      go_ret
      exact ⟨by rw [HL.out]; rfl, by rw [← HFA.out]; exact HR.out, Ft.setCells _ _ _ HT.out⟩
theorem del_calls {w : World} {b r p g c : Nat} {st pr fa : Int} {ss : List Std} (xs : List S49) (hl : xs.length ≤ 1000) (hc : xs.length ≤ c) (h : Aside0 (Sc w b r st pr fa ss)) (hp : Aside0 (w.cell? ⟨p, 0, none⟩ = some (.pointer (some ⟨b, 0, none⟩)))) (hx : Aside0 (SW w g xs))
    (hgb : Aside0 (g ≠ b ∧ g ≠ r ∧ g ≠ p)) (hg : g < w.heap.size) :
    Calls Try.prog 55 #[.slice (some ⟨g, 0, none⟩) xs.length c, .func (.func 57) #[] #[.pointer (some ⟨p, 0, none⟩)]] w fun e w' => e = .returned (.slice (some ⟨g, 0, none⟩) (xs.filter (keep ss)).length c) ∧ SR w' g (xs.filter (keep ss)) ∧ Ft (fun k => k = g) w w' := by
  rcases first_is ss xs 0 with ⟨h1, h2, h3⟩ | ⟨i, hi, h1, h2⟩
  · refine (del_none xs hl h hp ⟨hx.out.1⟩ h3).mono ?_
    rintro e w' ⟨rfl, hb⟩
    rw [h2]
    exact ⟨rfl, hx.out.1.below hb, Ft.of_below hb⟩
  · exact del_some xs hl hc h hp hx hgb hg hi (by rw [h1]; congr 1; omega) ⟨h2⟩
end Go.Proofs.Ytjcjibghnpjegaa.Sc

/- score's Set, at the three kinds of standings that told hands it. -/
namespace Go.Proofs.Ytjcjibghnpjegaa.Sc
open Go.RowKit Go.Proofs.YtjcjibghnpjegaaW.PrintWords Go.Proofs.YtjcjibghnpjegaaW.PrintLast Go.Proofs.YtjcjibghnpjegaaW.PrintMore
set_option linter.unusedVariables false
set_option linter.unusedSimpArgs false
set_option maxHeartbeats 4000000 in
set_option maxRecDepth 100000 in
theorem set_high {w : World} {b r : Nat} {st pr fa : Int} {ss : List Std} (i : Nat) (hi : i < ss.length) (k : Int) (h : Aside0 (Sc w b r st pr fa ss)) (hk : 0 ≤ k) (hst : st ≤ k) :
    Calls Try.prog 53 #[.pointer (some ⟨b, 0, none⟩), .int .i64 i, .agg #[.int .i64 k, .int .i64 0, .bool false]] w fun e w' => e = .returned (.int .i64 1) ∧ Below w.heap.size w w' := by
  have HB := Aside0.mk (Below.refl w.heap.size w)
  have h0 : 0 ≤ (i : Int) ∧ (i : Int) < ss.length := by omega
  have hd : decide (0 ≤ (i : Int) ∧ (i : Int) < ss.length) = true := decide_eq_true h0
  have d1 : decide (k < 0) = false := decide_eq_false (by omega)
  have d2 : decide (st ≤ k) = true := decide_eq_true hst
  go_enter Try.func53, Try.ntmps53
  go_upto_region 5 with (first | ((with_reducible refine gate_dst (N := 5) rfl ?_); refine box_event ?hg (N := 5) ?hd (cs := #[.int .i64 k, .int .i64 0, .bool false]) (t := 54) ?hr ?_; (case hd => rfl); (case hg => rfl); (case hr => first | (go_simp; done) | (go_simp; rfl)); intro gb hg w5 hbox hb; have n0_ := Aside0.mk (below_step HB.out hb); have BK := Aside0.mk hbox; clear HB; have HB := n0_; clear n0_; clear hb hbox hg) | (go_at_call 52; (with_reducible refine (has_calls (w := _) (i : Int) ⟨h.out.below HB.out⟩).mono ?_); rintro e w6 ⟨rfl, hb⟩; have n0_ := Aside0.mk (below_step HB.out hb); have n1_ := Aside0.mk (blk_below BK.out hb); clear HB; have HB := n0_; clear n0_; clear hb; have x0 : w6.cell? ⟨gb, 0, none⟩ = some (.int .i64 k) := (blk_cell n1_.out 0).trans rfl; have x1 : w6.cell? ⟨gb, 1, none⟩ = some (.int .i64 0) := (blk_cell n1_.out 1).trans rfl; have x2 : w6.cell? ⟨gb, 2, none⟩ = some (.bool false) := (blk_cell n1_.out 2).trans rfl; have y1 := (h.out.below HB.out).c1; have y2 := (h.out.below HB.out).c2; rw [hd]))
  go_quiet (fail)
  go_wp2
  go_ret
  exact ⟨rfl, pw_below_drewN HB.out _⟩
set_option maxHeartbeats 4000000 in
set_option maxRecDepth 100000 in
theorem set_odd {w : World} {b r : Nat} {st pr fa : Int} {ss : List Std} (i : Nat) (hi : i < ss.length) (k : Int) (h : Aside0 (Sc w b r st pr fa ss)) (hk : 0 < k) (hst : k < st) (hpr : 0 < pr) :
    Calls Try.prog 53 #[.pointer (some ⟨b, 0, none⟩), .int .i64 i, .agg #[.int .i64 k, .int .i64 0, .bool true]] w fun e w' => e = .returned (.int .i64 1) ∧ Below w.heap.size w w' := by
  have HB := Aside0.mk (Below.refl w.heap.size w)
  have h0 : 0 ≤ (i : Int) ∧ (i : Int) < ss.length := by omega
  have hd : decide (0 ≤ (i : Int) ∧ (i : Int) < ss.length) = true := decide_eq_true h0
  have d1 : decide (k < 0) = false := decide_eq_false (by omega)
  have d2 : decide (st ≤ k) = false := decide_eq_false (by omega)
  have d3 : decide (pr ≤ 0) = false := decide_eq_false (by omega)
  have d4 : (k != 0) = true := bne_iff_ne.2 (by omega)
  have d5 : (k == 0) = false := beq_eq_false_iff_ne.2 (by omega)
  go_enter Try.func53, Try.ntmps53
  go_upto_region 5 with (first | ((with_reducible refine gate_dst (N := 5) rfl ?_); refine box_event ?hg (N := 5) ?hd (cs := #[.int .i64 k, .int .i64 0, .bool true]) (t := 54) ?hr ?_; (case hd => rfl); (case hg => rfl); (case hr => first | (go_simp; done) | (go_simp; rfl)); intro gb hg w5 hbox hb; have n0_ := Aside0.mk (below_step HB.out hb); have BK := Aside0.mk hbox; clear HB; have HB := n0_; clear n0_; clear hb hbox hg) | (go_at_call 52; (with_reducible refine (has_calls (w := _) (i : Int) ⟨h.out.below HB.out⟩).mono ?_); rintro e w6 ⟨rfl, hb⟩; have n0_ := Aside0.mk (below_step HB.out hb); have n1_ := Aside0.mk (blk_below BK.out hb); clear HB; have HB := n0_; clear n0_; clear hb; have x0 : w6.cell? ⟨gb, 0, none⟩ = some (.int .i64 k) := (blk_cell n1_.out 0).trans rfl; have x1 : w6.cell? ⟨gb, 1, none⟩ = some (.int .i64 0) := (blk_cell n1_.out 1).trans rfl; have x2 : w6.cell? ⟨gb, 2, none⟩ = some (.bool true) := (blk_cell n1_.out 2).trans rfl; have y1 := (h.out.below HB.out).c1; have y2 := (h.out.below HB.out).c2; rw [hd]))
  go_quiet (fail)
  go_wp2
  go_ret
  exact ⟨rfl, pw_below_drewN HB.out _⟩
set_option maxHeartbeats 4000000 in
set_option maxRecDepth 100000 in
theorem set_ok {w : World} {b r : Nat} {st pr fa : Int} {ss : List Std} (i : Nat) (hi : i < ss.length) (k : Int) (h : Aside0 (Sc w b r st pr fa ss)) (hk : 0 ≤ k) (hst : k < st) (hpr : 0 < pr) :
    Calls Try.prog 53 #[.pointer (some ⟨b, 0, none⟩), .int .i64 i, .agg #[.int .i64 k, .int .i64 0, .bool false]] w fun e w' => e = .returned (.int .i64 0) ∧ Sc w' b r st pr fa (ss.set i ⟨k, 0, false⟩) ∧ Ft (fun k => k = b ∨ k = r) w w' := by
  have HB := Aside0.mk (Below.refl w.heap.size w)
  have h0 : 0 ≤ (i : Int) ∧ (i : Int) < ss.length := by omega
  have hd : decide (0 ≤ (i : Int) ∧ (i : Int) < ss.length) = true := decide_eq_true h0
  have d1 : decide (k < 0) = false := decide_eq_false (by omega)
  have d2 : decide (st ≤ k) = false := decide_eq_false (by omega)
  have d3 : decide (pr ≤ 0) = false := decide_eq_false (by omega)
  go_enter Try.func53, Try.ntmps53
  go_upto_region 5 with (first | ((with_reducible refine gate_dst (N := 5) rfl ?_); refine box_event ?hg (N := 5) ?hd (cs := #[.int .i64 k, .int .i64 0, .bool false]) (t := 54) ?hr ?_; (case hd => rfl); (case hg => rfl); (case hr => first | (go_simp; done) | (go_simp; rfl)); intro gb hg w5 hbox hb; have n0_ := Aside0.mk (below_step HB.out hb); have BK := Aside0.mk hbox; clear HB; have HB := n0_; clear n0_; clear hb hbox hg) | (go_at_call 52; (with_reducible refine (has_calls (w := _) (i : Int) ⟨h.out.below HB.out⟩).mono ?_); rintro e w6 ⟨rfl, hb⟩; have n0_ := Aside0.mk (below_step HB.out hb); have n1_ := Aside0.mk (blk_below BK.out hb); clear HB; have HB := n0_; clear n0_; clear hb; have x0 : w6.cell? ⟨gb, 0, none⟩ = some (.int .i64 k) := (blk_cell n1_.out 0).trans rfl; have x1 : w6.cell? ⟨gb, 1, none⟩ = some (.int .i64 0) := (blk_cell n1_.out 1).trans rfl; have x2 : w6.cell? ⟨gb, 2, none⟩ = some (.bool false) := (blk_cell n1_.out 2).trans rfl; have y1 := (h.out.below HB.out).c1; have y2 := (h.out.below HB.out).c2; rw [hd]))
  go_quiet (fail)
  have hs : ss[i]? = some ss[i] := List.getElem?_eq_getElem hi
  have S1 : Aside0 (Sc (w6.drewN (nq + 1)) b r st pr fa ss) := ⟨h.out.below (pw_below_drewN HB.out (nq + 1))⟩
  have F1 : Aside0 (Ft (fun k => k = b ∨ k = r) w (w6.drewN (nq + 1))) := ⟨Ft.of_below (pw_below_drewN HB.out (nq + 1))⟩
  have S6 := Aside0.mk (h.out.below HB.out)
  obtain ⟨q0, q1, q2⟩ := S6.out.at_ hs
  have q3 := S6.out.c0
  have z0 := S6.out.fz (i * 3)
  have z1 := S6.out.fz (i * 3 + 1)
  have z2 := S6.out.fz (i * 3 + 2)
  have hi' := h0.2
  go_upto_region 7 with (fail)
  go_region
  go_wp2
  go_ret
  refine ⟨rfl, ?_, Ft.put3 F1.out _ _ _⟩
  exact S1.out.put3 hs k 0 false
set_option maxHeartbeats 1000000 in
theorem has_nil (who : Int) (w : World) : Calls Try.prog 52 #[.pointer none, .int .i64 who] w fun e w' => e = .returned (.bool false) ∧ Below w.heap.size w w' := by
  go_enter Try.func52, Try.ntmps52
  go_wp2
  go_ret
  exact ⟨rfl, Below.refl _ _⟩
set_option maxHeartbeats 1000000 in
theorem out_nil (who : Int) (w : World) : Calls Try.prog 40 #[.pointer none, .int .i64 who] w fun e w' => e = .returned (.bool true) ∧ Below w.heap.size w w' := by
  go_enter Try.func40, Try.ntmps40
  go_wp2_with (first | (go_at_call 52; (with_reducible refine (has_nil who _).mono ?_); rintro e w6 ⟨rfl, hb⟩; have HB := Aside0.mk hb; clear hb))
  go_ret
  exact ⟨rfl, HB.out⟩
set_option maxHeartbeats 1000000 in
theorem set_nil (who k c : Int) (o : Bool) (w : World) : Calls Try.prog 53 #[.pointer none, .int .i64 who, .agg #[.int .i64 k, .int .i64 c, .bool o]] w fun e w' => e = .returned (.int .i64 1) ∧ Below w.heap.size w w' := by
  go_enter Try.func53, Try.ntmps53
  go_wp2
  go_ret
  exact ⟨rfl, by repeat (first | (with_reducible first | exact Below.refl _ _ | apply below_alloc | apply pw_below_drewN | apply below_drew1) | exact Below.refl _ _)⟩
end Go.Proofs.Ytjcjibghnpjegaa.Sc

/- score's Get of a collector that is not: nothing known, ErrWho. -/
namespace Go.Proofs.Ytjcjibghnpjegaa.Sc
open Go.RowKit Go.Proofs.YtjcjibghnpjegaaW.PrintWords Go.Proofs.YtjcjibghnpjegaaW.PrintLast Go.Proofs.YtjcjibghnpjegaaW.PrintMore
set_option linter.unusedVariables false
set_option linter.unusedSimpArgs false
set_option maxHeartbeats 2000000 in
set_option maxRecDepth 100000 in
theorem get_who {w : World} {b r : Nat} {st pr fa : Int} {ss : List Std} (who : Int) (hw : ¬ (0 ≤ who ∧ who < ss.length)) (h : Aside0 (Sc w b r st pr fa ss)) :
    Calls Try.prog 37 #[.pointer (some ⟨b, 0, none⟩), .int .i64 who] w fun e w' => e = .returned (.tuple #[.agg #[.int .i64 0, .int .i64 0, .bool false], .int .i64 3]) ∧ Below w.heap.size w w' := by
  have HB := Aside0.mk (Below.refl w.heap.size w)
  have hd : decide (0 ≤ who ∧ who < ss.length) = false := decide_eq_false hw
  go_enter Try.func37, Try.ntmps37
  go_wp2_with (first | ((with_reducible refine gate_dst (N := 4) rfl ?_); refine box_event ?hg (N := 4) ?hd (cs := #[.int .i64 0, .int .i64 0, .bool false]) (t := 54) ?hr ?_; (case hd => rfl); (case hg => rfl); (case hr => first | (go_simp; done) | (go_simp; rfl)); intro gb hg w5 hbox hb; have n0_ := Aside0.mk (below_step HB.out hb); have BK := Aside0.mk hbox; have GE := Aside0.mk ((by rw [hg]; exact (below_size HB.out) : w.heap.size ≤ gb)); clear HB; have HB := n0_; clear n0_; clear hb hbox hg) | (go_at_call 52; (with_reducible refine (has_calls (w := _) who ⟨h.out.below HB.out⟩).mono ?_); rintro e w6 ⟨rfl, hb⟩; have n0_ := Aside0.mk (below_step HB.out hb); have n1_ := Aside0.mk (blk_below BK.out hb); clear HB; have HB := n0_; clear n0_; clear hb; have x0 : w6.cell? ⟨gb, 0, none⟩ = some (.int .i64 0) := (blk_cell n1_.out 0).trans rfl; have x1 : w6.cell? ⟨gb, 1, none⟩ = some (.int .i64 0) := (blk_cell n1_.out 1).trans rfl; have x2 : w6.cell? ⟨gb, 2, none⟩ = some (.bool false) := (blk_cell n1_.out 2).trans rfl; have z0 := blk_frozen n1_.out 0; have z1 := blk_frozen n1_.out 1; have z2 := blk_frozen n1_.out 2; rw [hd]))
  have hB3 := blk_put (cs' := #[.int .i64 0, .int .i64 0, .bool false]) (blk_put (cs' := #[.int .i64 0, .int .i64 0, .bool false]) (blk_put (cs' := #[.int .i64 0, .int .i64 0, .bool false]) n1_.out 0 (.int .i64 0) rfl) 1 (.int .i64 0) rfl) 2 (.bool false) rfl
  exact bodyPost_ret (results_ct rfl _ _ gb 54 _ (0, 0) _ rfl hB3 Try.underlying54 rfl (by kernel_rfl)) rfl ⟨rfl, below_set (below_set (below_set HB.out GE.out) GE.out) GE.out⟩
end Go.Proofs.Ytjcjibghnpjegaa.Sc

/- slices.Clone over rows of samples and of standings: the same row, of the call's own. Condition: fewer than 2^40 elements. -/
namespace Go.Proofs.Ytjcjibghnpjegaa.Sc
open Go.RowKit Go.Proofs.Ytjcjibghnpjegaa.Pr Go.Proofs.YtjcjibghnpjegaaW.PrintWords Go.Proofs.YtjcjibghnpjegaaW.PrintLast Go.Proofs.YtjcjibghnpjegaaW.PrintMore
set_option linter.unusedVariables false
set_option linter.unusedSimpArgs false
set_option maxHeartbeats 800000 in
set_option maxRecDepth 100000 in
theorem clone49 (A0 : Option Addr) (c0 : Nat) (l0 : List S49) (w : World) (hr0 : Kd.C k49 w A0 l0.length l0) (hc0 : l0.length ≤ c0) (hL : l0.length < 1099511627776) :
    Calls Try.prog 56 #[.slice A0 l0.length c0] w fun e w' => ∃ v0_ : Value, e = .returned (v0_) ∧ Kd.R k49 49 w' w.heap.size (fun _ => True) v0_ l0 ∧ Below w.heap.size w w' := by
  have LM := Aside0.mk hL
  have HR0 := Aside0.mk hr0
  have HB := Aside0.mk (Below.refl w.heap.size w)
  clear hL hr0
  cases A0 with
  | none =>
    have hnil : l0 = [] := by
      cases l0 with
      | nil => rfl
      | cons a t =>
        obtain ⟨ad, e, _⟩ := at_T49 HR0.out 0 (by omega) (by simp)
        cases e
    subst hnil
    have h1 := fun (w : World) => Lib.run_eql_slice_nil_nil (P := Try.prog) w 0 c0 Try.underlying47
    go_enter Try.func56, Try.ntmps56
    go_wp2
    go_ret
    exact ⟨_, rfl, Kd.R_nil _ _ _ _ _, Below.refl _ _⟩
  | some ad =>
    have h1 := fun (w : World) => Lib.run_eql_slice_some_nil (P := Try.prog) w ad l0.length c0 Try.underlying47
    go_enter Try.func56, Try.ntmps56
    go_wp2_with (first | ((with_reducible refine gate_dst (N := 5) rfl ?_); refine Kd.R_lit k49 _ 49 ?hg (N := 5) ?hd (xs := ([] : List S49)) (inner := []) (ok := fun _ => True) (okp := fun _ => True) ?hr ?hp (fun _ hk => hk) trivial (Below.refl _ _) (Nat.le_refl _) (by simp) ?_; (case hd => rfl); (case hg => rfl); (case hr => first | (go_simp; done) | (go_simp; rfl)); (case hp => exact (Reps.none _ _)); intro v290 w8 ho9 hb hg_ hnew_; clear hg_ hnew_; have HO291 := Aside0.mk (Kd.R_lower ho9 (below_size HB.out)); have n1_ := Aside0.mk (below_step HB.out hb); clear HB; have HB := n1_; clear n1_; clear hb ho9) | ((with_reducible refine gate_builtin (b := .append) (xs := #[.tmp 5, .tmp 6]) rfl ?_); at_builtin; refine Kd.R_append_rows k49 (Rr := k49.K w8) (w0 := w) w.heap.size rfl (.tmp 5) (.tmp 6) 47 49 (.agg #[.int .i64 0, .int .i64 0, .int .i64 0, .int .i64 0]) 32 rfl Try.underlying47 info49 rfl (by decide) (by omega) v290 [] l0 _ _ _ (fun _ => True) (fun _ => False) rfl rfl ?aO ?aR ?aK (fun _ h => h.elim) ?aF ?aB ?aS ?aL ?_; (case aR => repeat (first | exact (Kd.C_below HR0.out HB.out) | (with_reducible refine Kd.C_alloc ?_ _) | (with_reducible refine Kd.C_drewN ?_ _) | (with_reducible refine Kd.C_drew ?_))); (case aB => exact HB.out); (case aK => exact (fun x cs hk => by have e_ := k49_open hk; subst e_; exact k49_mkM _ _ _ _)); (case aF => exact (fun _ _ => trivial)); (case aO => exact HO291.out); (case aS => exact (below_size HB.out)); (case aL => have := LM.out; simp; omega); intro v293 w10 ho hb hg hat; have n0_ := Aside0.mk (hb); have n1_ := Aside0.mk (ho); clear HB; clear HO291; have HB := n0_; have HO294 := n1_; clear n0_ n1_; clear ho hb hg hat))
    go_ret
    exact ⟨_, rfl, by simpa using HO294.out, HB.out⟩
set_option maxHeartbeats 800000 in
set_option maxRecDepth 100000 in
theorem clone54 (A0 : Option Addr) (c0 : Nat) (l0 : List S54) (w : World) (hr0 : Kd.C k54 w A0 l0.length l0) (hc0 : l0.length ≤ c0) (hL : l0.length < 1099511627776) :
    Calls Try.prog 54 #[.slice A0 l0.length c0] w fun e w' => ∃ v0_ : Value, e = .returned (v0_) ∧ Kd.R k54 54 w' w.heap.size (fun _ => True) v0_ l0 ∧ Below w.heap.size w w' := by
  have LM := Aside0.mk hL
  have HR0 := Aside0.mk hr0
  have HB := Aside0.mk (Below.refl w.heap.size w)
  clear hL hr0
  cases A0 with
  | none =>
    have hnil : l0 = [] := by
      cases l0 with
      | nil => rfl
      | cons a t =>
        obtain ⟨ad, e, _⟩ := at_T54 HR0.out 0 (by omega) (by simp)
        cases e
    subst hnil
    have h1 := fun (w : World) => Lib.run_eql_slice_nil_nil (P := Try.prog) w 0 c0 Try.underlying61
    go_enter Try.func54, Try.ntmps54
    go_wp2
    go_ret
    exact ⟨_, rfl, Kd.R_nil _ _ _ _ _, Below.refl _ _⟩
  | some ad =>
    have h1 := fun (w : World) => Lib.run_eql_slice_some_nil (P := Try.prog) w ad l0.length c0 Try.underlying61
    go_enter Try.func54, Try.ntmps54
    go_wp2_with (first | ((with_reducible refine gate_dst (N := 5) rfl ?_); refine Kd.R_lit k54 _ 54 ?hg (N := 5) ?hd (xs := ([] : List S54)) (inner := []) (ok := fun _ => True) (okp := fun _ => True) ?hr ?hp (fun _ hk => hk) trivial (Below.refl _ _) (Nat.le_refl _) (by simp) ?_; (case hd => rfl); (case hg => rfl); (case hr => first | (go_simp; done) | (go_simp; rfl)); (case hp => exact (Reps.none _ _)); intro v290 w8 ho9 hb hg_ hnew_; clear hg_ hnew_; have HO291 := Aside0.mk (Kd.R_lower ho9 (below_size HB.out)); have n1_ := Aside0.mk (below_step HB.out hb); clear HB; have HB := n1_; clear n1_; clear hb ho9) | ((with_reducible refine gate_builtin (b := .append) (xs := #[.tmp 5, .tmp 6]) rfl ?_); at_builtin; refine Kd.R_append_rows k54 (Rr := k54.K w8) (w0 := w) w.heap.size rfl (.tmp 5) (.tmp 6) 61 54 (.agg #[.int .i64 0, .int .i64 0, .bool false]) 24 rfl Try.underlying61 info54 rfl (by decide) (by omega) v290 [] l0 _ _ _ (fun _ => True) (fun _ => False) rfl rfl ?aO ?aR ?aK (fun _ h => h.elim) ?aF ?aB ?aS ?aL ?_; (case aR => repeat (first | exact (Kd.C_below HR0.out HB.out) | (with_reducible refine Kd.C_alloc ?_ _) | (with_reducible refine Kd.C_drewN ?_ _) | (with_reducible refine Kd.C_drew ?_))); (case aB => exact HB.out); (case aK => exact (fun x cs hk => by have e_ := k54_open hk; subst e_; exact k54_mkM _ _ _ _)); (case aF => exact (fun _ _ => trivial)); (case aO => exact HO291.out); (case aS => exact (below_size HB.out)); (case aL => have := LM.out; simp; omega); intro v293 w10 ho hb hg hat; have n0_ := Aside0.mk (hb); have n1_ := Aside0.mk (ho); clear HB; clear HO291; have HB := n0_; have HO294 := n1_; clear n0_ n1_; clear ho hb hg hat))
    go_ret
    exact ⟨_, rfl, by simpa using HO294.out, HB.out⟩
end Go.Proofs.Ytjcjibghnpjegaa.Sc

/- All: what is known of each, in a row of the caller's own. -/
namespace Go.Proofs.Ytjcjibghnpjegaa.Sc
open Go.RowKit Go.Proofs.Ytjcjibghnpjegaa.Pr Go.Proofs.YtjcjibghnpjegaaW.PrintWords Go.Proofs.YtjcjibghnpjegaaW.PrintLast Go.Proofs.YtjcjibghnpjegaaW.PrintMore
set_option linter.unusedVariables false
set_option linter.unusedSimpArgs false
def s54 (s : Std) : S54 := ⟨s.k, s.c, s.o⟩
theorem Sc.row54 {w : World} {b r : Nat} {st pr fa : Int} {ss : List Std} (h : Sc w b r st pr fa ss) : Kd.C k54 w (some ⟨r, 0, none⟩) (ss.map s54).length (ss.map s54) := by
  have hl := h.2.1
  refine ⟨rfl, by rw [List.length_map]; omega, fun _ => ⟨_, rfl, fun j p hp => ?_⟩⟩
  rw [List.getElem?_map] at hp
  obtain ⟨s, hs, rfl⟩ := Option.map_eq_some_iff.1 hp
  obtain ⟨h0, h1, h2⟩ := h.at_ hs
  have ha : ∀ i, (⟨r, 0, none⟩ : Addr).add (j * 3 + i) = ⟨r, j * 3 + i, none⟩ := fun i => by
    unfold Addr.add
    split
    · next h => rw [h]
    · simp
  refine ⟨[.int .i64 s.k, .int .i64 s.c, .bool s.o], rfl, k54_mk w (s54 s), fun i u hi => ?_⟩
  have : k54.sz = 3 := rfl
  rw [this, ha]
  match i, hi with
  | 0, hi => simp only [List.getElem?_cons_zero, Option.some.injEq] at hi; rw [← hi]; exact h0
  | 1, hi => simp only [List.getElem?_cons_succ, List.getElem?_cons_zero, Option.some.injEq] at hi; rw [← hi]; exact h1
  | 2, hi => simp only [List.getElem?_cons_succ, List.getElem?_cons_zero, Option.some.injEq] at hi; rw [← hi]; exact h2
  | i + 3, hi => simp at hi
set_option maxHeartbeats 2000000 in
set_option maxRecDepth 100000 in
theorem all_calls {w : World} {b r : Nat} {st pr fa : Int} {ss : List Std} (h : Aside0 (Sc w b r st pr fa ss)) :
    Calls Try.prog 41 #[.pointer (some ⟨b, 0, none⟩)] w fun e w' => ∃ v : Value, e = .returned v ∧ Kd.R k54 54 w' w.heap.size (fun _ => True) v (ss.map s54) ∧ Below w.heap.size w w' := by
  have HB := Aside0.mk (Below.refl w.heap.size w)
  have q0 := h.out.c0
  have hl := h.out.2.1
  have hlm : (ss.map s54).length = ss.length := List.length_map _
  have hr := h.out.row54
  rw [hlm] at hr
  have HR := Aside0.mk hr
  clear hr
  have key : ∀ W : World, W = w → Calls Try.prog 54 #[.slice (some ⟨r, 0, none⟩) ss.length ss.length] W fun e w' => ∃ v0_ : Value, e = .returned (v0_) ∧ Kd.R k54 54 w' W.heap.size (fun _ => True) v0_ (ss.map s54) ∧ Below W.heap.size W w' := by
    rintro W rfl
    have := clone54 (some ⟨r, 0, none⟩) ss.length (ss.map s54) W (by rw [hlm]; exact HR.out) (by rw [hlm]; exact Nat.le_refl _) (by rw [hlm]; omega)
    rw [hlm] at this
    exact this
  go_enter Try.func41, Try.ntmps41
  go_wp2_with (first | (go_at_call 54; (with_reducible refine (key _ rfl).mono ?_); rintro e w6 ⟨v, rfl, hr, hb⟩; have HR6 := Aside0.mk hr; have HB6 := Aside0.mk hb; clear hr hb))
  go_ret
  exact ⟨_, rfl, HR6.out, HB6.out⟩
end Go.Proofs.Ytjcjibghnpjegaa.Sc
