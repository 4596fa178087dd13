/- What the printed functions of package order come to: Sort is the rising permutation, Rank counts those below, Same compares the rising permutations, Union is the rising permutation of both. Condition: the rows are shorter than 2^43. -/
import Derived.Test.YtjcjibghnpjegaaPr2
import Derived.Test.YtjcjibghnpjegaaPr3
import Derived.Test.YtjcjibghnpjegaaPr4
import Derived.Test.YtjcjibghnpjegaaPr5
import Derived.Test.YtjcjibghnpjegaaPr6
import Derived.Test.YtjcjibghnpjegaaPr7
import Derived.Test.YtjcjibghnpjegaaPr8
import Derived.Test.YtjcjibghnpjegaaPr9
import Derived.Test.YtjcjibghnpjegaaPr10
import Derived.Test.YtjcjibghnpjegaaSrt
namespace Go.Proofs.Ytjcjibghnpjegaa.Ord
open Go.RowKit Go.Proofs.Ytjcjibghnpjegaa.Pr Go.Proofs.Ytjcjibghnpjegaa.Srt Go.Proofs.YtjcjibghnpjegaaW.PrintWords Go.Proofs.YtjcjibghnpjegaaW.PrintLast

theorem w64 {x : Int} (h0 : -9223372036854775808 ≤ x) (h1 : x ≤ 9223372036854775807) : wrap64 x = x := by
  unfold wrap64; omega

theorem rd_nat (l : List Int) (i : Nat) : rd l (i : Int) = l.getD i 0 := by simp [rd]

theorem drop_cons {l : List Int} {i : Nat} (h : i < l.length) : l.drop i = l.getD i 0 :: l.drop (i + 1) := by
  rw [getD_el h]; exact List.drop_eq_getElem_cons h

theorem ev_if {α : Type} {c : Prop} [Decidable c] {A B : Nat → Option α} {r : α} (h1 : c → Ev A r) (h2 : ¬ c → Ev B r) : Ev (fun n => if c then A n else B n) r := by
  by_cases h : c
  · simp only [if_pos h]; exact h1 h
  · simp only [if_neg h]; exact h2 h
theorem ev_pos {α : Type} {c : Prop} [Decidable c] {A B : Nat → Option α} {r : α} (h : c) (h1 : Ev A r) : Ev (fun n => if c then A n else B n) r := by
  simp only [if_pos h]; exact h1
theorem ev_neg {α : Type} {c : Prop} [Decidable c] {A B : Nat → Option α} {r : α} (h : ¬ c) (h1 : Ev B r) : Ev (fun n => if c then A n else B n) r := by
  simp only [if_neg h]; exact h1
/-- a function's own next round, with what it comes to -/
theorem ev_step {α : Type} {g f : Nat → Option α} {r : α} (h : ∀ k, g (k + 1) = f k) (k : Ev f r) : Ev g r := Ev.step h k

/-! merge -/
theorem merge_cons {x y : Int} {a b : List Int} (ha : (x :: a).Pairwise (· ≤ ·)) (hb : (y :: b).Pairwise (· ≤ ·)) (h : y < x) : S (x :: a ++ y :: b) = y :: S (b ++ x :: a) := by
  refine (S_unique ?_ ?_).symm
  · refine ((S_perm _).cons y).trans ?_
    exact List.perm_append_comm (l₁ := y :: b) (l₂ := x :: a)
  · refine List.pairwise_cons.2 ⟨fun z hz => ?_, S_sorted _⟩
    have hz := (S_perm _).mem_iff.1 hz
    rw [List.mem_append, List.mem_cons] at hz
    rw [List.pairwise_cons] at ha hb
    rcases hz with hz | hz | hz
    · exact hb.1 z hz
    · omega
    · have := ha.1 z hz; omega
theorem merge_cons' {x y : Int} {a b : List Int} (ha : (x :: a).Pairwise (· ≤ ·)) (hb : (y :: b).Pairwise (· ≤ ·)) (h : ¬ y < x) : S (x :: a ++ y :: b) = x :: S (a ++ y :: b) := by
  refine (S_unique ?_ ?_).symm
  · exact (S_perm _).cons x
  · refine List.pairwise_cons.2 ⟨fun z hz => ?_, S_sorted _⟩
    have hz := (S_perm _).mem_iff.1 hz
    rw [List.mem_append, List.mem_cons] at hz
    rw [List.pairwise_cons] at ha hb
    rcases hz with hz | hz | hz
    · exact ha.1 z hz
    · omega
    · have := hb.1 z hz; omega

theorem merge_ev : ∀ (d : Nat) (a b out : List Int), a.length + b.length = d → a.Pairwise (· ≤ ·) → b.Pairwise (· ≤ ·) → out.length + d < 17592186044416 → Ev (fun k => order_merge.l0 k a b out) (out ++ S (a ++ b)) := by
  intro d
  induction d with
  | zero =>
    intro a b out hd _ _ hL
    obtain rfl : a = [] := List.eq_nil_of_length_eq_zero (by omega)
    obtain rfl : b = [] := List.eq_nil_of_length_eq_zero (by simpa using hd)
    refine ev_step (f := fun k => order_merge.j1 k [] [] out false) (fun k => by simp [order_merge.l0]) ?_
    refine ev_step (f := fun k => some (out ++ S ([] ++ []))) (fun k => ?_) (Ev.now _)
    simp only [order_merge.j1]
    rw [if_neg (by simp), if_pos (by simpa using hL)]
    simp only [Option.bind_some]
    rw [if_pos (by simpa using hL), List.append_nil, List.append_nil, List.append_nil, S_idem List.Pairwise.nil, List.append_nil]
  | succ d ih =>
    intro a b out hd ha hb hL
    cases a with
    | nil =>
      refine ev_step (f := fun k => order_merge.j1 k [] b out false) (fun k => by simp [order_merge.l0]) ?_
      refine ev_step (f := fun k => some (out ++ S ([] ++ b))) (fun k => ?_) (Ev.now _)
      simp only [List.length_nil, Nat.zero_add] at hd
      simp only [order_merge.j1]
      rw [if_neg (by simp), if_pos (by simp; omega)]
      simp only [Option.bind_some]
      rw [if_pos (by simp; omega), List.nil_append, S_idem hb, List.append_nil]
    | cons x a =>
      cases b with
      | nil =>
        refine ev_step (f := fun k => order_merge.j1 k (x :: a) [] out false) (fun k => by simp [order_merge.l0]) ?_
        refine ev_step (f := fun k => some (out ++ S (x :: a ++ []))) (fun k => ?_) (Ev.now _)
        simp only [List.length_nil, List.length_cons] at hd
        simp only [order_merge.j1]
        rw [if_neg (by simp), if_pos (by simp; omega)]
        simp only [Option.bind_some]
        rw [if_pos (by simp; omega), List.append_nil, List.append_nil, S_idem ha]
      | cons y b =>
        simp only [List.length_cons] at hd
        refine ev_step (f := fun k => order_merge.j1 k (x :: a) (y :: b) out true) (fun k => by simp only [order_merge.l0]; rw [if_pos (by simp only [List.length_cons]; omega), decide_eq_true (by simp only [List.length_cons]; omega)]) ?_
        by_cases h : y < x
        · refine ev_step (f := fun k => order_merge.l0 k b (x :: a) (out ++ [y])) (fun k => ?_) ?_
          · simp only [order_merge.j1]
            rw [if_pos trivial, if_pos (by simp only [List.length_cons]; omega), if_pos (by simp only [List.length_cons]; omega), if_pos (show rd (y :: b) 0 < rd (x :: a) 0 from h), if_pos (by omega), if_pos (by simp only [List.length_cons]; omega)]
            rfl
          · have := ih b (x :: a) (out ++ [y]) (by simp only [List.length_cons]; omega) (List.pairwise_cons.1 hb).2 ha (by simp only [List.length_append, List.length_cons, List.length_nil]; omega)
            rw [merge_cons ha hb h]
            simpa using this
        · refine ev_step (f := fun k => order_merge.l0 k a (y :: b) (out ++ [x])) (fun k => ?_) ?_
          · simp only [order_merge.j1]
            rw [if_pos trivial, if_pos (by simp only [List.length_cons]; omega), if_pos (by simp only [List.length_cons]; omega), if_neg (show ¬ rd (y :: b) 0 < rd (x :: a) 0 from h), if_pos (by omega), if_pos (by simp only [List.length_cons]; omega)]
            rfl
          · have := ih a (y :: b) (out ++ [x]) (by simp only [List.length_cons]; omega) (List.pairwise_cons.1 ha).2 hb (by simp only [List.length_append, List.length_cons, List.length_nil]; omega)
            rw [merge_cons' ha hb h]
            simpa using this

theorem mergef_ev {a b : List Int} (ha : a.Pairwise (· ≤ ·)) (hb : b.Pairwise (· ≤ ·)) (hL : a.length + b.length < 17592186044416) : Ev (fun k => order_merge.f k a b) (S (a ++ b)) := by
  exact merge_ev _ a b [] rfl ha hb (by simpa using hL)

theorem sort_short {l : List Int} (h : l.length < 2) : S l = l := by
  refine S_idem ?_
  match l, h with
  | [], _ => exact List.Pairwise.nil
  | [a], _ => exact List.pairwise_singleton _ _
  | a :: b :: t, h => simp at h; omega

theorem sort_ev : ∀ (n : Nat) (l : List Int), l.length ≤ n → l.length < 17592186044416 → Ev (fun k => order_Sort.f k l) (S l) := by
  intro n
  induction n with
  | zero =>
    intro l h _
    obtain rfl : l = [] := List.eq_nil_of_length_eq_zero (by omega)
    refine ev_step (f := fun k => some (S [])) (fun k => ?_) (Ev.now _)
    rw [S_idem List.Pairwise.nil]; rfl
  | succ n ih =>
    intro l h hL
    by_cases h2 : l.length < 2
    · refine ev_step (f := fun k => some (S l)) (fun k => ?_) (Ev.now _)
      simp only [order_Sort.f, slices_Clone_int64_int64.f]
      rw [if_pos (by omega), if_pos hL, sort_short h2]
      rfl
    · have hw : wrap64 ((l.length : Int) / 2) = ((l.length / 2 : Nat) : Int) := by rw [w64 (by omega) (by omega)]; omega
      refine ev_step (f := fun k => (order_Sort.f k (l.take (l.length / 2))).bind fun t131 => ((order_Sort.f k (l.drop (l.length / 2))).bind fun t135 => ((order_merge.f k t131 t135).bind fun t138 => (some t138)))) (fun k => ?_) ?_
      · simp only [order_Sort.f]
        rw [if_neg (by omega), hw, if_pos (by omega), if_pos (by omega)]
        simp only [Int.toNat_natCast]
      · refine Ev.bind (ih _ (by simp; omega) (by simp; omega)) ?_
        refine Ev.bind (ih _ (by simp; omega) (by simp; omega)) ?_
        refine Ev.bind (mergef_ev (S_sorted _) (S_sorted _) (by simp [S_length]; omega)) ?_
        have e : S (S (l.take (l.length / 2)) ++ S (l.drop (l.length / 2))) = S l := by
          refine S_congr ?_
          refine ((S_perm _).append (S_perm _)).trans ?_
          rw [List.take_append_drop]
        rw [e]
        exact Ev.now _

theorem sortf_ev (l : List Int) (hL : l.length < 17592186044416) : Ev (fun k => order_Sort.f k l) (S l) := sort_ev _ l (Nat.le_refl _) hL

theorem union_ev (a b : List Int) (h : a.length + b.length < 17592186044416) : Ev (fun k => order_Union.f k a b) (S (a ++ b)) := by
  unfold order_Union.f
  refine Ev.bind (sortf_ev _ (by omega)) ?_
  refine Ev.bind (sortf_ev _ (by omega)) ?_
  refine Ev.bind (mergef_ev (S_sorted _) (S_sorted _) (by simp only [S_length]; omega)) ?_
  rw [show S (S a ++ S b) = S (a ++ b) from S_congr ((S_perm _).append (S_perm _))]
  exact Ev.now _

theorem equal_ev {a b : List Int} (h : a.length = b.length) (hL : a.length < 9223372036854775807) : ∀ (d i : Nat), i + d = a.length → Ev (fun k => slices_Equal_int64_int64.l0 k a b (a.length : Int) (i : Int)) (decide (a.drop i = b.drop i)) := by
  intro d
  induction d with
  | zero =>
    intro i hi
    refine ev_step (f := fun k => some (decide (a.drop i = b.drop i))) (fun k => ?_) (Ev.now _)
    simp only [slices_Equal_int64_int64.l0]
    rw [if_neg (by omega), List.drop_eq_nil_of_le (by omega), List.drop_eq_nil_of_le (by omega)]
    rfl
  | succ d ih =>
    intro i hi
    have ha := drop_cons (l := a) (i := i) (by omega)
    have hb := drop_cons (l := b) (i := i) (by omega)
    by_cases e : a.getD i 0 = b.getD i 0
    · refine ev_step (f := fun k => slices_Equal_int64_int64.l0 k a b (a.length : Int) ((i + 1 : Nat) : Int)) (fun k => ?_) ?_
      · simp only [slices_Equal_int64_int64.l0]
        rw [if_pos (by omega), if_pos (by omega), if_pos (by omega), if_pos (by omega), rd_nat, rd_nat, if_pos e, w64 (by omega) (by omega)]
        rfl
      · have := ih (i + 1) (by omega)
        rw [ha, hb, e]
        simpa using this
    · refine ev_step (f := fun k => some (decide (a.drop i = b.drop i))) (fun k => ?_) (Ev.now _)
      simp only [slices_Equal_int64_int64.l0]
      rw [if_pos (by omega), if_pos (by omega), if_pos (by omega), if_pos (by omega), rd_nat, rd_nat, if_neg e, ha, hb, decide_eq_false (fun h => e (List.cons.inj h).1)]

theorem equalf_ev (a b : List Int) (hL : a.length < 9223372036854775807) : Ev (fun k => slices_Equal_int64_int64.f k a b) (decide (a = b)) := by
  unfold slices_Equal_int64_int64.f
  refine ev_if (fun h => ?_) (fun h => ?_)
  · exact equal_ev (by omega) hL _ 0 (Nat.zero_add _)
  · have : a ≠ b := fun e => h (by rw [e])
    rw [decide_eq_false this]
    exact Ev.now _

theorem same_ev (a b : List Int) (ha : a.length < 17592186044416) (hb : b.length < 17592186044416) : Ev (fun k => order_Same.f k a b) (decide (S a = S b)) := by
  unfold order_Same.f
  refine Ev.bind (sortf_ev _ ha) ?_
  refine Ev.bind (sortf_ev _ hb) ?_
  refine Ev.bind (equalf_ev _ _ (by rw [S_length]; omega)) ?_
  exact Ev.now _

theorem at_ev (l : List Int) (hL : l.length < 17592186044416) {i : Nat} (h : i < l.length) : Ev (fun k => order_At.f k l (i : Int)) ((S l).getD i 0, true) := by
  unfold order_At.f
  refine ev_neg (by omega) (ev_neg (by omega) ?_)
  refine Ev.bind (sortf_ev _ hL) ?_
  refine ev_pos (by omega) (ev_pos (by rw [S_length]; omega) ?_)
  rw [rd_nat]
  exact Ev.now _

theorem at_no_ev (l : List Int) {i : Int} (h : ¬ (0 ≤ i ∧ i < l.length)) : Ev (fun k => order_At.f k l i) (0, false) := by
  unfold order_At.f
  refine ev_if (fun _ => Ev.now _) (fun h0 => ?_)
  exact ev_pos (by omega) (Ev.now _)

theorem samelist_ev {a b : List Int} (h : a.length = b.length) (hL : a.length < 9223372036854775807) : ∀ (d i : Nat), i + d = a.length → Ev (fun k => quorumiteref9_SameList.l0 k a b (i : Int)) (decide (a.drop i = b.drop i)) := by
  intro d
  induction d with
  | zero =>
    intro i hi
    refine ev_step (f := fun k => some (decide (a.drop i = b.drop i))) (fun k => ?_) (Ev.now _)
    simp only [quorumiteref9_SameList.l0]
    rw [if_neg (by omega), List.drop_eq_nil_of_le (by omega), List.drop_eq_nil_of_le (by omega)]
    rfl
  | succ d ih =>
    intro i hi
    have ha := drop_cons (l := a) (i := i) (by omega)
    have hb := drop_cons (l := b) (i := i) (by omega)
    by_cases e : a.getD i 0 = b.getD i 0
    · refine ev_step (f := fun k => quorumiteref9_SameList.l0 k a b ((i + 1 : Nat) : Int)) (fun k => ?_) ?_
      · simp only [quorumiteref9_SameList.l0]
        rw [if_pos (by omega), if_pos (by omega), if_pos (by omega), rd_nat, rd_nat, if_pos e, w64 (by omega) (by omega)]
        rfl
      · have := ih (i + 1) (by omega)
        rw [ha, hb, e]
        simpa using this
    · refine ev_step (f := fun k => some (decide (a.drop i = b.drop i))) (fun k => ?_) (Ev.now _)
      simp only [quorumiteref9_SameList.l0]
      rw [if_pos (by omega), if_pos (by omega), if_pos (by omega), rd_nat, rd_nat, if_neg e, ha, hb, decide_eq_false (fun h => e (List.cons.inj h).1)]

theorem samelistf_ev (a b : List Int) (hL : a.length < 9223372036854775807) : Ev (fun k => quorumiteref9_SameList.f k a b) (decide (a = b)) := by
  unfold quorumiteref9_SameList.f
  refine ev_if (fun h => ?_) (fun h => ?_)
  · exact samelist_ev (by omega) hL _ 0 (Nat.zero_add _)
  · have : a ≠ b := fun e => h (by rw [e])
    rw [decide_eq_false this]
    exact Ev.now _

theorem rank_ev (l : List Int) (v : Int) (hL : l.length < 9223372036854775807) : ∀ (d i n : Nat), i + d = l.length → n ≤ i → Ev (fun k => order_Rank.l0 k v (n : Int) l (l.length : Int) (i : Int)) ((n + below v (l.drop i) : Nat) : Int) := by
  intro d
  induction d with
  | zero =>
    intro i n hi hn
    refine ev_step (f := fun k => some ((n + below v (l.drop i) : Nat) : Int)) (fun k => ?_) (Ev.now _)
    simp only [order_Rank.l0]
    rw [if_neg (by omega), List.drop_eq_nil_of_le (by omega)]
    rfl
  | succ d ih =>
    intro i n hi hn
    have ha := drop_cons (l := l) (i := i) (by omega)
    by_cases e : l.getD i 0 < v
    · refine ev_step (f := fun k => order_Rank.l0 k v ((n + 1 : Nat) : Int) l (l.length : Int) ((i + 1 : Nat) : Int)) (fun k => ?_) ?_
      · simp only [order_Rank.l0]
        rw [if_pos (by omega), if_pos (by omega), if_pos (by omega), rd_nat, if_pos e, w64 (by omega) (by omega), w64 (by omega) (by omega)]
        rfl
      · have := ih (i + 1) (n + 1) (by omega) (by omega)
        rw [ha, below_cons, if_pos e, show n + (below v (l.drop (i + 1)) + 1) = n + 1 + below v (l.drop (i + 1)) by omega]
        exact this
    · refine ev_step (f := fun k => order_Rank.l0 k v (n : Int) l (l.length : Int) ((i + 1 : Nat) : Int)) (fun k => ?_) ?_
      · simp only [order_Rank.l0]
        rw [if_pos (by omega), if_pos (by omega), if_pos (by omega), rd_nat, if_neg e, w64 (by omega) (by omega)]
        rfl
      · have := ih (i + 1) n (by omega) (by omega)
        rw [ha, below_cons, if_neg e]
        exact this

theorem rankf_ev (l : List Int) (v : Int) (hL : l.length < 9223372036854775807) : Ev (fun k => order_Rank.f k l v) (below v l : Int) := by
  have := rank_ev l v hL l.length 0 0 (Nat.zero_add _) (Nat.le_refl _)
  rw [List.drop_zero, Nat.zero_add] at this
  exact this

theorem count_drop {l : List Int} {j : Nat} (h : j < l.length) (v : Int) : (l.drop j).count v = (l.drop (j + 1)).count v + if l.getD j 0 = v then 1 else 0 := by
  rw [drop_cons h, List.count_cons]; simp only [beq_iff_eq]
theorem count_le (l : List Int) (v : Int) : l.count v ≤ l.length := List.count_le_length
theorem bounds64 {n : Int} (h : (Lit.int .i64 n).wf = true) : -9223372036854775808 ≤ n ∧ n ≤ 9223372036854775807 := by
  simp [Lit.wf, IntKind.min, IntKind.max, IntKind.signed, IntKind.bits] at h
  omega
theorem u64_range (x : Int) : 0 ≤ IntKind.u64.wrap x ∧ IntKind.u64.wrap x < 18446744073709551616 := by
  simp only [IntKind.wrap, IntKind.signed, IntKind.bits, Bool.false_and, Bool.false_eq_true, if_false]
  omega
theorem u64_in {x : Int} (h0 : 0 ≤ x) (h1 : x < 18446744073709551616) : IntKind.u64.wrap x = x := by
  simp only [IntKind.wrap, IntKind.signed, IntKind.bits, Bool.false_and, Bool.false_eq_true, if_false]
  omega
/-- 'int(uint(x) % uint(n))' lies below n -/
theorem place (x : Int) {n : Nat} (h : 0 < n) (hn : n ≤ 4294967296) : ∃ i : Nat, i < n ∧ wrap64 (Int.tmod (IntKind.u64.wrap x) (IntKind.u64.wrap (n : Int))) = (i : Int) := by
  have hx := u64_range x
  rw [u64_in (x := (n : Int)) (by omega) (by omega), Int.tmod_eq_emod_of_nonneg hx.1]
  have h1 := Int.emod_nonneg (IntKind.u64.wrap x) (b := (n : Int)) (by omega)
  have h2 := Int.emod_lt_of_pos (IntKind.u64.wrap x) (b := (n : Int)) (by omega)
  refine ⟨((IntKind.u64.wrap x) % (n : Int)).toNat, by omega, ?_⟩
  rw [w64 (by omega) (by omega)]; omega
theorem S_getD (l : List Int) : S (S l) = S l := S_idem (S_sorted l)
end Go.Proofs.Ytjcjibghnpjegaa.Ord
