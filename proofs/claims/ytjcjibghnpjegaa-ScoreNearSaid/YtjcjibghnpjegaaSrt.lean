/- Plain facts on sorted lists of whole numbers: the sorted list is the only rising permutation; how many lie below a number; the k-th by counting. No condition. -/
namespace Go.Proofs.Ytjcjibghnpjegaa.Srt

def S (l : List Int) : List Int := l.mergeSort (fun a b => decide (a ≤ b))

theorem getD_el {s : List Int} {i : Nat} (h : i < s.length) : s.getD i 0 = s[i] := by
  rw [List.getD_eq_getElem?_getD, List.getElem?_eq_getElem h]; rfl

theorem S_perm (l : List Int) : (S l).Perm l := List.mergeSort_perm l _

theorem S_sorted (l : List Int) : (S l).Pairwise (· ≤ ·) := by
  have h := List.pairwise_mergeSort (le := fun a b : Int => decide (a ≤ b)) (by intro a b c; simp; omega) (by intro a b; simp; omega) l
  exact h.imp (by simp)

theorem S_length (l : List Int) : (S l).length = l.length := (S_perm l).length_eq

theorem S_unique {l r : List Int} (hp : r.Perm l) (hs : r.Pairwise (· ≤ ·)) : r = S l :=
  List.Perm.eq_of_pairwise (le := (· ≤ ·)) (fun _ _ _ _ h h' => Int.le_antisymm h h') hs (S_sorted l) (hp.trans (S_perm l).symm)

theorem S_congr {l r : List Int} (h : l.Perm r) : S l = S r := S_unique ((S_perm l).trans h) (S_sorted l)

theorem S_idem {l : List Int} (h : l.Pairwise (· ≤ ·)) : S l = l := (S_unique (List.Perm.refl _) h).symm

def below (v : Int) (l : List Int) : Nat := l.countP (fun x => decide (x < v))

theorem below_nil (v : Int) : below v [] = 0 := rfl
theorem below_cons (v a : Int) (l : List Int) : below v (a :: l) = below v l + if a < v then 1 else 0 := by
  unfold below; rw [List.countP_cons]; simp
theorem below_append (v : Int) (l m : List Int) : below v (l ++ m) = below v l + below v m := List.countP_append ..
theorem below_perm (v : Int) {l m : List Int} (h : l.Perm m) : below v l = below v m := h.countP_eq _
theorem below_le (v : Int) (l : List Int) : below v l ≤ l.length := List.countP_le_length
theorem below_S (v : Int) (l : List Int) : below v (S l) = below v l := below_perm v (S_perm l)
theorem below_none {v : Int} {l : List Int} (h : ∀ x ∈ l, v ≤ x) : below v l = 0 := by
  unfold below; rw [List.countP_eq_zero]; intro x hx; have := h x hx; simp; omega
theorem below_all {v : Int} {l : List Int} (h : ∀ x ∈ l, x < v) : below v l = l.length := by
  unfold below; rw [List.countP_eq_length]; intro x hx; have := h x hx; simp; omega

/-- the k-th of a rising list is at least v just if at most k lie below v -/
theorem below_iff {s : List Int} (hs : s.Pairwise (· ≤ ·)) (v : Int) : ∀ k, k < s.length → (below v s ≤ k ↔ v ≤ s.getD k 0) := by
  induction s with
  | nil => intro k hk; simp at hk
  | cons a t ih =>
    intro k hk
    rw [List.pairwise_cons] at hs
    rw [below_cons]
    by_cases h : a < v
    · rw [if_pos h]
      cases k with
      | zero => simp; omega
      | succ k =>
        have := ih hs.2 k (by simpa using hk)
        simp only [List.getD_cons_succ]; rw [← this]; omega
    · rw [if_neg h]
      have h0 : below v t = 0 := below_none (fun x hx => by have := hs.1 x hx; omega)
      rw [h0]
      refine ⟨fun _ => ?_, fun _ => by omega⟩
      cases k with
      | zero => simp; omega
      | succ k =>
        simp only [List.getD_cons_succ]
        have hk' : k < t.length := by simpa using hk
        rw [getD_el hk']
        have := hs.1 _ (List.getElem_mem hk')
        omega

theorem sorted_getD {s : List Int} (hs : s.Pairwise (· ≤ ·)) {i j : Nat} (h : i ≤ j) (hj : j < s.length) : s.getD i 0 ≤ s.getD j 0 := by
  rw [getD_el hj, getD_el (by omega)]
  rcases Nat.lt_or_ge i j with h' | h'
  · exact (List.pairwise_iff_getElem.1 hs) i j (by omega) hj h'
  · have : i = j := by omega
    subst this; exact Int.le_refl _

/-- greater numbers, one by one, have a greater k-th -/
theorem S_mono {l m : List Int} (hl : l.length = m.length) (h : ∀ i, i < l.length → l.getD i 0 ≤ m.getD i 0) (k : Nat) (hk : k < l.length) : (S l).getD k 0 ≤ (S m).getD k 0 := by
  rw [← below_iff (S_sorted m) _ k (by rw [S_length]; omega), below_S]
  have h1 := (below_iff (S_sorted l) ((S l).getD k 0) k (by rw [S_length]; omega)).2 (Int.le_refl _)
  rw [below_S] at h1
  refine Nat.le_trans ?_ h1
  generalize (S l).getD k 0 = v
  clear h1 hk k
  induction l generalizing m with
  | nil => cases m with
    | nil => exact Nat.le_refl _
    | cons => simp at hl
  | cons a l ih =>
    cases m with
    | nil => simp at hl
    | cons b m =>
      rw [below_cons, below_cons]
      have h0 := h 0 (by simp)
      simp only [List.getD_cons_zero] at h0
      have := ih (m := m) (by simpa using hl) (fun i hi => by have := h (i + 1) (by simpa using hi); simpa using this)
      split <;> split <;> omega

theorem S_getD_mem {l : List Int} {k : Nat} (hk : k < l.length) : (S l).getD k 0 ∈ l := by
  have hk' : k < (S l).length := by rw [S_length]; exact hk
  rw [getD_el hk']
  exact (S_perm l).mem_iff.1 (List.getElem_mem hk')

def sum (l : List Int) : Int := l.foldl (· + ·) 0
theorem foldl_add (l : List Int) : ∀ a, l.foldl (· + ·) a = a + l.foldl (· + ·) 0 := by
  induction l with
  | nil => intro a; simp
  | cons x l ih => intro a; simp only [List.foldl_cons]; rw [ih (a + x), ih (0 + x)]; omega
theorem sum_cons (a : Int) (l : List Int) : sum (a :: l) = a + sum l := by
  unfold sum; rw [List.foldl_cons, foldl_add]; omega
theorem sum_nil : sum [] = 0 := rfl
theorem sum_append (l m : List Int) : sum (l ++ m) = sum l + sum m := by
  induction l with
  | nil => simp [sum_nil]
  | cons a l ih => rw [List.cons_append, sum_cons, sum_cons, ih]; omega
theorem sum_bounds {l : List Int} {lo hi : Int} (h : ∀ x ∈ l, lo ≤ x ∧ x ≤ hi) : (l.length : Int) * lo ≤ sum l ∧ sum l ≤ (l.length : Int) * hi := by
  induction l with
  | nil => simp [sum_nil]
  | cons a l ih =>
    have h1 := ih (fun x hx => h x (List.mem_cons_of_mem _ hx))
    have h2 := h a (by simp)
    rw [sum_cons, List.length_cons, Int.natCast_add, Int.add_mul, Int.add_mul]
    simp only [Int.natCast_one, Int.one_mul]; omega
theorem sum_le {l m : List Int} (hl : l.length = m.length) (h : ∀ i, i < l.length → l.getD i 0 ≤ m.getD i 0) : sum l ≤ sum m := by
  induction l generalizing m with
  | nil => cases m with
    | nil => exact Int.le_refl _
    | cons => simp at hl
  | cons a l ih =>
    cases m with
    | nil => simp at hl
    | cons b m =>
      have h0 := h 0 (by simp)
      simp only [List.getD_cons_zero] at h0
      have := ih (m := m) (by simpa using hl) (fun i hi => by have := h (i + 1) (by simpa using hi); simpa using this)
      rw [sum_cons, sum_cons]; omega
theorem S_replicate (n : Nat) (x : Int) : S (List.replicate n x) = List.replicate n x :=
  S_idem (List.pairwise_replicate.2 (Or.inr (Int.le_refl _)))
end Go.Proofs.Ytjcjibghnpjegaa.Srt
