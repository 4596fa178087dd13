/- What the printed loops over rows of outs come to: all lines, counts. Condition: fields within their types, rows short. -/
import Derived.Test.YtjcjibghnpjegaaDoorRep
namespace Go.Proofs.YtjcjibghnpjegaaDoor.Rep
open Go.RowKit Go.Proofs.YtjcjibghnpjegaaDoor.Pd Go.Proofs.YtjcjibghnpjegaaDoorW.PrintWords Go.Proofs.YtjcjibghnpjegaaDoorW.PrintLast
def Ok (o : S29) : Prop := InI o.f2.f0 ∧ InI o.f2.f1 ∧ InI o.f2.f2
noncomputable def lineT (o : S29) : ByteArray := (report_Line.f 1 o.f0 o.f1 o.f2.f0 o.f2.f1 o.f2.f2 o.f2.f3 o.f2.f4.f0 o.f2.f4.f1 o.f2.f4.f2 o.f2.f4.f3).getD ⟨#[]⟩
theorem lineT_spec (o : S29) (h : Ok o) : (lineT o).size ≤ 200 ∧ (∀ k, report_Line.f (k + 1) o.f0 o.f1 o.f2.f0 o.f2.f1 o.f2.f2 o.f2.f3 o.f2.f4.f0 o.f2.f4.f1 o.f2.f4.f2 o.f2.f4.f3 = some (lineT o)) ∧
    Ev (fun k => quorumiteref25_Line.f k o.f0 o.f1 o.f2.f0 o.f2.f1 o.f2.f2 o.f2.f3 o.f2.f4.f0 o.f2.f4.f1 o.f2.f4.f2 o.f2.f4.f3) (lineT o) := by
  obtain ⟨t, h1, h2, h3⟩ := line_both o.f0 o.f1 o.f2.f0 o.f2.f1 o.f2.f2 o.f2.f3 o.f2.f4.f0 o.f2.f4.f1 o.f2.f4.f2 o.f2.f4.f3 h.1 h.2.1 h.2.2
  have e : lineT o = t := by unfold lineT; rw [h2 0]; rfl
  rw [e]
  exact ⟨h1, h2, h3⟩
abbrev nl : ByteArray := ⟨#[10]⟩
noncomputable def allT : List S29 → ByteArray
  | [] => ⟨#[]⟩
  | o :: l => (lineT o ++ nl) ++ allT l
theorem app_nil (a : ByteArray) : a ++ (⟨#[]⟩ : ByteArray) = a := by
  apply ByteArray.ext
  simp
theorem nil_app (a : ByteArray) : (⟨#[]⟩ : ByteArray) ++ a = a := by
  apply ByteArray.ext
  simp
theorem allT_app : ∀ l m : List S29, allT (l ++ m) = allT l ++ allT m
  | [], m => by rw [List.nil_append, allT, nil_app]
  | o :: l, m => by rw [List.cons_append, allT, allT, allT_app l m, ByteArray.append_assoc, ByteArray.append_assoc, ByteArray.append_assoc]
theorem nl_size : nl.size = 1 := rfl
theorem allT_size : ∀ l : List S29, (∀ o ∈ l, Ok o) → (allT l).size ≤ 201 * l.length
  | [], _ => by show (0 : Nat) ≤ _; omega
  | o :: l, h => by
    have h1 := (lineT_spec o (h o List.mem_cons_self)).1
    have h2 := allT_size l (fun x hx => h x (List.mem_cons_of_mem _ hx))
    simp only [allT, ByteArray.size_append, List.length_cons, nl_size]
    omega
theorem all_eq : ∀ (l : List S29) (acc : ByteArray) (k : Nat), (∀ o ∈ l, Ok o) → acc.size + 201 * l.length ≤ 140737488355328 → report_All.l0 (k + 1) l acc = some (acc ++ allT l)
  | [], acc, k, _, _ => by rw [report_All.l0, allT, app_nil]
  | o :: l, acc, k, h, hs => by
    obtain ⟨h1, h2, _⟩ := lineT_spec o (h o List.mem_cons_self)
    simp only [List.length_cons] at hs
    rw [report_All.l0, h2 k, Option.bind_some, if_pos (by simp only [ByteArray.size_append, nl_size]; omega)]
    rw [all_eq l _ k (fun x hx => h x (List.mem_cons_of_mem _ hx)) (by simp only [ByteArray.size_append, nl_size]; omega), allT, ByteArray.append_assoc, ByteArray.append_assoc]
theorem all_ev (l : List S29) (h : ∀ o ∈ l, Ok o) (hl : l.length ≤ 1000) : Ev (fun k => report_All.f k l) (allT l) := by
  refine ev_some (fun k => ?_)
  show report_All.l0 (k + 1) l ⟨#[]⟩ = _
  rw [all_eq l _ k h (by show (0 : Nat) + _ ≤ _; omega), nil_app]
theorem drop_out {l : List S29} {i : Nat} (h : i < l.length) : l.drop i = rd_T29 l (i : Int) :: l.drop (i + 1) := all_drop l i h
theorem rd_mem {l : List S29} {i : Nat} (h : i < l.length) : rd_T29 l (i : Int) ∈ l := by
  have := all_drop l i h
  exact List.mem_of_mem_drop (i := i) (by rw [this]; exact List.mem_cons_self)
theorem lines_ev (l : List S29) (h : ∀ o ∈ l, Ok o) (hl : l.length ≤ 1000) : ∀ (n i : Nat) (acc : ByteArray), i + n = l.length → acc.size ≤ 201 * i → Ev (fun k => quorumiteref25_Lines.l0 k l acc (i : Int)) (acc ++ allT (l.drop i)) := by
  intro n
  induction n with
  | zero =>
    intro i acc hi ha
    refine ev_some (fun k => ?_)
    simp only [quorumiteref25_Lines.l0]
    rw [if_neg (by omega), List.drop_eq_nil_of_le (by omega), allT, app_nil]
  | succ n ih =>
    intro i acc hi ha
    obtain ⟨h1, _, h3⟩ := lineT_spec _ (h _ (rd_mem (l := l) (i := i) (by omega)))
    have e : wrap64 ((i : Int) + 1) = ((i + 1 : Nat) : Int) := by rw [w64 (by omega) (by omega)]; rfl
    refine ev_step (f := fun k => (quorumiteref25_Line.f k ((rd_T29 l (i : Int)).f0) ((rd_T29 l (i : Int)).f1) ((rd_T29 l (i : Int)).f2.f0) ((rd_T29 l (i : Int)).f2.f1) ((rd_T29 l (i : Int)).f2.f2) ((rd_T29 l (i : Int)).f2.f3) ((rd_T29 l (i : Int)).f2.f4.f0) ((rd_T29 l (i : Int)).f2.f4.f1) ((rd_T29 l (i : Int)).f2.f4.f2) ((rd_T29 l (i : Int)).f2.f4.f3)).bind fun t184 => (if acc.size + t184.size ≤ 9223372036854775807 then (if (acc ++ t184).size + 1 ≤ 9223372036854775807 then (quorumiteref25_Lines.l0 k l ((acc ++ t184) ++ (⟨#[10]⟩ : ByteArray)) (wrap64 ((i : Int) + 1))) else (none)) else (none))) (fun k => ?_) ?_
    · simp only [quorumiteref25_Lines.l0]
      rw [if_pos (by omega), if_pos (by omega)]
    · refine Ev.bind h3 (ev_pos (by omega) (ev_pos (by simp only [ByteArray.size_append]; omega) ?_))
      rw [e, all_drop l i (by omega), allT, ByteArray.append_assoc, ← ByteArray.append_assoc, ← ByteArray.append_assoc]
      have := ih (i + 1) (acc ++ lineT (rd_T29 l (i : Int)) ++ ⟨#[10]⟩) (by omega) (by
        simp only [ByteArray.size_append]
        have : (⟨#[10]⟩ : ByteArray).size = 1 := rfl
        omega)
      simpa only [ByteArray.append_assoc] using this

/-! counts -/
def rfs (o : S29) : Bool := o.f0 == 2 && o.f1 != 0
def hld (o : S29) : Bool := o.f0 == 6 && o.f1 == 0 && o.f2.f3
def dcd (o : S29) : Bool := o.f0 == 6 && o.f1 == 0 && !o.f2.f3
theorem cnt_step (p : S29 → Bool) (o : S29) (l : List S29) : (((o :: l).countP p : Nat) : Int) = (if p o then 1 else 0) + ((l.countP p : Nat) : Int) := by
  rw [List.countP_cons]
  split <;> omega
theorem counts_ev (l : List S29) (hl : l.length ≤ 1000) : ∀ (n i : Nat) (x y z : Int), i + n = l.length → 0 ≤ x → x ≤ i → 0 ≤ y → y ≤ i → 0 ≤ z → z ≤ i →
    Ev (fun k => report_Counts.l0 k x y z l (l.length : Int) (i : Int)) (x + (((l.drop i).countP dcd : Nat) : Int), y + (((l.drop i).countP hld : Nat) : Int), z + (((l.drop i).countP rfs : Nat) : Int)) := by
  intro n
  induction n with
  | zero =>
    intro i x y z hi _ _ _ _ _ _
    refine ev_some (fun k => ?_)
    simp only [report_Counts.l0]
    rw [if_neg (by omega), List.drop_eq_nil_of_le (by omega)]
    simp
  | succ n ih =>
    intro i x y z hi x0 x1 y0 y1 z0 z1
    have e : wrap64 ((i : Int) + 1) = ((i + 1 : Nat) : Int) := by rw [w64 (by omega) (by omega)]; rfl
    have ex : wrap64 (x + 1) = x + 1 := w64 (by omega) (by omega)
    have ey : wrap64 (y + 1) = y + 1 := w64 (by omega) (by omega)
    have ez : wrap64 (z + 1) = z + 1 := w64 (by omega) (by omega)
    rw [all_drop l i (by omega), cnt_step, cnt_step, cnt_step]
    generalize ho : rd_T29 l (i : Int) = o
    have hA : ∀ (b : Bool), Ev (fun k => report_Counts.l0 k (if o.f0 = 6 ∧ o.f1 = 0 ∧ o.f2.f3 = false then x + 1 else x) (if o.f0 = 6 ∧ o.f1 = 0 ∧ o.f2.f3 = true then y + 1 else y) z l (l.length : Int) (wrap64 ((i : Int) + 1)))
        ((if o.f0 = 6 ∧ o.f1 = 0 ∧ o.f2.f3 = false then x + 1 else x) + (((l.drop (i + 1)).countP dcd : Nat) : Int), (if o.f0 = 6 ∧ o.f1 = 0 ∧ o.f2.f3 = true then y + 1 else y) + (((l.drop (i + 1)).countP hld : Nat) : Int), z + (((l.drop (i + 1)).countP rfs : Nat) : Int)) := by
      intro _
      rw [e]
      exact ih (i + 1) _ _ _ (by omega) (by split <;> omega) (by split <;> omega) (by split <;> omega) (by split <;> omega) (by omega) (by omega)
    have hR : Ev (fun k => report_Counts.l0 k x y (z + 1) l (l.length : Int) (wrap64 ((i : Int) + 1)))
        (x + (((l.drop (i + 1)).countP dcd : Nat) : Int), y + (((l.drop (i + 1)).countP hld : Nat) : Int), z + 1 + (((l.drop (i + 1)).countP rfs : Nat) : Int)) := by
      rw [e]
      exact ih (i + 1) _ _ _ (by omega) (by omega) (by omega) (by omega) (by omega) (by omega) (by omega)
    by_cases h2 : o.f0 = 2
    · by_cases hc : o.f1 = 0
      · refine ev_step (f := fun k => report_Counts.j1 k x y z l (l.length : Int) (i : Int) false o.f0 o.f1 o.f2.f0 o.f2.f1 o.f2.f2 o.f2.f3 o.f2.f4.f0 o.f2.f4.f1 o.f2.f4.f2 o.f2.f4.f3) (fun k => ?_) ?_
        · simp only [report_Counts.l0, ho]
          rw [if_pos (by omega), if_pos (by omega), if_pos (by omega), if_pos h2, show (o.f1 != 0) = false from bne_eq_false_iff_eq.2 hc]
        refine ev_step (f := fun k => report_Counts.j2 k x y z l (l.length : Int) (i : Int) true o.f0 o.f1 o.f2.f0 o.f2.f1 o.f2.f2 o.f2.f3 o.f2.f4.f0 o.f2.f4.f1 o.f2.f4.f2 o.f2.f4.f3) (fun k => ?_) ?_
        · simp only [report_Counts.j1]
          rw [if_neg (by decide), if_neg (by omega)]
        refine ev_step (f := fun k => report_Counts.l0 k x y z l (l.length : Int) (wrap64 ((i : Int) + 1))) (fun k => ?_) ?_
        · simp only [report_Counts.j2]
          rw [if_pos trivial]
        have := hA true
        simp only [h2, hc] at this
        simpa [dcd, hld, rfs, h2, hc] using this
      · refine ev_step (f := fun k => report_Counts.j1 k x y z l (l.length : Int) (i : Int) true o.f0 o.f1 o.f2.f0 o.f2.f1 o.f2.f2 o.f2.f3 o.f2.f4.f0 o.f2.f4.f1 o.f2.f4.f2 o.f2.f4.f3) (fun k => ?_) ?_
        · simp only [report_Counts.l0, ho]
          rw [if_pos (by omega), if_pos (by omega), if_pos (by omega), if_pos h2, show (o.f1 != 0) = true from bne_iff_ne.2 hc]
        refine ev_step (f := fun k => report_Counts.l0 k x y (z + 1) l (l.length : Int) (wrap64 ((i : Int) + 1))) (fun k => ?_) ?_
        · simp only [report_Counts.j1]
          rw [if_pos trivial, ez]
        have e1 : dcd o = false := by simp [dcd, h2]
        have e2 : hld o = false := by simp [hld, h2]
        have e3 : rfs o = true := by simp [rfs, h2, hc]
        rw [e1, e2, e3]
        simpa [Int.add_assoc] using hR
    · refine ev_step (f := fun k => report_Counts.j1 k x y z l (l.length : Int) (i : Int) false o.f0 o.f1 o.f2.f0 o.f2.f1 o.f2.f2 o.f2.f3 o.f2.f4.f0 o.f2.f4.f1 o.f2.f4.f2 o.f2.f4.f3) (fun k => ?_) ?_
      · simp only [report_Counts.l0, ho]
        rw [if_pos (by omega), if_pos (by omega), if_pos (by omega), if_neg h2]
      have e3 : rfs o = false := by simp [rfs, h2]
      by_cases h6 : o.f0 = 6 ∧ o.f1 = 0
      · obtain ⟨h6, hc⟩ := h6
        refine ev_step (f := fun k => report_Counts.j2 k x y z l (l.length : Int) (i : Int) false o.f0 o.f1 o.f2.f0 o.f2.f1 o.f2.f2 o.f2.f3 o.f2.f4.f0 o.f2.f4.f1 o.f2.f4.f2 o.f2.f4.f3) (fun k => ?_) ?_
        · simp only [report_Counts.j1]
          rw [if_neg (by decide), if_pos h6, show (o.f1 != 0) = false from bne_eq_false_iff_eq.2 hc]
        have := hA true
        cases hh : o.f2.f3 with
        | true =>
          refine ev_step (f := fun k => report_Counts.l0 k x (y + 1) z l (l.length : Int) (wrap64 ((i : Int) + 1))) (fun k => ?_) ?_
          · simp only [report_Counts.j2]
            rw [if_neg (by decide), if_pos trivial, ey]
          simp only [h6, hc, hh] at this
          have e1 : dcd o = false := by simp [dcd, hh]
          have e2 : hld o = true := by simp [hld, h6, hc, hh]
          rw [e1, e2, e3]
          simpa [Int.add_assoc] using this
        | false =>
          refine ev_step (f := fun k => report_Counts.l0 k (x + 1) y z l (l.length : Int) (wrap64 ((i : Int) + 1))) (fun k => ?_) ?_
          · simp only [report_Counts.j2]
            rw [if_neg (by decide), if_neg (by decide), ex]
          simp only [h6, hc, hh] at this
          have e1 : dcd o = true := by simp [dcd, h6, hc, hh]
          have e2 : hld o = false := by simp [hld, hh]
          rw [e1, e2, e3]
          simpa [Int.add_assoc] using this
      · have e1 : dcd o = false := by
          simp only [dcd]
          by_cases q : o.f0 = 6
          · have : o.f1 ≠ 0 := fun e => h6 ⟨q, e⟩
            simp [this]
          · simp [q]
        have e2 : hld o = false := by
          simp only [hld]
          by_cases q : o.f0 = 6
          · have : o.f1 ≠ 0 := fun e => h6 ⟨q, e⟩
            simp [this]
          · simp [q]
        refine ev_step (f := fun k => report_Counts.j2 k x y z l (l.length : Int) (i : Int) true o.f0 o.f1 o.f2.f0 o.f2.f1 o.f2.f2 o.f2.f3 o.f2.f4.f0 o.f2.f4.f1 o.f2.f4.f2 o.f2.f4.f3) (fun k => ?_) ?_
        · simp only [report_Counts.j1]
          rw [if_neg (by decide)]
          by_cases q : o.f0 = 6
          · have : o.f1 ≠ 0 := fun e => h6 ⟨q, e⟩
            rw [if_pos q, show (o.f1 != 0) = true from bne_iff_ne.2 this]
          · rw [if_neg q]
        refine ev_step (f := fun k => report_Counts.l0 k x y z l (l.length : Int) (wrap64 ((i : Int) + 1))) (fun k => ?_) ?_
        · simp only [report_Counts.j2]
          rw [if_pos trivial]
        have := hA true
        rw [if_neg (fun q => h6 ⟨q.1, q.2.1⟩), if_neg (fun q => h6 ⟨q.1, q.2.1⟩)] at this
        rw [e1, e2, e3]
        simpa using this
theorem countsf_ev (l : List S29) (hl : l.length ≤ 1000) : Ev (fun k => report_Counts.f k l) (((l.countP dcd : Nat) : Int), ((l.countP hld : Nat) : Int), ((l.countP rfs : Nat) : Int)) := by
  have := counts_ev l hl l.length 0 0 0 0 (by omega) (by omega) (by omega) (by omega) (by omega) (by omega) (by omega)
  simp only [List.drop_zero, Int.zero_add] at this
  exact this
end Go.Proofs.YtjcjibghnpjegaaDoor.Rep
