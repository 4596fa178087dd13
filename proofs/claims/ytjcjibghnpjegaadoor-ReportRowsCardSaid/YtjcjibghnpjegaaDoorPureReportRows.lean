/- ReportRows' plain law: it comes to true for all rows of outs whose numbers are within their types. -/
import Derived.Test.YtjcjibghnpjegaaDoorRep2
import Derived.Test.YtjcjibghnpjegaaDoorPd37
namespace Go.Proofs.YtjcjibghnpjegaaDoor.Rep
open Go.RowKit Go.Proofs.YtjcjibghnpjegaaDoor.Pd Go.Proofs.YtjcjibghnpjegaaDoorW.PrintWords Go.Proofs.YtjcjibghnpjegaaDoorW.PrintLast
theorem rows_loop (l m a : List S29) (ea : a = l ++ m) (hl : ∀ o ∈ l, Ok o) (hm : ∀ o ∈ m, Ok o) (ll : l.length ≤ 15) (lm : m.length ≤ 15) : ∀ (n i : Nat) (acc : ByteArray), i + n = a.length → acc.size ≤ 201 * i → acc ++ allT (a.drop i) = allT a →
    Ev (fun k => quorumitelaw27_ReportRows.l0 k l m a acc (i : Int)) true := by
  have ha : ∀ o ∈ a, Ok o := by
    intro o ho
    rw [ea, List.mem_append] at ho
    exact ho.elim (hl o) (hm o)
  have la : a.length ≤ 30 := by rw [ea, List.length_append]; omega
  intro n
  induction n with
  | zero =>
    intro i acc hi hs hT
    have hacc : acc = allT a := by
      rw [List.drop_eq_nil_of_le (by omega), allT, app_nil] at hT
      exact hT
    subst hacc
    refine ev_step (f := fun k => ((report_Counts.f k l).bind fun bt223 => ((report_Counts.f k m).bind fun bt226 => ((report_Counts.f k a).bind fun bt229 => ((quorumitelaw27_told.f k).bind fun t232 => (if t232 = true then ((report_All.f k a).bind fun t233 => (if t233.toList = (allT a).toList then ((report_All.f k a).bind fun t234 => ((report_All.f k l).bind fun t235 => ((report_All.f k m).bind fun t236 => (if t235.size + t236.size ≤ 9223372036854775807 then (if t234.toList = (t235 ++ t236).toList then (if bt229.1 = (wrap64 (bt223.1 + bt226.1)) then (if bt229.2.1 = (wrap64 (bt223.2.1 + bt226.2.1)) then (some (bt229.2.2 == (wrap64 (bt223.2.2 + bt226.2.2)))) else (some false)) else (some false)) else (some false)) else (none))))) else (some false))) else (some false))))))) (fun k => ?_) ?_
    · simp only [quorumitelaw27_ReportRows.l0]
      rw [if_neg (by omega)]
    · have eT : allT a = allT l ++ allT m := by rw [ea, allT_app]
      have z1 := allT_size l hl
      have z2 := allT_size m hm
      have cd : ((a.countP dcd : Nat) : Int) = ((l.countP dcd : Nat) : Int) + ((m.countP dcd : Nat) : Int) := by rw [ea, List.countP_append]; omega
      have ch : ((a.countP hld : Nat) : Int) = ((l.countP hld : Nat) : Int) + ((m.countP hld : Nat) : Int) := by rw [ea, List.countP_append]; omega
      have cr : ((a.countP rfs : Nat) : Int) = ((l.countP rfs : Nat) : Int) + ((m.countP rfs : Nat) : Int) := by rw [ea, List.countP_append]; omega
      have b1 := List.countP_le_length (p := dcd) (l := l)
      have b2 := List.countP_le_length (p := dcd) (l := m)
      have b3 := List.countP_le_length (p := hld) (l := l)
      have b4 := List.countP_le_length (p := hld) (l := m)
      have b5 := List.countP_le_length (p := rfs) (l := l)
      have b6 := List.countP_le_length (p := rfs) (l := m)
      refine Ev.bind (countsf_ev l (by omega)) (Ev.bind (countsf_ev m (by omega)) (Ev.bind (countsf_ev a (by omega)) (Ev.bind told_ev (ev_pos rfl (Ev.bind (all_ev a ha (by omega)) (ev_pos rfl (Ev.bind (all_ev a ha (by omega)) (Ev.bind (all_ev l hl (by omega)) (Ev.bind (all_ev m hm (by omega)) (ev_pos (by omega) (ev_pos (by rw [eT]) (ev_pos ?_ (ev_pos ?_ ?_)))))))))))))
      · dsimp only
        rw [w64 (by omega) (by omega)]; exact cd
      · dsimp only
        rw [w64 (by omega) (by omega)]; exact ch
      · refine Ev.congr (fun k => ?_) (Ev.now true)
        dsimp only
        congr 1
        rw [w64 (by omega) (by omega)]
        exact beq_iff_eq.2 cr
  | succ n ih =>
    intro i acc hi hs hT
    obtain ⟨h1, h2, _⟩ := lineT_spec _ (ha _ (rd_mem (l := a) (i := i) (by omega)))
    have e : wrap64 ((i : Int) + 1) = ((i + 1 : Nat) : Int) := by rw [w64 (by omega) (by omega)]; rfl
    refine ev_step (f := fun k => (report_Line.f k ((rd_T29 a (i : Int)).f0) ((rd_T29 a (i : Int)).f1) ((rd_T29 a (i : Int)).f2.f0) ((rd_T29 a (i : Int)).f2.f1) ((rd_T29 a (i : Int)).f2.f2) ((rd_T29 a (i : Int)).f2.f3) ((rd_T29 a (i : Int)).f2.f4.f0) ((rd_T29 a (i : Int)).f2.f4.f1) ((rd_T29 a (i : Int)).f2.f4.f2) ((rd_T29 a (i : Int)).f2.f4.f3)).bind fun t222 => (if acc.size + t222.size ≤ 9223372036854775807 then (if (acc ++ t222).size + 1 ≤ 9223372036854775807 then (quorumitelaw27_ReportRows.l0 k l m a ((acc ++ t222) ++ (⟨#[10]⟩ : ByteArray)) (wrap64 ((i : Int) + 1))) else (none)) else (none))) (fun k => ?_) ?_
    · simp only [quorumitelaw27_ReportRows.l0]
      rw [if_pos (by omega), if_pos (by omega)]
    · refine Ev.bind (ev_some h2) (ev_pos (by omega) (ev_pos (by simp only [ByteArray.size_append]; omega) ?_))
      rw [e]
      refine ih (i + 1) (acc ++ lineT (rd_T29 a (i : Int)) ++ ⟨#[10]⟩) (by omega) (by
        simp only [ByteArray.size_append]
        have : (⟨#[10]⟩ : ByteArray).size = 1 := rfl
        omega) ?_
      rw [all_drop a i (by omega), allT] at hT
      rw [← hT]
      simp only [ByteArray.append_assoc]
theorem rows_true (l m : List S29) (hl : ∀ o ∈ l, Ok o) (hm : ∀ o ∈ m, Ok o) : Ev (fun k => quorumitelaw27_ReportRows.f k l m) true := by
  have hT : ∀ b, Ev (fun k => quorumitelaw27_ReportRows.j0 k l m true) b → Ev (fun k => quorumitelaw27_ReportRows.j0 k l m true) b := fun _ h => h
  have ht : Ev (fun k => quorumitelaw27_ReportRows.j0 k l m true) true := by
    refine ev_step (f := fun k => (quorumitelaw27_told.f k).bind fun t211 => (some t211)) (fun k => ?_) (Ev.bind told_ev (Ev.now true))
    simp only [quorumitelaw27_ReportRows.j0]
    rw [if_pos trivial]
  by_cases h1 : (l.length : Int) > 15
  · exact Ev.congr (fun k => by simp only [quorumitelaw27_ReportRows.f]; rw [if_pos h1]) ht
  · by_cases h2 : (m.length : Int) > 15
    · exact Ev.congr (fun k => by simp only [quorumitelaw27_ReportRows.f]; rw [if_neg h1, decide_eq_true h2]) ht
    · refine Ev.congr (f := fun k => quorumitelaw27_ReportRows.j0 k l m false) (fun k => by simp only [quorumitelaw27_ReportRows.f]; rw [if_neg h1, decide_eq_false h2]) ?_
      refine ev_step (f := fun k => quorumitelaw27_ReportRows.l0 k l m (l ++ m) (⟨#[]⟩ : ByteArray) 0) (fun k => ?_) ?_
      · simp only [quorumitelaw27_ReportRows.j0]
        rw [if_neg (by decide), Option.bind_some, List.nil_append, List.length_nil, if_pos (by omega), Option.bind_some, if_pos (by omega)]
      · exact rows_loop l m (l ++ m) rfl hl hm (by omega) (by omega) (l ++ m).length 0 ⟨#[]⟩ (by omega) (by decide) (by rw [List.drop_zero, nil_app])
end Go.Proofs.YtjcjibghnpjegaaDoor.Rep
