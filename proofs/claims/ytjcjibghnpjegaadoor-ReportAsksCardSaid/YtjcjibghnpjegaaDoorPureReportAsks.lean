/- ReportAsks' plain law: it comes to true for every code and all rows of outs whose numbers are within their types. -/
import Derived.Test.YtjcjibghnpjegaaDoorRep2
import Derived.Test.YtjcjibghnpjegaaDoorPd35
namespace Go.Proofs.YtjcjibghnpjegaaDoor.Rep
open Go.RowKit Go.Proofs.YtjcjibghnpjegaaDoor.Pd Go.Proofs.YtjcjibghnpjegaaDoorW.PrintWords Go.Proofs.YtjcjibghnpjegaaDoorW.PrintLast
theorem linesf_ev (l : List S29) (h : ∀ o ∈ l, Ok o) (hl : l.length ≤ 1000) : Ev (fun k => quorumiteref25_Lines.f k l) (allT l) := by
  have := lines_ev l h hl l.length 0 ⟨#[]⟩ (by omega) (by decide)
  rw [List.drop_zero, nil_app] at this
  exact this
theorem step64 (x : Int) (i L : Nat) {n : Nat} (ll : L ≤ 30) (hi : i + n = L) (x0 : 0 ≤ x) (x1 : x ≤ i) : wrap64 (x + 1) = x + 1 := w64 (by omega) (by omega)
theorem asks_loop (c : Int) (l : List S29) (hl : ∀ o ∈ l, Ok o) (ll : l.length ≤ 30) : ∀ (n i : Nat) (x y z : Int), i + n = l.length → 0 ≤ x → x ≤ i → 0 ≤ y → y ≤ i → 0 ≤ z → z ≤ i →
    x + (((l.drop i).countP dcd : Nat) : Int) = ((l.countP dcd : Nat) : Int) → y + (((l.drop i).countP hld : Nat) : Int) = ((l.countP hld : Nat) : Int) → z + (((l.drop i).countP rfs : Nat) : Int) = ((l.countP rfs : Nat) : Int) →
    Ev (fun k => quorumitelaw27_ReportAsks.l0 k c l x y z (i : Int)) true := by
  intro n
  induction n with
  | zero =>
    intro i x y z hi _ _ _ _ _ _ cx cy cz
    rw [List.drop_eq_nil_of_le (by omega)] at cx cy cz
    simp only [List.countP_nil] at cx cy cz
    obtain ⟨t, t1, t2, _⟩ := code_both c
    refine ev_step (f := fun k => ((report_Counts.f k l).bind fun bt197 => ((quorumitelaw27_told.f k).bind fun t200 => (if t200 = true then ((report_Code.f c).bind fun t201 => ((quorumiteref25_Word.f c).bind fun t202 => (if t201.toList = t202.toList then ((report_All.f k l).bind fun t203 => ((quorumiteref25_Lines.f k l).bind fun t204 => (if t203.toList = t204.toList then (if bt197.1 = x then (if bt197.2.1 = y then (some (bt197.2.2 == z)) else (some false)) else (some false)) else (some false)))) else (some false)))) else (some false))))) (fun k => ?_) ?_
    · simp only [quorumitelaw27_ReportAsks.l0]
      rw [if_neg (by omega)]
    · rw [t1, t2]
      refine Ev.bind (countsf_ev l (by omega)) (Ev.bind told_ev (ev_pos rfl (Ev.bind (Ev.now t) (Ev.bind (Ev.now t) (ev_pos rfl (Ev.bind (all_ev l hl (by omega)) (Ev.bind (linesf_ev l hl (by omega)) (ev_pos rfl (ev_pos ?_ (ev_pos ?_ ?_)))))))))) 
      · dsimp only; omega
      · dsimp only; omega
      · refine Ev.congr (fun k => ?_) (Ev.now true)
        dsimp only
        congr 1
        exact beq_iff_eq.2 (by omega)
  | succ n ih =>
    intro i x y z hi x0 x1 y0 y1 z0 z1 cx cy cz
    obtain ⟨_, h2, h3⟩ := lineT_spec _ (hl _ (rd_mem (l := l) (i := i) (by omega)))
    have e : wrap64 ((i : Int) + 1) = ((i + 1 : Nat) : Int) := by rw [w64 (by omega) (by omega)]; rfl
    have ex : wrap64 (x + 1) = x + 1 := step64 x i l.length ll hi x0 x1
    have ey : wrap64 (y + 1) = y + 1 := step64 y i l.length ll hi y0 y1
    have ez : wrap64 (z + 1) = z + 1 := step64 z i l.length ll hi z0 z1
    rw [all_drop l i (by omega), cnt_step] at cx cy cz
    generalize ho : rd_T29 l (i : Int) = o at cx cy cz h2 h3
    refine ev_step (f := fun k => (report_Line.f k o.f0 o.f1 o.f2.f0 o.f2.f1 o.f2.f2 o.f2.f3 o.f2.f4.f0 o.f2.f4.f1 o.f2.f4.f2 o.f2.f4.f3).bind fun t187 => ((quorumiteref25_Line.f k o.f0 o.f1 o.f2.f0 o.f2.f1 o.f2.f2 o.f2.f3 o.f2.f4.f0 o.f2.f4.f1 o.f2.f4.f2 o.f2.f4.f3).bind fun t189 => (if t187.toList = t189.toList then (if o.f0 = 6 then (if o.f1 = 0 then (quorumitelaw27_ReportAsks.j1 k c l x y z (i : Int) o.f2.f3) else (quorumitelaw27_ReportAsks.j1 k c l x y z (i : Int) false)) else (quorumitelaw27_ReportAsks.j1 k c l x y z (i : Int) false)) else (some false)))) (fun k => ?_) ?_
    · simp only [quorumitelaw27_ReportAsks.l0, ho]
      rw [if_pos (by omega), if_pos (by omega)]
    refine Ev.bind (ev_some h2) (Ev.bind h3 (ev_pos rfl ?_))
    have J1 : ∀ b, (b = false) → Ev (fun k => if o.f0 = 6 then quorumitelaw27_ReportAsks.j2 k c l x y z (i : Int) (o.f1 == 0) else quorumitelaw27_ReportAsks.j2 k c l x y z (i : Int) false) true → Ev (fun k => quorumitelaw27_ReportAsks.j1 k c l x y z (i : Int) b) true := by
      intro b hb H
      subst hb
      refine ev_step (fun k => ?_) H
      simp only [quorumitelaw27_ReportAsks.j1, ho]
      rw [if_neg (by decide), if_pos (by omega), if_pos (by omega)]
    by_cases h6 : o.f0 = 6
    · have er : rfs o = false := by simp [rfs, h6]
      rw [er] at cz
      refine ev_pos h6 ?_
      by_cases hc : o.f1 = 0
      · refine ev_pos hc ?_
        cases hh : o.f2.f3 with
        | true =>
          have e1 : dcd o = false := by simp [dcd, hh]
          have e2 : hld o = true := by simp [hld, h6, hc, hh]
          rw [e1] at cx
          rw [e2] at cy
          refine ev_step (f := fun k => quorumitelaw27_ReportAsks.l0 k c l x (y + 1) z ((i + 1 : Nat) : Int)) (fun k => ?_) ?_
          · simp only [quorumitelaw27_ReportAsks.j1]
            rw [if_pos trivial, ey, e]
          · exact ih (i + 1) _ _ _ (by omega) (by omega) (by omega) (by omega) (by omega) (by omega) (by omega) (by simpa using cx) (by simp only [if_pos] at cy; omega) (by simpa using cz)
        | false =>
          have e1 : dcd o = true := by simp [dcd, h6, hc, hh]
          have e2 : hld o = false := by simp [hld, hh]
          rw [e1] at cx
          rw [e2] at cy
          refine J1 _ rfl (ev_pos h6 ?_)
          refine ev_step (f := fun k => quorumitelaw27_ReportAsks.l0 k c l (x + 1) y z ((i + 1 : Nat) : Int)) (fun k => ?_) ?_
          · simp only [quorumitelaw27_ReportAsks.j2]
            rw [show (o.f1 == 0) = true from beq_iff_eq.2 hc, if_pos rfl, ex, e]
          · exact ih (i + 1) _ _ _ (by omega) (by omega) (by omega) (by omega) (by omega) (by omega) (by omega) (by simp only [if_pos] at cx; omega) (by simpa using cy) (by simpa using cz)
      · have e1 : dcd o = false := by simp [dcd, hc]
        have e2 : hld o = false := by simp [hld, hc]
        rw [e1] at cx
        rw [e2] at cy
        refine ev_neg hc (J1 _ rfl (ev_pos h6 ?_))
        refine ev_step (f := fun k => quorumitelaw27_ReportAsks.l0 k c l x y z ((i + 1 : Nat) : Int)) (fun k => ?_) ?_
        · simp only [quorumitelaw27_ReportAsks.j2, ho]
          rw [show (o.f1 == 0) = false from beq_eq_false_iff_ne.2 hc, if_neg (by decide), if_pos (by omega), if_pos (by omega), if_neg (by omega), e]
        · exact ih (i + 1) _ _ _ (by omega) (by omega) (by omega) (by omega) (by omega) (by omega) (by omega) (by simpa using cx) (by simpa using cy) (by simpa using cz)
    · have e1 : dcd o = false := by simp [dcd, h6]
      have e2 : hld o = false := by simp [hld, h6]
      rw [e1] at cx
      rw [e2] at cy
      refine ev_neg h6 (J1 _ rfl (ev_neg h6 ?_))
      by_cases h2' : o.f0 = 2
      · by_cases hc : o.f1 = 0
        · have er : rfs o = false := by simp [rfs, hc]
          rw [er] at cz
          refine ev_step (f := fun k => quorumitelaw27_ReportAsks.l0 k c l x y z ((i + 1 : Nat) : Int)) (fun k => ?_) ?_
          · simp only [quorumitelaw27_ReportAsks.j2, ho]
            rw [if_neg (by decide), if_pos (by omega), if_pos (by omega), if_pos h2', if_pos hc, e]
          · exact ih (i + 1) _ _ _ (by omega) (by omega) (by omega) (by omega) (by omega) (by omega) (by omega) (by simpa using cx) (by simpa using cy) (by simpa using cz)
        · have er : rfs o = true := by simp [rfs, h2', hc]
          rw [er] at cz
          refine ev_step (f := fun k => quorumitelaw27_ReportAsks.l0 k c l x y (z + 1) ((i + 1 : Nat) : Int)) (fun k => ?_) ?_
          · simp only [quorumitelaw27_ReportAsks.j2, ho]
            rw [if_neg (by decide), if_pos (by omega), if_pos (by omega), if_pos h2', if_neg hc, ez, e]
          · exact ih (i + 1) _ _ _ (by omega) (by omega) (by omega) (by omega) (by omega) (by omega) (by omega) (by simpa using cx) (by simpa using cy) (by simp only [if_pos] at cz; omega)
      · have er : rfs o = false := by simp [rfs, h2']
        rw [er] at cz
        refine ev_step (f := fun k => quorumitelaw27_ReportAsks.l0 k c l x y z ((i + 1 : Nat) : Int)) (fun k => ?_) ?_
        · simp only [quorumitelaw27_ReportAsks.j2, ho]
          rw [if_neg (by decide), if_pos (by omega), if_pos (by omega), if_neg h2', e]
        · exact ih (i + 1) _ _ _ (by omega) (by omega) (by omega) (by omega) (by omega) (by omega) (by omega) (by simpa using cx) (by simpa using cy) (by simpa using cz)
theorem asks_true (c : Int) (l : List S29) (hl : ∀ o ∈ l, Ok o) : Ev (fun k => quorumitelaw27_ReportAsks.f k c l) true := by
  by_cases h1 : (l.length : Int) > 30
  · exact Ev.congr (fun k => by simp only [quorumitelaw27_ReportAsks.f]; rw [if_pos h1]) (Ev.bind told_ev (Ev.now true))
  · refine Ev.congr (f := fun k => quorumitelaw27_ReportAsks.l0 k c l 0 0 0 0) (fun k => by simp only [quorumitelaw27_ReportAsks.f]; rw [if_neg h1]) ?_
    exact asks_loop c l hl (by omega) l.length 0 0 0 0 (by omega) (by omega) (by omega) (by omega) (by omega) (by omega) (by omega) (by simp) (by simp) (by simp)
end Go.Proofs.YtjcjibghnpjegaaDoor.Rep
