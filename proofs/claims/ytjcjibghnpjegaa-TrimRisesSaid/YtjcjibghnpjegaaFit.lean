/- What the printed function fit of the laws of chapter 10 comes to: the first numbers of a row, each made one that may be. Condition: the row is shorter than 2^63 - 1, at most 2^43 are taken. -/
import Derived.Test.YtjcjibghnpjegaaPr31
import Derived.Test.YtjcjibghnpjegaaTri
namespace Go.Proofs.Ytjcjibghnpjegaa.Fit
open Go.RowKit Go.Proofs.Ytjcjibghnpjegaa.Pr Go.Proofs.Ytjcjibghnpjegaa.Srt Go.Proofs.Ytjcjibghnpjegaa.Ord Go.Proofs.Ytjcjibghnpjegaa.Tri Go.Proofs.YtjcjibghnpjegaaW.PrintWords Go.Proofs.YtjcjibghnpjegaaW.PrintLast

def fitl (l : List Int) (n : Nat) : List Int := (l.take n).map fitv
theorem fitl_length (l : List Int) (n : Nat) : (fitl l n).length ≤ n := by
  unfold fitl; rw [List.length_map, List.length_take]; omega
theorem fitl_mem {l : List Int} {n : Nat} {x : Int} (h : x ∈ fitl l n) : 0 ≤ x ∧ x ≤ 1099511627776 := by
  unfold fitl at h
  obtain ⟨y, _, rfl⟩ := List.mem_map.1 h
  exact fitv_ok y
theorem fit_loop (l : List Int) (n : Nat) (hL : l.length < 9223372036854775807) (hn : n ≤ 1000) : ∀ (d i : Nat) (m : List Int), i + d = min l.length n → m = ((l.take i).map fitv) →
    Ev (fun k => quorumitelaw10_fit.l0 k l (n : Int) m (i : Int)) (fitl l n) := by
  intro d
  induction d with
  | zero =>
    intro i m hi hm
    have he : m = fitl l n := by
      rw [hm]; unfold fitl
      rw [show i = min l.length n by omega]
      rcases Nat.le_total l.length n with h | h
      · rw [Nat.min_eq_left h, List.take_of_length_le (Nat.le_refl _), List.take_of_length_le h]
      · rw [Nat.min_eq_right h]
    rw [he]
    refine ev_step (f := fun k => some (fitl l n)) (fun k => ?_) (Ev.now _)
    simp only [quorumitelaw10_fit.l0]
    by_cases h : (i : Int) < l.length
    · rw [if_pos h, if_neg (by omega)]
    · rw [if_neg h]
  | succ d ih =>
    intro i m hi hm
    have hw : wrap64 ((i : Int) + 1) = ((i + 1 : Nat) : Int) := by rw [w64 (by omega) (by omega)]; rfl
    have hml : m.length ≤ 1000 := by rw [hm, List.length_map, List.length_take]; omega
    have hlt : i < l.length := by omega
    refine ev_step (fun k => ?_) (ih (i + 1) (m ++ [fitv (l.getD i 0)]) (by omega) ?_)
    · simp only [quorumitelaw10_fit.l0]
      rw [if_pos (by omega), if_pos (by omega), if_pos (by omega), if_pos (by omega), rd_nat, hw]
      rfl
    · rw [hm, List.take_succ_eq_append_getElem hlt, List.map_append, getD_el hlt]; rfl

theorem fit_ev (l : List Int) (n : Nat) (hL : l.length < 9223372036854775807) (hn : n ≤ 1000) : Ev (fun k => quorumitelaw10_fit.f k l (n : Int)) (fitl l n) := by
  unfold quorumitelaw10_fit.f
  exact fit_loop l n hL hn _ 0 [] (Nat.zero_add _) rfl
theorem fit_may {l : List Int} {n : Nat} (hn : n ≤ 1000) : mayb (fitl l n) = true := by
  rw [mayb_iff]
  have := fitl_length l n
  exact ⟨by omega, fun x hx => fitl_mem hx⟩
end Go.Proofs.Ytjcjibghnpjegaa.Fit
