/- ScoreProbe's epochs in plain words. -/
import Derived.Test.YtjcjibghnpjegaaSB
namespace Go.Proofs.Ytjcjibghnpjegaa.Sc
open Go.RowKit Go.Proofs.Ytjcjibghnpjegaa.Pr Go.Proofs.YtjcjibghnpjegaaW.PrintWords Go.Proofs.YtjcjibghnpjegaaW.PrintLast Go.Proofs.YtjcjibghnpjegaaW.PrintMore
set_option linter.unusedVariables false
set_option linter.unusedSimpArgs false
theorem small (x m : Int) (hm : 0 < m ∧ m ≤ 2000000000000) : 0 ≤ (IntKind.u64.wrap x).tmod m ∧ (IntKind.u64.wrap x).tmod m < m := by
  have hx := Ord.u64_range x
  rw [Int.tmod_eq_emod_of_nonneg hx.1]
  exact ⟨Int.emod_nonneg _ (by omega), Int.emod_lt_of_pos _ (by omega)⟩
theorem w64' {x : Int} (h : -9223372036854775808 ≤ x ∧ x ≤ 9223372036854775807) : wrap64 x = x := by unfold wrap64; omega
theorem one_plus (x c m : Int) (hc : 0 ≤ c ∧ c ≤ 1000) (hm : 0 < m ∧ m ≤ 1000) : ∃ n : Nat, wrap64 (c + wrap64 ((IntKind.u64.wrap x).tmod m)) = (n : Int) ∧ c ≤ (n : Int) ∧ (n : Int) < c + m := by
  have h := small x m (by omega)
  rw [w64' (x := (IntKind.u64.wrap x).tmod m) (by omega), w64' (by omega)]
  exact ⟨(c + (IntKind.u64.wrap x).tmod m).toNat, by omega, by omega, by omega⟩
def xsP : List S49 := [smp 0 100, smp 1 100, smp 2 500]
theorem okP : okX xsP := ⟨by decide, by decide, by decide⟩
theorem ofP : quorumitelaw12_of.f 4 [100, 100, 500] = some xsP := by kernel_rfl
theorem medP : Tri.medOf (xsP.map (·.f3)) = (100, true) := med_sorted (by decide) (by decide) (by decide) (by decide) (by decide)
theorem outs3 (s : Std) (h : s.o = false) : ∀ x ∈ xsP, outOf [o0, o0, s] x.f0 = false := by
  intro x hx
  simp only [xsP, List.mem_cons, List.not_mem_nil, or_false] at hx
  rcases hx with rfl | rfl | rfl
  · rfl
  · rfl
  · show s.o = false; exact h
theorem st0 : struckF 5 100 xsP (fun _ => false) 0 = false := by kernel_rfl
theorem st1 : struckF 5 100 xsP (fun _ => false) 1 = false := by kernel_rfl
theorem st2 : struckF 5 100 xsP (fun _ => false) 2 = true := by kernel_rfl
theorem se0 : sentF xsP (fun _ => false) 0 = true := by kernel_rfl
theorem se1 : sentF xsP (fun _ => false) 1 = true := by kernel_rfl
theorem end0 (st pr : Int) : endS st pr o0 false true = (o0, false) := by
  simp [endS, o0, wrap64]; decide
theorem end0' (st pr : Int) : endS st pr o0 false false = (o0, false) := by
  simp [endS, o0]
theorem probe1a (a bb k : Int) (h : 1 ≤ a ∧ a ≤ 5) (hk : k + 1 = a) : closeS a bb 5 3 [xsP] [o0, o0, ⟨k, 0, false⟩] = ([o0, o0, ⟨0, 0, true⟩], [2]) := by
  rw [close_one (kept_all (outs3 _ rfl)) medP (by decide) (by decide)]
  simp only [endL, Int.natCast_zero, Nat.zero_add, Int.natCast_one, Nat.reduceAdd, st0, st1, se0, se1, end0, show ((2 : Nat) : Int) = 2 from rfl, st2]
  have : endS a bb ⟨k, 0, false⟩ true (sentF xsP (fun _ => false) 2) = (⟨0, 0, true⟩, true) := by
    unfold endS
    rw [if_neg (by simp), if_pos rfl, if_pos (by show a ≤ wrap64 (k + 1); rw [w64' (by omega)]; omega)]
  rw [this]
  rfl
theorem probe1b (a bb k : Int) (h : 1 ≤ a ∧ a ≤ 5) (hk : 0 ≤ k ∧ k + 1 < a) : closeS a bb 5 3 [xsP] [o0, o0, ⟨k, 0, false⟩] = ([o0, o0, ⟨k + 1, 0, false⟩], []) := by
  rw [close_one (kept_all (outs3 _ rfl)) medP (by decide) (by decide)]
  simp only [endL, Int.natCast_zero, Nat.zero_add, Int.natCast_one, Nat.reduceAdd, st0, st1, se0, se1, end0, show ((2 : Nat) : Int) = 2 from rfl, st2]
  have : endS a bb ⟨k, 0, false⟩ true (sentF xsP (fun _ => false) 2) = (⟨k + 1, 0, false⟩, false) := by
    unfold endS
    rw [if_neg (by simp), if_pos rfl, if_neg (by show ¬ a ≤ wrap64 (k + 1); rw [w64' (by omega)]; omega), w64' (by show _ ≤ k + 1 ∧ k + 1 ≤ _; omega)]
  rw [this]
  rfl
theorem kept3 (c : Int) : kept [o0, o0, ⟨0, c, true⟩] xsP = [smp 0 100, smp 1 100] := rfl
theorem probe2a (a bb c : Int) (h : bb ≤ 20) (hc : 0 ≤ c ∧ c + 1 = bb) : closeS a bb 5 3 [xsP] [o0, o0, ⟨0, c, true⟩] = ([o0, o0, o0], []) := by
  rw [close_few (by rw [kept3]; decide)]
  simp only [endL, end0']
  have : endS a bb ⟨0, c, true⟩ false false = (o0, false) := by
    unfold endS
    rw [if_pos rfl, if_pos (by show bb ≤ wrap64 (c + 1); rw [w64' (by omega)]; omega)]
    rfl
  rw [this]
  rfl
theorem probe2b (a bb c : Int) (h : bb ≤ 20) (hc : 0 ≤ c ∧ c + 1 < bb) : closeS a bb 5 3 [xsP] [o0, o0, ⟨0, c, true⟩] = ([o0, o0, ⟨0, c + 1, true⟩], []) := by
  rw [close_few (by rw [kept3]; decide)]
  simp only [endL, end0']
  have : endS a bb ⟨0, c, true⟩ false false = (⟨0, c + 1, true⟩, false) := by
    unfold endS
    rw [if_pos rfl, if_neg (by show ¬ bb ≤ wrap64 (c + 1); rw [w64' (by omega)]; omega), w64' (by show _ ≤ c + 1 ∧ c + 1 ≤ _; omega)]
  rw [this]
  rfl
end Go.Proofs.Ytjcjibghnpjegaa.Sc
