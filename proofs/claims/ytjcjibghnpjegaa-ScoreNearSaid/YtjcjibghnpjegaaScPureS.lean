/- ScoreSteps' epochs in plain words; a sample's value written over. -/
import Derived.Test.YtjcjibghnpjegaaScPureP
import Derived.Test.YtjcjibghnpjegaaSA
namespace Go.Proofs.Ytjcjibghnpjegaa.Sc
open Go.RowKit Go.Proofs.Ytjcjibghnpjegaa.Pr Go.Proofs.YtjcjibghnpjegaaW.PrintWords Go.Proofs.YtjcjibghnpjegaaW.PrintLast Go.Proofs.YtjcjibghnpjegaaW.PrintMore
set_option linter.unusedVariables false
set_option linter.unusedSimpArgs false
theorem SW.set3 {w : World} {g : Nat} {xs : List S49} (h : SW w g xs) {i : Nat} {s : S49} (hs : xs[i]? = some s) (v : Int) : SW (w.setCell ⟨g, i * 4 + 3, none⟩ (.int .i64 v)) g (xs.set i ⟨s.f0, s.f1, s.f2, v⟩) := by
  have hi : i < xs.length := by
    rcases Nat.lt_or_ge i xs.length with q | q
    · exact q
    · rw [List.getElem?_eq_none q] at hs; cases hs
  refine ⟨?_, fun j => by simp [h.2]⟩
  have n1 : ∀ p q : Nat, p ≠ q → ∀ (W : World) (v : Value), (W.setCell ⟨g, p, none⟩ v).cell? ⟨g, q, none⟩ = W.cell? ⟨g, q, none⟩ := fun p q hpq W v => by
    rw [World.cell?_setCell_other]
    intro z; injection z; omega
  intro k t ht
  by_cases e : k = i
  · subst e
    obtain ⟨h0, h1, h2, h3⟩ := h.1 k s hs
    have ht' : (⟨s.f0, s.f1, s.f2, v⟩ : S49) = t := by simpa [hi] using ht
    subst ht'
    refine ⟨?_, ?_, ?_, by rw [World.cell?_setCell_same' _ _ _ (by rw [h3]; rfl)]⟩
    · rw [n1 _ _ (by omega), h0]
    · rw [n1 _ _ (by omega), h1]
    · rw [n1 _ _ (by omega), h2]
  · rw [List.getElem?_set_ne (Ne.symm e)] at ht
    obtain ⟨h0, h1, h2, h3⟩ := h.1 k t ht
    refine ⟨?_, ?_, ?_, ?_⟩
    · rw [n1 _ _ (by omega), h0]
    · rw [n1 _ _ (by omega), h1]
    · rw [n1 _ _ (by omega), h2]
    · rw [n1 _ _ (by omega), h3]
def xsF : List S49 := [smp 0 100, smp 1 100, smp 2 100, smp 3 100]
def xs111 : List S49 := [smp 0 100, smp 1 100, smp 2 100, smp 3 111]
def xs110 : List S49 := [smp 0 100, smp 1 100, smp 2 100, smp 3 110]
def xsN : List S49 := [smp 0 100, smp 1 100, smp 2 100]
theorem okF : okX xsF := ⟨by decide, by decide, by decide⟩
theorem ok111 : okX xs111 := ⟨by decide, by decide, by decide⟩
theorem ok110 : okX xs110 := ⟨by decide, by decide, by decide⟩
theorem okN : okX xsN := ⟨by decide, by decide, by decide⟩
theorem ofF : quorumitelaw12_of.f 5 [100, 100, 100, 100] = some xsF := by kernel_rfl
theorem med111 : Tri.medOf (xs111.map (·.f3)) = (100, true) := med_sorted (by decide) (by decide) (by decide) (by decide) (by decide)
theorem med110 : Tri.medOf (xs110.map (·.f3)) = (100, true) := med_sorted (by decide) (by decide) (by decide) (by decide) (by decide)
theorem medN : Tri.medOf (xsN.map (·.f3)) = (100, true) := med_sorted (by decide) (by decide) (by decide) (by decide) (by decide)
theorem outs4 (s : Std) (h : s.o = false) (v : Int) : ∀ x ∈ [smp 0 100, smp 1 100, smp 2 100, smp 3 v], outOf [o0, o0, o0, s] x.f0 = false := by
  intro x hx
  simp only [List.mem_cons, List.not_mem_nil, or_false] at hx
  rcases hx with rfl | rfl | rfl | rfl
  · rfl
  · rfl
  · rfl
  · show s.o = false; exact h
theorem outs4' (s : Std) : ∀ x ∈ xsN, outOf [o0, o0, o0, s] x.f0 = false := by
  intro x hx
  simp only [xsN, List.mem_cons, List.not_mem_nil, or_false] at hx
  rcases hx with rfl | rfl | rfl <;> rfl
theorem endL4 (st pr : Int) (fs ft : Int → Bool) (s : Std) (h0 : fs 0 = false ∧ ft 0 = true) (h1 : fs 1 = false ∧ ft 1 = true) (h2 : fs 2 = false ∧ ft 2 = true) :
    endL st pr fs ft 0 [o0, o0, o0, s] = ([o0, o0, o0, (endS st pr s (fs 3) (ft 3)).1], if (endS st pr s (fs 3) (ft 3)).2 = true then [3] else []) := by
  simp only [endL, Int.natCast_zero, Nat.zero_add, Int.natCast_one, Nat.reduceAdd, show ((2 : Nat) : Int) = 2 from rfl, show ((3 : Nat) : Int) = 3 from rfl, h0, h1, h2, end0]
  rfl
theorem step0a (k n : Int) (h : 0 ≤ n ∧ n + 1 ≤ 30 ∧ k ≤ n + 1) : closeS k 50 10 3 [xs111] [o0, o0, o0, ⟨n, 0, false⟩] = ([o0, o0, o0, ⟨0, 0, true⟩], [3]) := by
  rw [close_one (xs := xs111) (kept_all (outs4 _ rfl 111)) med111 (by decide) (by decide), endL4 _ _ _ _ _ (by constructor <;> kernel_rfl) (by constructor <;> kernel_rfl) (by constructor <;> kernel_rfl)]
  have : endS k 50 ⟨n, 0, false⟩ (struckF 10 100 xs111 (fun _ => false) 3) (sentF xs111 (fun _ => false) 3) = (⟨0, 0, true⟩, true) := by
    rw [show struckF 10 100 xs111 (fun _ => false) 3 = true by kernel_rfl]
    unfold endS
    rw [if_neg (by simp), if_pos rfl, if_pos (by show k ≤ wrap64 (n + 1); rw [w64' (by omega)]; omega)]
  rw [this]
  rfl
theorem step0b (k n : Int) (h : 0 ≤ n ∧ n + 1 < k ∧ k ≤ 30) : closeS k 50 10 3 [xs111] [o0, o0, o0, ⟨n, 0, false⟩] = ([o0, o0, o0, ⟨n + 1, 0, false⟩], []) := by
  rw [close_one (xs := xs111) (kept_all (outs4 _ rfl 111)) med111 (by decide) (by decide), endL4 _ _ _ _ _ (by constructor <;> kernel_rfl) (by constructor <;> kernel_rfl) (by constructor <;> kernel_rfl)]
  have : endS k 50 ⟨n, 0, false⟩ (struckF 10 100 xs111 (fun _ => false) 3) (sentF xs111 (fun _ => false) 3) = (⟨n + 1, 0, false⟩, false) := by
    rw [show struckF 10 100 xs111 (fun _ => false) 3 = true by kernel_rfl]
    unfold endS
    rw [if_neg (by simp), if_pos rfl, if_neg (by show ¬ k ≤ wrap64 (n + 1); rw [w64' (by omega)]; omega), w64' (by show _ ≤ n + 1 ∧ n + 1 ≤ _; omega)]
  rw [this]
  rfl
theorem step1 (k n : Int) (h : 0 ≤ n ∧ n ≤ 30) : closeS k 50 10 3 [xs110] [o0, o0, o0, ⟨n, 0, false⟩] = ([o0, o0, o0, ⟨max (n - 1) 0, 0, false⟩], []) := by
  rw [close_one (xs := xs110) (kept_all (outs4 _ rfl 110)) med110 (by decide) (by decide), endL4 _ _ _ _ _ (by constructor <;> kernel_rfl) (by constructor <;> kernel_rfl) (by constructor <;> kernel_rfl)]
  have : endS k 50 ⟨n, 0, false⟩ (struckF 10 100 xs110 (fun _ => false) 3) (sentF xs110 (fun _ => false) 3) = (⟨max (n - 1) 0, 0, false⟩, false) := by
    rw [show struckF 10 100 xs110 (fun _ => false) 3 = false by kernel_rfl, show sentF xs110 (fun _ => false) 3 = true by kernel_rfl]
    unfold endS
    rw [if_neg (by simp), if_neg (by simp), if_pos rfl, w64' (by show _ ≤ n - 1 ∧ n - 1 ≤ _; omega)]
  rw [this]
  rfl
theorem step2 (k n : Int) : closeS k 50 10 3 [xsN] [o0, o0, o0, ⟨n, 0, false⟩] = ([o0, o0, o0, ⟨n, 0, false⟩], []) := by
  rw [close_one (kept_all (outs4' _)) medN (by decide) (by decide), endL4 _ _ _ _ _ (by constructor <;> kernel_rfl) (by constructor <;> kernel_rfl) (by constructor <;> kernel_rfl)]
  have : endS k 50 ⟨n, 0, false⟩ (struckF 10 100 xsN (fun _ => false) 3) (sentF xsN (fun _ => false) 3) = (⟨n, 0, false⟩, false) := by
    rw [show struckF 10 100 xsN (fun _ => false) 3 = false by kernel_rfl, show sentF xsN (fun _ => false) 3 = false by kernel_rfl]
    unfold endS
    rw [if_neg (by simp), if_neg (by simp), if_neg (by simp)]
  rw [this]
  rfl
end Go.Proofs.Ytjcjibghnpjegaa.Sc
