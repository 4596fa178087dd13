/- ScoreMetrics' epoch in plain words; a row of slices of samples. -/
import Derived.Test.YtjcjibghnpjegaaScPureS
import Derived.Test.YtjcjibghnpjegaaPr57
import Derived.Test.YtjcjibghnpjegaaSA
namespace Go.Proofs.Ytjcjibghnpjegaa.Sc
open Go.RowKit Go.Proofs.Ytjcjibghnpjegaa.Pr Go.Proofs.YtjcjibghnpjegaaW.PrintWords Go.Proofs.YtjcjibghnpjegaaW.PrintLast Go.Proofs.YtjcjibghnpjegaaW.PrintMore
set_option linter.unusedVariables false
set_option linter.unusedSimpArgs false
def ss0 : List Std := [o0, o0, o0, o0]
def xs900 : List S49 := [smp 0 100, smp 1 100, smp 2 100, smp 3 900]
def GoodM (xs : List S49) (b : Bool) : Prop := okX xs ∧ ∀ f j, struckJ 10 ss0 3 xs f j = ((decide (j = 3) && b) || f j)
theorem med900 : Tri.medOf (xs900.map (·.f3)) = (100, true) := med_sorted (by decide) (by decide) (by decide) (by decide) (by decide)
theorem medF : Tri.medOf (xsF.map (·.f3)) = (100, true) := med_sorted (by decide) (by decide) (by decide) (by decide) (by decide)
theorem struck_one {fa q m : Int} {xs ks : List S49} {ss : List Std} (f : Int → Bool) (hk : kept ss xs = ks) (hm : Tri.medOf (ks.map (·.f3)) = (m, true)) (hq : q ≤ ks.length) (h0 : 0 < ks.length) : struckJ fa ss q xs f = struckF fa m ks f := by
  have hv : vals ss xs = ks.map (·.f3) := by rw [vals, hk]
  have hJ : judged ss q xs = true := by
    unfold judged
    rw [hv, hm, hk]
    have : ((ks.length : Int)) ≥ q ∧ ((ks.length : Int)) > 0 := by omega
    simp [this]; omega
  have hmd : med ss xs = m := by unfold med; rw [hv, hm]
  unfold struckJ
  rw [hJ, if_pos rfl, hmd, hk]
theorem good900 : GoodM xs900 true := by
  refine ⟨⟨by decide, by decide, by decide⟩, fun f j => ?_⟩
  rw [struck_one (ss := ss0) (xs := xs900) f (kept_all (outs4 o0 rfl 900)) med900 (by decide) (by decide)]
  simp only [struckF, xs900, List.any_cons, List.any_nil, Bool.or_false, show farS 10 100 (smp 0 100) = false by kernel_rfl, show farS 10 100 (smp 1 100) = false by kernel_rfl, show farS 10 100 (smp 2 100) = false by kernel_rfl, show farS 10 100 (smp 3 900) = true by kernel_rfl, Bool.and_false, Bool.false_or, Bool.and_true]
  rfl
theorem goodF : GoodM xsF false := by
  refine ⟨okF, fun f j => ?_⟩
  rw [struck_one (ss := ss0) (xs := xsF) f (kept_all (outs4 o0 rfl 100)) medF (by decide) (by decide)]
  simp only [struckF, xsF, List.any_cons, List.any_nil, Bool.or_false, show farS 10 100 (smp 0 100) = false by kernel_rfl, show farS 10 100 (smp 1 100) = false by kernel_rfl, show farS 10 100 (smp 2 100) = false by kernel_rfl, show farS 10 100 (smp 3 100) = false by kernel_rfl, Bool.and_false, Bool.false_or]
theorem good_few (xs : List S49) (h : okX xs) (hl : xs.length = 2) : GoodM xs false := by
  refine ⟨h, fun f j => ?_⟩
  rw [few_struck f (by
    have : (kept ss0 xs).length ≤ xs.length := List.length_filter_le _ _
    omega)]
  simp
theorem goods {ms : List (List S49)} {S b : Bool} {xs : List S49} (h : ∀ f j, struckM 10 ss0 3 ms f j = ((decide (j = 3) && S) || f j)) (hx : GoodM xs b) : ∀ f j, struckM 10 ss0 3 (ms ++ [xs]) f j = ((decide (j = 3) && (S || b)) || f j) := by
  intro f j
  rw [← struckM_snoc, hx.2, h]
  cases decide (j = 3) <;> cases S <;> cases b <;> simp
theorem endO (st pr : Int) (t : Bool) (h : 2 ≤ st) : endS st pr o0 false t = (o0, false) := by
  cases t with
  | true => exact end0 st pr
  | false => exact end0' st pr
theorem close_metrics {ms : List (List S49)} {S : Bool} (h : ∀ f j, struckM 10 ss0 3 ms f j = ((decide (j = 3) && S) || f j)) :
    closeS 50 3 10 3 ms ss0 = ([o0, o0, o0, ⟨if S = true then 1 else 0, 0, false⟩], []) := by
  unfold closeS
  have e : struckM 10 ss0 3 ms (fun _ => false) = fun j => decide (j = 3) && S := by
    funext j
    rw [h]
    simp
  rw [e]
  generalize sentM ss0 3 ms (fun _ => false) = ft
  simp only [ss0, endL, Int.natCast_zero, Nat.zero_add, Int.natCast_one, Nat.reduceAdd, show ((2 : Nat) : Int) = 2 from rfl, show ((3 : Nat) : Int) = 3 from rfl, show decide ((0 : Int) = 3) = false by decide, show decide ((1 : Int) = 3) = false by decide, show decide ((2 : Int) = 3) = false by decide, show decide ((3 : Int) = 3) = true by decide, decide_true, Bool.false_and, Bool.true_and, endO 50 3 _ (by decide)]
  have hS : endS 50 3 o0 S (ft 3) = (⟨if S = true then 1 else 0, 0, false⟩, false) := by
    generalize ft 3 = t
    cases S <;> cases t <;> kernel_rfl
  rw [hS]
  rfl
/-- A slice of samples as one cell. -/
def metV (m : Met) : Value := .slice (some m.ad) m.xs.length m.c
def KM : Kd Met := Kd.scalar metV (fun _ => rfl)
theorem info47 : (Try.prog.info? 47).map (fun i => (i.zero, i.size, i.bytes)) = some (some (.slice none 0 0), 1, 24) := by kernel_rfl
theorem own_met {w : World} {base : Nat} {ok : Nat → Prop} {v : Value} {ms : List Met} (h : Kd.R KM 47 w base ok v ms) (hne : ms ≠ []) : ∃ lb c, v = .slice (some ⟨lb, 0, none⟩) ms.length c ∧ ∀ (j : Nat) (m : Met), ms[j]? = some m → w.cell? ⟨lb, j, none⟩ = some (metV m) := by
  obtain ⟨inner, hi⟩ := Kd.R_own h
  obtain ⟨A, c', hv, hcc, hC⟩ := Kd.R_reads h
  have hl : 0 < ms.length := by cases ms with | nil => exact absurd rfl hne | cons a t => simp
  rcases hi.2 with ⟨_, h0⟩ | ⟨g, cap, cur, e, hg, hh, hcap, r⟩
  · omega
  · refine ⟨g, cap, e, ?_⟩
    rw [e] at hv
    injection hv with h1 h2 h3
    subst h1
    intro j m hm
    obtain ⟨ad, ea, hc⟩ := hC.2.2 hl
    injection ea with ea
    subst ea
    obtain ⟨cs, hcl, hk, hcell⟩ := hc j m hm
    have hk' : cs = [metV m] := hk
    have := hcell 0 (metV m) (by rw [hk']; rfl)
    have ead : (⟨g, 0, none⟩ : Addr).add (j * KM.sz + 0) = ⟨g, j, none⟩ := by
      have e1 : KM.sz = 1 := rfl
      rw [e1]
      unfold Addr.add
      split
      · next h => have : j = 0 := by omega
                  subst this; rfl
      · simp
    rw [ead] at this
    exact this
/-- What is known of each metric before Close. -/
def MG (w : World) (ms : List Met) : Prop := ∀ m ∈ ms, Kd.C k49 w (some m.ad) m.xs.length m.xs ∧ m.xs.length ≤ m.c ∧ okX m.xs
theorem MG.below {w w' : World} {ms : List Met} (h : MG w ms) (hb : Below w.heap.size w w') : MG w' ms := fun m hm => ⟨Kd.C_below (h m hm).1 hb, (h m hm).2⟩
theorem MG.snoc {w : World} {ms : List Met} {m : Met} (h : MG w ms) (hm : Kd.C k49 w (some m.ad) m.xs.length m.xs ∧ m.xs.length ≤ m.c ∧ okX m.xs) : MG w (ms ++ [m]) := by
  intro x hx
  rcases List.mem_append.1 hx with hx | hx
  · exact h x hx
  · rw [List.mem_singleton.1 hx]; exact hm
theorem MG.MR {w : World} {ms : List Met} {lb : Nat} (h : MG w ms) (hc : ∀ (j : Nat) (m : Met), ms[j]? = some m → w.cell? ⟨lb, j, none⟩ = some (metV m)) : MR w lb ms := by
  intro j m hm
  obtain ⟨h1, h2, h3, h4, h5⟩ := h m (List.mem_of_getElem? hm)
  exact ⟨hc j m hm, h1, h3, h2, h4, h5⟩
theorem same0 : quorumiteref9_SameStandings.f 6 (([o0, o0, o0, ⟨0, 0, false⟩] : List Std).map s54) [⟨0, 0, false⟩, ⟨0, 0, false⟩, ⟨0, 0, false⟩, ⟨0, 0, false⟩] = some true := by kernel_rfl
theorem same1 : quorumiteref9_SameStandings.f 6 (([o0, o0, o0, ⟨1, 0, false⟩] : List Std).map s54) [⟨0, 0, false⟩, ⟨0, 0, false⟩, ⟨0, 0, false⟩, ⟨1, 0, false⟩] = some true := by kernel_rfl
end Go.Proofs.Ytjcjibghnpjegaa.Sc
