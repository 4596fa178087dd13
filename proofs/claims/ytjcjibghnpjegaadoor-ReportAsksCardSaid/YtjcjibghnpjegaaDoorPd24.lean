-- Made by a program of this session (wip: patch_print.py, patch_arr.py, prD.sh) out of the kit's print: functions over lists and the proof that the Go code comes to them.
import Derived.Test.YtjcjibghnpjegaaDoorPd0
namespace Go.Proofs.YtjcjibghnpjegaaDoor.Pd
open Go.RowKit Go.Proofs.YtjcjibghnpjegaaDoorW.PrintWords Go.Proofs.YtjcjibghnpjegaaDoorW.PrintLast Go.Proofs.YtjcjibghnpjegaaDoorW.PrintMore
attribute [local go_sem] max2_int min2_int max_two min_two max_three min_three max_four min_four   -- for this text's walks alone
set_option linter.unusedVariables false
set_option linter.unusedSimpArgs false

/-! ### strings_Join: function 16 -/
def strings_Join.f (l0 : List ByteArray) (a1 : ByteArray) : Option (ByteArray) := if 0 < l0.length ∧ l0.length ≤ 140737488355328 ∧ (Lib.join (l0.map (·.data.toList)) a1.data.toList).length ≤ 140737488355328 then some ⟨(Lib.join (l0.map (·.data.toList)) a1.data.toList).toArray⟩ else none
theorem strings_Join.calls (A0 : Option Addr) (c0 : Nat) (l0 : List ByteArray) (a1 : ByteArray) (r : ByteArray) (w : World) (hr0 : Kd.C Kd.string w A0 l0.length l0) (hc0 : l0.length ≤ c0) (h : strings_Join.f l0 a1 = some r) :
    Calls Tryd.prog 16 #[.slice A0 l0.length c0, .string a1] w fun e w' => e = .returned (.string r) ∧ Below w.heap.size w w' := by
  unfold strings_Join.f at h
  by_cases hb : 0 < l0.length ∧ l0.length ≤ 140737488355328 ∧ (Lib.join (l0.map (·.data.toList)) a1.data.toList).length ≤ 140737488355328
  · rw [if_pos hb] at h
    obtain ⟨h0, h1, h2⟩ := hb
    obtain rfl := Option.some.inj h
    obtain ⟨ad, rfl, hc⟩ := Kd.at_string hr0 0 (Int.le_refl 0) (by omega)
    have hcell : ∀ (j : Nat) (x : ByteArray), l0[j]? = some x → w.cell? (ad.add j) = some (.string x) := by
      intro j x hx
      have hj : j < l0.length := by
        rcases Nat.lt_or_ge j l0.length with h | h
        · exact h
        · rw [List.getElem?_eq_none h] at hx; cases hx
      obtain ⟨ad', e, hc'⟩ := Kd.at_string hr0 (j : Int) (by omega) (by omega)
      obtain rfl := Option.some.inj e
      have : rdOf ByteArray.empty l0 (j : Int) = x := by
        unfold rdOf
        simp [hx]
      rw [this] at hc'
      exact hc'
    have hlt : ad.block < w.heap.size := Kd.C_lt hr0 h0 (by decide)
    obtain ⟨bk, o, sp⟩ := ad
    cases sp with
    | some x =>
      exfalso
      have := hcell 0 _ (List.getElem?_eq_getElem h0)
      rw [Addr.add, if_pos rfl, World.cell?] at this
      split at this <;> simp at this
    | none =>
      have ha : ∀ j, (⟨bk, o, none⟩ : Addr).add j = ⟨bk, o + j, none⟩ := by
        intro j
        unfold Addr.add
        split
        · next h => subst h; rfl
        · rfl
      exact Tryd.strings_Join bk o c0 l0 a1 w (fun j x hx => by rw [← ha]; exact hcell j x hx) hlt h1 hc0 h2
  · rw [if_neg hb] at h
    exact absurd h (by simp)

end Go.Proofs.YtjcjibghnpjegaaDoor.Pd
