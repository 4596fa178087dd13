/- ReportWords' plain law: what Code and Line answer at the few numbers that the law comes to, decided. Conditions: none. -/
import Derived.Test.YtjcjibghnpjegaaDoorWordsWalk
import Derived.Laws.Strings
namespace Go.Proofs.YtjcjibghnpjegaaDoor.Pure
open Go.RowKit Go.Proofs.YtjcjibghnpjegaaDoor.Pd Go.Proofs.YtjcjibghnpjegaaDoorW.PrintWords

def codeOf (i : Fin 15) : ByteArray := (report_Code.f ((i.val : Int) - 1)).getD ⟨#[]⟩
def lineOf (i : Fin 14) : ByteArray := (report_Line.f 30 (i.val : Int) 1 0 0 0 false 0 0 0 0).getD ⟨#[]⟩
theorem code_some : ∀ i : Fin 15, (report_Code.f ((i.val : Int) - 1)).isSome = true := by decide +kernel
theorem line_some : ∀ i : Fin 14, (report_Line.f 30 (i.val : Int) 1 0 0 0 false 0 0 0 0).isSome = true := by decide +kernel
theorem itoa_digit (n : Nat) (h : n < 10) : Lib.itoa (n : Int) = [UInt8.ofNat (48 + n)] := by
  rw [Lib.itoa_nonneg, Lib.decDigits_one h]
theorem itoa_f (n : Nat) (h : n < 10) : strconv_Itoa_15.f (n : Int) = some ⟨#[UInt8.ofNat (48 + n)]⟩ := by
  unfold strconv_Itoa_15.f
  rw [if_pos (by omega), itoa_digit n h]
theorem fint_f (n : Nat) (h : n < 10) : strconv_FormatInt_17.f (n : Int) 10 = some ⟨#[UInt8.ofNat (48 + n)]⟩ := by
  unfold strconv_FormatInt_17.f
  rw [if_pos (by omega), itoa_digit n h]
theorem line_a : report_Line.f 30 6 0 3 5 6 false 0 0 0 0 = some ⟨#[116, 105, 99, 107, 32, 51, 32, 53, 32, 54]⟩ := by
  have e : report_Line.f 30 6 0 3 5 6 false 0 0 0 0 = (strconv_Itoa_15.f 6).bind fun t137 => ((strconv_FormatInt_17.f 3 10).bind fun t138 => ((strconv_Itoa_15.f 5).bind fun t139 => ((strings_Join.f (([(⟨#[116, 105, 99, 107]⟩ : ByteArray), t138, t139, t137] : List ByteArray)) (⟨#[32]⟩ : ByteArray)).bind fun t143 => (some t143)))) := rfl
  rw [e, show strconv_Itoa_15.f 6 = _ from itoa_f 6 (by omega), show strconv_Itoa_15.f 5 = _ from itoa_f 5 (by omega), show strconv_FormatInt_17.f 3 10 = _ from fint_f 3 (by omega)]
  decide +kernel
theorem line_b : report_Line.f 30 6 0 4 5 0 true 0 0 0 0 = some ⟨#[116, 105, 99, 107, 32, 52, 32, 53, 32, 104, 111, 108, 100]⟩ := by
  have e : report_Line.f 30 6 0 4 5 0 true 0 0 0 0 = (strconv_FormatInt_17.f 4 10).bind fun t131 => ((strconv_Itoa_15.f 5).bind fun t132 => ((strings_Join.f (([(⟨#[116, 105, 99, 107]⟩ : ByteArray), t131, t132, (⟨#[104, 111, 108, 100]⟩ : ByteArray)] : List ByteArray)) (⟨#[32]⟩ : ByteArray)).bind fun t136 => (some t136))) := rfl
  rw [e, show strconv_Itoa_15.f 5 = _ from itoa_f 5 (by omega), show strconv_FormatInt_17.f 4 10 = _ from fint_f 4 (by omega)]
  decide +kernel
theorem told_some : quorumitelaw27_told.f 30 = some true := by
  unfold quorumitelaw27_told.f
  rw [line_a, line_b]
  simp only [ByteArray.toList_eq]
  decide +kernel
theorem code_out : ∀ i : Fin 15, ((i.val : Int) - 1 < 0 ∨ 12 < (i.val : Int) - 1) → (codeOf i).toList = [63] := by
  simp only [ByteArray.toList_eq]
  decide +kernel
theorem code_in : ∀ i j : Fin 15, ¬ ((i.val : Int) - 1 < 0 ∨ 12 < (i.val : Int) - 1) → (codeOf i).toList ≠ [63] ∧ ((codeOf i).toList = (codeOf j).toList ↔ (i.val : Int) - 1 = (j.val : Int) - 1) := by
  simp only [ByteArray.toList_eq]
  decide +kernel
theorem line_out : ∀ i : Fin 14, ((i.val : Int) < 1 ∨ 12 < (i.val : Int)) → (lineOf i).toList = ([63, 32, 97, 114, 103, 117, 109, 101, 110, 116] : List UInt8) := by
  simp only [ByteArray.toList_eq]
  decide +kernel
theorem line_in : ∀ i j : Fin 14, ¬ ((i.val : Int) < 1 ∨ 12 < (i.val : Int)) → (lineOf i).toList ≠ ([63, 32, 97, 114, 103, 117, 109, 101, 110, 116] : List UInt8) ∧ ((lineOf i).toList = (lineOf j).toList ↔ (i.val : Int) = (j.val : Int)) := by
  simp only [ByteArray.toList_eq]
  decide +kernel
end Go.Proofs.YtjcjibghnpjegaaDoor.Pure
