/- What the printed functions of package report come to, and that the document's functions come to the same: words, lines, all lines, counts. Condition: fields within their types, rows short. -/
import Derived.Test.YtjcjibghnpjegaaDoorPureReportWords
import Derived.Test.YtjcjibghnpjegaaDoorPd30
import Derived.Test.YtjcjibghnpjegaaDoorPd31
import Derived.Test.YtjcjibghnpjegaaDoorPd32
import Derived.Test.YtjcjibghnpjegaaDoorPd33
import Derived.Test.YtjcjibghnpjegaaDoorPd34
import Derived.Lib.ItoaLen
import Derived.Lib.Strings
namespace Go.Proofs.YtjcjibghnpjegaaDoor.Rep
open Go.RowKit Go.Proofs.YtjcjibghnpjegaaDoor.Pd Go.Proofs.YtjcjibghnpjegaaDoorW.PrintWords Go.Proofs.YtjcjibghnpjegaaDoorW.PrintLast

theorem w64 {x : Int} (h0 : -9223372036854775808 ≤ x) (h1 : x ≤ 9223372036854775807) : wrap64 x = x := by
  unfold wrap64; omega
theorem ev_pos {α : Type} {c : Prop} [Decidable c] {A B : Nat → Option α} {r : α} (h : c) (h1 : Ev A r) : Ev (fun n => if c then A n else B n) r := by
  simp only [if_pos h]; exact h1
theorem ev_neg {α : Type} {c : Prop} [Decidable c] {A B : Nat → Option α} {r : α} (h : ¬ c) (h1 : Ev B r) : Ev (fun n => if c then A n else B n) r := by
  simp only [if_neg h]; exact h1
theorem ev_step {α : Type} {g f : Nat → Option α} {r : α} (h : ∀ k, g (k + 1) = f k) (k : Ev f r) : Ev g r := Ev.step h k
theorem ev_some {α : Type} {g : Nat → Option α} {r : α} (h : ∀ k, g (k + 1) = some r) : Ev g r := Ev.step h (Ev.now r)

def B (l : List UInt8) : ByteArray := ⟨l.toArray⟩
theorem B_app (a b : List UInt8) : B a ++ B b = B (a ++ b) := by
  apply ByteArray.ext
  simp [B]
theorem B_size (l : List UInt8) : (B l).size = l.length := by
  simp [B, ByteArray.size]
theorem B_of (b : ByteArray) : b = B b.data.toList := by
  simp [B]
theorem told_ev : Ev quorumitelaw27_told.f true := Ev.of (fun k => quorumitelaw27_told.mono k) Pure.told_some

/-! digits -/
theorem nd_le : ∀ (k u : Nat), u < 10 ^ (k + 1) → Lib.nDigits u ≤ k + 1 := by
  intro k
  induction k with
  | zero => intro u h; rw [Lib.nDigits_small (by simpa using h)]; exact Nat.le_refl _
  | succ k ih =>
    intro u h
    by_cases h10 : u < 10
    · rw [Lib.nDigits_small h10]; omega
    · rw [Lib.nDigits_big h10]
      have : u / 10 < 10 ^ (k + 1) := by
        rw [Nat.div_lt_iff_lt_mul (by decide)]
        rw [Nat.pow_succ] at h
        exact h
      have := ih _ this
      omega
theorem digit_cut : ∀ i : Fin 10, (⟨#[48, 49, 50, 51, 52, 53, 54, 55, 56, 57]⟩ : ByteArray).extract i.val (i.val + 1) = B [UInt8.ofNat (48 + i.val)] := by
  intro i
  rw [Lib.extract_eq]
  revert i
  decide +kernel
theorem digit_cut' (n : Nat) (h : n < 10) : (⟨#[48, 49, 50, 51, 52, 53, 54, 55, 56, 57]⟩ : ByteArray).extract n (n + 1) = B [UInt8.ofNat (48 + n)] := digit_cut ⟨n, h⟩
theorem digits_ev : ∀ (n : Nat) (s : List UInt8), n < 18446744073709551616 → s.length + Lib.nDigits n ≤ 1000 → Ev (fun k => quorumiteref25_digits.l0 k (n : Int) (B s)) (B (Lib.decDigits n ++ s)) := by
  intro n
  induction n using Nat.strongRecOn with
  | _ n ih =>
    intro s hn hs
    by_cases h : n < 10
    · refine ev_some (fun k => ?_)
      simp only [quorumiteref25_digits.l0]
      have e : IntKind.u64.wrap ((n : Int) + 1) = ((n + 1 : Nat) : Int) := by rw [IntKind.wrap_u64]; omega
      rw [e, if_neg (by omega), if_pos (by omega), if_pos (by omega), if_pos (by omega)]
      simp only [Int.toNat_natCast]
      rw [digit_cut' n h, B_size, B_size, if_pos (by simp; rw [Lib.nDigits_small h] at hs; omega), B_app, Lib.decDigits_one h]
    · have e0 : Int.tmod (n : Int) 10 = ((n % 10 : Nat) : Int) := by rw [Int.tmod_eq_emod_of_nonneg (by omega)]; omega
      have e1 : IntKind.u64.wrap (((n % 10 : Nat) : Int) + 1) = ((n % 10 + 1 : Nat) : Int) := by rw [IntKind.wrap_u64]; omega
      have e2 : IntKind.u64.wrap (Int.tdiv (n : Int) 10) = ((n / 10 : Nat) : Int) := by
        rw [Int.tdiv_eq_ediv_of_nonneg (by omega), IntKind.wrap_u64]; omega
      rw [Lib.nDigits_big h] at hs
      refine ev_step (f := fun k => quorumiteref25_digits.l0 k ((n / 10 : Nat) : Int) (B (UInt8.ofNat (48 + n % 10) :: s))) (fun k => ?_) ?_
      · simp only [quorumiteref25_digits.l0]
        rw [e0, e1, e2, if_pos (by omega), if_pos (by omega), if_pos (by omega), if_pos (by omega)]
        simp only [Int.toNat_natCast]
        rw [digit_cut' (n % 10) (by omega), B_size, B_size, if_pos (by simp; omega), B_app]
        rfl
      · have := ih (n / 10) (by omega) (UInt8.ofNat (48 + n % 10) :: s) (by omega) (by simp only [List.length_cons]; omega)
        rw [Lib.decDigits, dif_neg h, List.append_assoc]
        exact this
def InI (a : Int) : Prop := -9223372036854775808 ≤ a ∧ a ≤ 9223372036854775807
theorem decimal_ev (a : Int) (h : InI a) : Ev (fun k => quorumiteref25_Decimal.f k a) (B (Lib.itoa a)) := by
  obtain ⟨h0, h1⟩ := h
  by_cases hn : a < 0
  · have e : IntKind.u64.wrap ((IntKind.u64.wrap (wrap64 (-(wrap64 (a + 1))))) + 1) = ((a.natAbs : Nat) : Int) := by
      rw [w64 (x := a + 1) (by omega) (by omega), w64 (x := -(a + 1)) (by omega) (by omega), IntKind.wrap_u64, IntKind.wrap_u64]; omega
    have hd := digits_ev a.natAbs [] (by omega) (by
      have := nd_le 19 a.natAbs (by omega)
      simp; omega)
    have hl := nd_le 19 a.natAbs (by omega)
    refine Ev.congr (f := fun k => ((quorumiteref25_digits.f k ((a.natAbs : Nat) : Int)).bind fun t170 => (if 1 + t170.size ≤ 9223372036854775807 then (some ((⟨#[45]⟩ : ByteArray) ++ t170)) else (none)))) (fun k => by simp only [quorumiteref25_Decimal.f]; rw [if_pos hn, e]) ?_
    refine Ev.bind hd (ev_pos ?_ ?_)
    · rw [B_size, List.append_nil, Lib.decDigits_length]; omega
    · have e2 : (⟨#[45]⟩ : ByteArray) ++ B (Lib.decDigits a.natAbs ++ []) = B (Lib.itoa a) := by
        have : (⟨#[45]⟩ : ByteArray) = B [45] := rfl
        rw [this, B_app, Lib.itoa, if_pos hn, List.append_nil]
        rfl
      rw [e2]
      exact Ev.now _
  · have e : IntKind.u64.wrap a = ((a.toNat : Nat) : Int) := by rw [IntKind.wrap_u64]; omega
    have hd := digits_ev a.toNat [] (by omega) (by
      have := nd_le 19 a.toNat (by omega)
      simp; omega)
    refine Ev.congr (f := fun k => ((quorumiteref25_digits.f k ((a.toNat : Nat) : Int)).bind fun t171 => (some t171))) (fun k => by simp only [quorumiteref25_Decimal.f]; rw [if_neg hn, e]) ?_
    refine Ev.bind hd ?_
    rw [List.append_nil, Lib.itoa, if_neg hn]
    exact Ev.now _

/-! words -/
theorem code_in : ∀ i : Fin 13, ∃ t, report_Code.f (i.val : Int) = some t ∧ quorumiteref25_Word.f (i.val : Int) = some t ∧ t.size ≤ 20 := by
  intro i
  have h : ∀ i : Fin 13, (report_Code.f (i.val : Int)).isSome = true ∧ report_Code.f (i.val : Int) = quorumiteref25_Word.f (i.val : Int) ∧ ((report_Code.f (i.val : Int)).getD ⟨#[]⟩).size ≤ 20 := by decide +kernel
  obtain ⟨h1, h2, h3⟩ := h i
  cases hc : report_Code.f (i.val : Int) with
  | none => rw [hc] at h1; cases h1
  | some t => exact ⟨t, rfl, by rw [← h2, hc], by rw [hc] at h3; exact h3⟩
theorem code_both (c : Int) : ∃ t, report_Code.f c = some t ∧ quorumiteref25_Word.f c = some t ∧ t.size ≤ 20 := by
  by_cases h0 : c < 0
  · exact ⟨⟨#[63]⟩, by simp only [report_Code.f, report_word.f]; rw [if_pos h0]; rfl, by simp only [quorumiteref25_Word.f]; rw [if_pos h0], by decide⟩
  · by_cases h1 : c > 12
    · refine ⟨⟨#[63]⟩, ?_, ?_, by decide⟩
      · simp only [report_Code.f, report_word.f]; rw [if_neg h0, if_pos (by simp only [List.length_cons, List.length_nil]; omega)]; rfl
      · simp only [quorumiteref25_Word.f]; rw [if_neg h0, if_pos h1]
    · have := code_in ⟨c.toNat, by omega⟩
      have e : ((c.toNat : Nat) : Int) = c := by omega
      simp only [e] at this
      exact this
abbrev kinds : List ByteArray := [(⟨#[63]⟩ : ByteArray), (⟨#[115, 97, 109, 112, 108, 101]⟩ : ByteArray), (⟨#[100, 101, 108, 105, 118, 101, 114]⟩ : ByteArray), (⟨#[100, 114, 111, 112]⟩ : ByteArray), (⟨#[99, 111, 112, 121]⟩ : ByteArray), (⟨#[105, 110, 106, 101, 99, 116]⟩ : ByteArray), (⟨#[116, 105, 99, 107]⟩ : ByteArray), (⟨#[114, 111, 116, 97, 116, 101]⟩ : ByteArray), (⟨#[99, 111, 114, 114, 117, 112, 116]⟩ : ByteArray), (⟨#[102, 111, 114, 103, 101]⟩ : ByteArray), (⟨#[99, 114, 97, 115, 104]⟩ : ByteArray), (⟨#[114, 101, 115, 116, 97, 114, 116]⟩ : ByteArray), (⟨#[116, 101, 97, 114]⟩ : ByteArray)]
theorem kind_in : ∀ i : Fin 12, ((rdOf ByteArray.empty kinds.tail (i.val : Int)).size ≤ 20) ∧ rdOf ByteArray.empty kinds ((i.val : Int) + 1) = rdOf ByteArray.empty kinds.tail (i.val : Int) := by decide +kernel

/-! lines -/
theorem itoa_f (a : Int) (h : InI a) : strconv_Itoa_15.f a = some (B (Lib.itoa a)) := by
  unfold strconv_Itoa_15.f; rw [if_pos ⟨h.1, h.2⟩]; rfl
theorem fint_f (a : Int) (h : InI a) : strconv_FormatInt_17.f a 10 = some (B (Lib.itoa a)) := by
  unfold strconv_FormatInt_17.f; rw [if_pos ⟨rfl, h.1, h.2⟩]; rfl
theorem join4 (a b c d : List UInt8) (h : a.length + b.length + c.length + d.length ≤ 1000) : strings_Join.f [B a, B b, B c, B d] (⟨#[32]⟩ : ByteArray) = some (B (a ++ [32] ++ b ++ [32] ++ c ++ [32] ++ d)) := by
  have e : Lib.join ([B a, B b, B c, B d].map (·.data.toList)) (⟨#[32]⟩ : ByteArray).data.toList = a ++ [32] ++ b ++ [32] ++ c ++ [32] ++ d := by
    simp [Lib.join, B, List.intercalate]
  unfold strings_Join.f
  rw [e, if_pos ⟨by simp, by simp only [List.length_cons, List.length_nil]; omega, by simp only [List.length_append, List.length_cons, List.length_nil]; omega⟩]
  rfl
theorem line_both (a0 a1 a2 a3 a4 : Int) (a5 : Bool) (a6 a7 a8 a9 : Int) (h2 : InI a2) (h3 : InI a3) (h4 : InI a4) :
    ∃ t : ByteArray, t.size ≤ 200 ∧ (∀ k, report_Line.f (k + 1) a0 a1 a2 a3 a4 a5 a6 a7 a8 a9 = some t) ∧ Ev (fun k => quorumiteref25_Line.f k a0 a1 a2 a3 a4 a5 a6 a7 a8 a9) t := by
  have l2 := Lib.itoa_length_le a2 h2.1 h2.2
  have l3 := Lib.itoa_length_le a3 h3.1 h3.2
  have l4 := Lib.itoa_length_le a4 h4.1 h4.2
  by_cases h : a0 = 6 ∧ a1 = 0
  · obtain ⟨rfl, rfl⟩ := h
    obtain ⟨K2, e2⟩ := decimal_ev a2 h2
    replace e2 : ∀ k, K2 ≤ k → quorumiteref25_Decimal.f k a2 = some (B (Lib.itoa a2)) := e2
    obtain ⟨K3, e3⟩ := decimal_ev a3 h3
    replace e3 : ∀ k, K3 ≤ k → quorumiteref25_Decimal.f k a3 = some (B (Lib.itoa a3)) := e3
    obtain ⟨K4, e4⟩ := decimal_ev a4 h4
    replace e4 : ∀ k, K4 ≤ k → quorumiteref25_Decimal.f k a4 = some (B (Lib.itoa a4)) := e4
    have T : (⟨#[116, 105, 99, 107, 32]⟩ : ByteArray) = B [116, 105, 99, 107, 32] := rfl
    have S : (⟨#[32]⟩ : ByteArray) = B [32] := rfl
    have HO : (⟨#[32, 104, 111, 108, 100]⟩ : ByteArray) = B [32, 104, 111, 108, 100] := rfl
    cases a5 with
    | true =>
      refine ⟨B ([116, 105, 99, 107] ++ [32] ++ Lib.itoa a2 ++ [32] ++ Lib.itoa a3 ++ [32] ++ [104, 111, 108, 100]), ?_, fun k => ?_, ⟨K2 + K3 + K4 + 1, fun k hk => ?_⟩⟩
      · rw [B_size]; simp only [List.length_append, List.length_cons, List.length_nil]; omega
      · simp only [report_Line.f, report_Line.j0]
        rw [if_pos trivial, if_neg (by decide), if_pos trivial, fint_f a2 h2, Option.bind_some, itoa_f a3 h3, Option.bind_some]
        rw [show strings_Join.f [(⟨#[116, 105, 99, 107]⟩ : ByteArray), B (Lib.itoa a2), B (Lib.itoa a3), (⟨#[104, 111, 108, 100]⟩ : ByteArray)] ⟨#[32]⟩ = _ from join4 [116, 105, 99, 107] (Lib.itoa a2) (Lib.itoa a3) [104, 111, 108, 100] (by simp only [List.length_cons, List.length_nil]; omega)]
        rfl
      · obtain ⟨m, rfl⟩ : ∃ m, k = m + 1 := ⟨k - 1, by omega⟩
        simp only [quorumiteref25_Line.f, quorumiteref25_Line.j0]
        rw [if_pos trivial, if_pos (by decide), e2 m (by omega), Option.bind_some, if_pos (by rw [B_size]; omega), if_pos (by rw [T, B_app, B_size]; simp only [List.length_append, List.length_cons, List.length_nil]; omega),
          e3 m (by omega), Option.bind_some, if_pos (by rw [T, S, B_app, B_app, B_size, B_size]; simp only [List.length_append, List.length_cons, List.length_nil]; omega), if_pos trivial,
          if_pos (by rw [T, S, B_app, B_app, B_app, B_size]; simp only [List.length_append, List.length_cons, List.length_nil]; omega), T, S, HO, B_app, B_app, B_app, B_app]
        simp
    | false =>
      refine ⟨B ([116, 105, 99, 107] ++ [32] ++ Lib.itoa a2 ++ [32] ++ Lib.itoa a3 ++ [32] ++ Lib.itoa a4), ?_, fun k => ?_, ⟨K2 + K3 + K4 + 1, fun k hk => ?_⟩⟩
      · rw [B_size]; simp only [List.length_append, List.length_cons, List.length_nil]; omega
      · simp only [report_Line.f, report_Line.j0]
        rw [if_pos trivial, if_neg (by decide), if_neg (by decide), itoa_f a4 h4, Option.bind_some, fint_f a2 h2, Option.bind_some, itoa_f a3 h3, Option.bind_some]
        rw [show strings_Join.f [(⟨#[116, 105, 99, 107]⟩ : ByteArray), B (Lib.itoa a2), B (Lib.itoa a3), B (Lib.itoa a4)] ⟨#[32]⟩ = _ from join4 [116, 105, 99, 107] (Lib.itoa a2) (Lib.itoa a3) (Lib.itoa a4) (by simp only [List.length_cons, List.length_nil]; omega)]
        rfl
      · obtain ⟨m, rfl⟩ : ∃ m, k = m + 1 := ⟨k - 1, by omega⟩
        simp only [quorumiteref25_Line.f, quorumiteref25_Line.j0]
        rw [if_pos trivial, if_pos (by decide), e2 m (by omega), Option.bind_some, if_pos (by rw [B_size]; omega), if_pos (by rw [T, B_app, B_size]; simp only [List.length_append, List.length_cons, List.length_nil]; omega),
          e3 m (by omega), Option.bind_some, if_pos (by rw [T, S, B_app, B_app, B_size, B_size]; simp only [List.length_append, List.length_cons, List.length_nil]; omega), if_neg (by decide),
          if_pos (by rw [T, S, B_app, B_app, B_app, B_size]; simp only [List.length_append, List.length_cons, List.length_nil]; omega), e4 m (by omega), Option.bind_some,
          if_pos (by rw [T, S, B_app, B_app, B_app, B_app, B_size, B_size]; simp only [List.length_append, List.length_cons, List.length_nil]; omega), T, S, B_app, B_app, B_app, B_app, B_app]
        simp
  · obtain ⟨c, c1, c2, c3⟩ := code_both a1
    have HP : ∀ k, report_Line.f (k + 1) a0 a1 a2 a3 a4 a5 a6 a7 a8 a9 = (report_word.f kinds a0).bind fun t129 => (if t129.size + 1 ≤ 9223372036854775807 then ((report_Code.f a1).bind fun t130 => (if (t129 ++ (⟨#[32]⟩ : ByteArray)).size + t130.size ≤ 9223372036854775807 then (some ((t129 ++ (⟨#[32]⟩ : ByteArray)) ++ t130)) else (none))) else (none)) := by
      intro k
      simp only [report_Line.f]
      by_cases h0 : a0 = 6
      · have h1 : a1 ≠ 0 := fun e => h ⟨h0, e⟩
        rw [if_pos h0, show (a1 != 0) = true from bne_iff_ne.2 h1]
        simp only [report_Line.j0]
        rw [if_pos trivial]
      · rw [if_neg h0]
        simp only [report_Line.j0]
        rw [if_pos trivial]
    have HR : ∀ k, quorumiteref25_Line.f k a0 a1 a2 a3 a4 a5 a6 a7 a8 a9 = quorumiteref25_Line.j0 k false a0 a1 a2 a3 a4 a5 a6 a7 a8 a9 := by
      intro k
      simp only [quorumiteref25_Line.f]
      by_cases h0 : a0 = 6
      · have h1 : a1 ≠ 0 := fun e => h ⟨h0, e⟩
        rw [if_pos h0, show (a1 == 0) = false from beq_eq_false_iff_ne.2 h1]
      · rw [if_neg h0]
    have Q : (⟨#[63]⟩ : ByteArray).size = 1 := rfl
    have S : (⟨#[32]⟩ : ByteArray).size = 1 := rfl
    by_cases ha : a0 < 1
    · refine ⟨((⟨#[63]⟩ : ByteArray) ++ (⟨#[32]⟩ : ByteArray)) ++ c, ?_, fun k => ?_, ⟨1, fun k hk => ?_⟩⟩
      · simp only [ByteArray.size_append, Q, S]; omega
      · have hw : report_word.f kinds a0 = some ⟨#[63]⟩ := by
          by_cases h0 : a0 < 0
          · simp only [report_word.f]; rw [if_pos h0]
          · obtain rfl : a0 = 0 := by omega
            rfl
        rw [HP, hw, Option.bind_some, if_pos (by rw [Q]; decide), c1, Option.bind_some, if_pos (by simp only [ByteArray.size_append, Q, S]; omega)]
      · obtain ⟨m, rfl⟩ : ∃ m, k = m + 1 := ⟨k - 1, by omega⟩
        show quorumiteref25_Line.f (m + 1) a0 a1 a2 a3 a4 a5 a6 a7 a8 a9 = _
        rw [HR]
        simp only [quorumiteref25_Line.j0]
        rw [if_neg (by decide), if_neg (by omega), if_pos (by decide), c2, Option.bind_some, if_pos (by omega)]
    · by_cases hb : a0 ≤ 12
      · obtain ⟨z1, z2⟩ := kind_in ⟨(a0 - 1).toNat, by omega⟩
        have e1 : (((a0 - 1).toNat : Nat) : Int) = a0 - 1 := by omega
        simp only [e1] at z1 z2
        have e2 : a0 - 1 + 1 = a0 := by omega
        rw [e2] at z2
        refine ⟨((rdOf ByteArray.empty kinds.tail (a0 - 1)) ++ (⟨#[32]⟩ : ByteArray)) ++ c, ?_, fun k => ?_, ⟨1, fun k hk => ?_⟩⟩
        · simp only [ByteArray.size_append, S]; omega
        · have hw : report_word.f kinds a0 = some (rdOf ByteArray.empty kinds.tail (a0 - 1)) := by
            simp only [report_word.f]
            rw [if_neg (by omega), if_neg (by simp only [List.length_cons, List.length_nil]; omega), if_pos (by omega), if_pos (by simp only [List.length_cons, List.length_nil]; omega), z2]
          rw [HP, hw, Option.bind_some, if_pos (by omega), c1, Option.bind_some, if_pos (by simp only [ByteArray.size_append, S]; omega)]
        · obtain ⟨m, rfl⟩ : ∃ m, k = m + 1 := ⟨k - 1, by omega⟩
          show quorumiteref25_Line.f (m + 1) a0 a1 a2 a3 a4 a5 a6 a7 a8 a9 = _
          rw [HR]
          have hw1 : wrap64 (a0 - 1) = a0 - 1 := w64 (by omega) (by omega)
          simp only [quorumiteref25_Line.j0]
          rw [if_neg (by decide), if_pos (by omega), if_pos hb, Option.bind_some, hw1, if_pos (by omega), if_pos (by simp only [List.length_cons, List.length_nil]; omega)]
          show (if (rdOf ByteArray.empty kinds.tail (a0 - 1)).size + 1 ≤ 9223372036854775807 then _ else _) = _
          rw [if_pos (by omega), c2, Option.bind_some]
          show (if ((rdOf ByteArray.empty kinds.tail (a0 - 1)) ++ (⟨#[32]⟩ : ByteArray)).size + c.size ≤ 9223372036854775807 then _ else _) = _
          rw [if_pos (by simp only [ByteArray.size_append, S]; omega)]
          rfl
      · refine ⟨((⟨#[63]⟩ : ByteArray) ++ (⟨#[32]⟩ : ByteArray)) ++ c, ?_, fun k => ?_, ⟨1, fun k hk => ?_⟩⟩
        · simp only [ByteArray.size_append, Q, S]; omega
        · have hw : report_word.f kinds a0 = some ⟨#[63]⟩ := by
            simp only [report_word.f]; rw [if_neg (by omega), if_pos (by simp only [List.length_cons, List.length_nil]; omega)]
          rw [HP, hw, Option.bind_some, if_pos (by rw [Q]; decide), c1, Option.bind_some, if_pos (by simp only [ByteArray.size_append, Q, S]; omega)]
        · obtain ⟨m, rfl⟩ : ∃ m, k = m + 1 := ⟨k - 1, by omega⟩
          show quorumiteref25_Line.f (m + 1) a0 a1 a2 a3 a4 a5 a6 a7 a8 a9 = _
          rw [HR]
          simp only [quorumiteref25_Line.j0]
          rw [if_neg (by decide), if_pos (by omega), if_neg hb, if_pos (by decide), c2, Option.bind_some, if_pos (by omega)]
end Go.Proofs.YtjcjibghnpjegaaDoor.Rep
