/- ReportWords: the walk, the plain law and the laid table joined: the row, and its tied card. Conditions: none beyond the row's own. -/
import Derived.Test.YtjcjibghnpjegaaDoorRows
import Derived.Test.YtjcjibghnpjegaaDoorCards
import Derived.Test.YtjcjibghnpjegaaDoorTie
import Derived.Test.YtjcjibghnpjegaaDoorPureReportWords
import Derived.Test.YtjcjibghnpjegaaDoorLaid
import Derived.WalkKit
import Derived.ProofKit
import Derived.OpenShut
import Derived.ShutString
import Derived.ChangeOld
import Derived.Below
import Derived.SizedLaws
namespace Go.Proofs.YtjcjibghnpjegaaDoor.reportWords
open Go.ChangeShapes Go.WideShapes Go.ChangeAt Go.RowKit
open Go.ChangeMaps (open_string shut_string)
open Go.Proofs.YtjcjibghnpjegaaDoor.Pd Go.Proofs.YtjcjibghnpjegaaDoorW.PrintWords
set_option linter.unusedVariables false
theorem u64_nonneg (a : Int) : 0 ≤ IntKind.u64.wrap a := by
  rw [IntKind.wrap_u64]; omega
theorem ex15 (a : Int) : ∃ i : Fin 15, wrap64 ((wrap64 (Int.tmod (IntKind.u64.wrap a) 15)) - 1) = (i.val : Int) - 1 := by
  have h := u64_nonneg a
  have e : Int.tmod (IntKind.u64.wrap a) 15 = IntKind.u64.wrap a % 15 := Int.tmod_eq_emod_of_nonneg h
  refine ⟨⟨(IntKind.u64.wrap a % 15).toNat, by omega⟩, ?_⟩
  rw [e]
  show wrap64 (wrap64 (IntKind.u64.wrap a % 15) - 1) = ((IntKind.u64.wrap a % 15).toNat : Int) - 1
  have h1 : wrap64 (IntKind.u64.wrap a % 15) = IntKind.u64.wrap a % 15 := by unfold wrap64; omega
  rw [h1]
  unfold wrap64
  omega
theorem ex14 (a : Int) : ∃ i : Fin 14, wrap64 (Int.tmod (IntKind.u64.wrap (Int.tdiv (IntKind.u64.wrap a) 15)) 14) = (i.val : Int) := by
  have h := u64_nonneg (Int.tdiv (IntKind.u64.wrap a) 15)
  have e : Int.tmod (IntKind.u64.wrap (Int.tdiv (IntKind.u64.wrap a) 15)) 14 = IntKind.u64.wrap (Int.tdiv (IntKind.u64.wrap a) 15) % 14 := Int.tmod_eq_emod_of_nonneg h
  refine ⟨⟨(IntKind.u64.wrap (Int.tdiv (IntKind.u64.wrap a) 15) % 14).toNat, by omega⟩, ?_⟩
  rw [e]
  show wrap64 (IntKind.u64.wrap (Int.tdiv (IntKind.u64.wrap a) 15) % 14) = ((IntKind.u64.wrap (Int.tdiv (IntKind.u64.wrap a) 15) % 14).toNat : Int)
  unfold wrap64
  omega
theorem some_getD {α : Type} (o : Option α) (d : α) (h : o.isSome = true) : o = some (o.getD d) := by
  cases o with
  | none => cases h
  | some x => rfl
theorem walk (a0 a1 : Int) (w : World) (HTB : Aside0 (TabOk w)) :
    Calls Tryd.prog 3 #[.int .i64 a0, .int .i64 a1] w fun e w' => e = .returned (.bool true) ∧ Below w.heap.size w w' := by
  obtain ⟨i, hi⟩ := ex15 a0
  obtain ⟨j, hj⟩ := ex15 a1
  obtain ⟨p, hp⟩ := ex14 a0
  obtain ⟨q, hq⟩ := ex14 a1
  refine words_walk 30 a0 a1 (Pure.codeOf i) (Pure.codeOf j) (Pure.lineOf p) (Pure.lineOf q) w HTB ⟨?_⟩ ⟨?_⟩ ⟨?_⟩ ⟨?_⟩ ⟨Pure.told_some⟩ ?_ ?_ ?_ ?_
  · rw [hi]; exact some_getD _ _ (Pure.code_some i)
  · rw [hj]; exact some_getD _ _ (Pure.code_some j)
  · rw [hp]; exact some_getD _ _ (Pure.line_some p)
  · rw [hq]; exact some_getD _ _ (Pure.line_some q)
  · rw [hi]; exact Pure.code_out i
  · rw [hi, hj]; exact Pure.code_in i j
  · rw [hp]; exact Pure.line_out p
  · rw [hp, hq]; exact Pure.line_in p q
set_option maxRecDepth 100000 in
theorem lifted (os : Os) (started : os.Started) (H : Type) (enc : TypeId × Value → H) :
    ReturnsInHanded {} Tryd.checked os 3 .any (fun w args => (Rows.reportWordsSpec.pre enc Tryd.prog Tryd.f3 Rows.reportWordsRow.domain false w args ∧ laidMetH Tryd.prog Rows.reportWordsRow.laid w) ∧ sizedMet enc Tryd.prog Tryd.f3 (OpenSpec.ofChange Rows.reportWordsSpec) false w args)
      (Rows.reportWordsSpec.post enc Tryd.prog Tryd.f3 false true false false) := by
  refine returnsInHanded_of_change_and (C := Tryd.checked) (X := fun w _ => laidMetH Tryd.prog Rows.reportWordsRow.laid w) (fun _ _ _ hh h => h.of_heap hh) Laid.own started (by kernel_rfl) Tryd.func3
    (ChangeSpec.witness_shaped (enc := enc) (C := Tryd.checked) (os := os) (X := fun w _ => laidMetH Tryd.prog Rows.reportWordsRow.laid w) false (World.laidAll Tryd.prog os Rows.reportWordsRow.laid) #[.int .i64 0, .int .i64 0] 8 (World.laidAll_os _ _ _)
      (World.shaped_of_ZipB (by kernel_rfl) (by kernel_rfl)) (by kernel_rfl) (by kernel_rfl) (by kernel_rfl)
      (Laid.met os _)) ?_
  intro W base args ds gs before hval0 hW _ _ hL _
  have hval : ∀ (j : Nat) t v, Tryd.f3.params[j]? = some t → args[j]? = some v → Value.okWide Tryd.prog W .any base t v := hval0
  have hW' := hW
  obtain ⟨p, q, hA0, hV, rfl, hfz, hnd⟩ := hW
  have hA : DataW.TrodAll enc Tryd.prog W 0 (fun _ => true) true Tryd.f3.params.toList args.toList ds p := hA0
  rw [Tryd.params3] at hA hval
  obtain ⟨v0, v1, d0, d1, p0, p1, rfl, rfl, rfl, h0, h1⟩ := trodAll_two hA
  obtain ⟨rfl, rfl⟩ := trodVars_none hV
  obtain ⟨a0, rfl, rfl, rfl, w0⟩ := open_int Tryd.underlying3 (hval 0 3 v0 rfl rfl) h0
  obtain ⟨a1, rfl, rfl, rfl, w1⟩ := open_int Tryd.underlying3 (hval 1 3 v1 rfl rfl) h1
  clear hA0 hval0
  simp only [List.append_nil] at hW'
  refine (walk a0 a1 W ⟨Laid.tab hL⟩).mono fun e W' ⟨he, bel⟩ => ?_
  subst he
  exact ⟨_, rfl, _, _, _, [], [], [], hW', trodAll_mk1 (shut_bool Tryd.underlying4 _), trodAll_mk2 (shut_int Tryd.underlying3 w0) (shut_int Tryd.underlying3 w1), rfl, bel.frame _, fun h => by cases h⟩
theorem over : Rows.reportWordsRow.holds Tryd.pinned (OpenSpec.ofChange Rows.reportWordsSpec) :=
  OpenClaim.holds_of_wide 3 Tryd.f3 rfl rfl rfl rfl rfl rfl rfl ⟨rfl, rfl, rfl, rfl, rfl⟩ rfl rfl rfl rfl rfl (by kernel_rfl) Tryd.func3 (by kernel_rfl)
    (of_decide_eq_true (by kernel_rfl)) (by unfold Func.isWrapper; first | (rw [if_pos (by decide +kernel)]; kernel_rfl) | (rw [if_neg (by decide +kernel)]; exact ⟨rfl, rfl⟩))
    (fun os started H enc _ => lifted os started H enc)
theorem card : Rows.ReportWordsCardSaid :=
  Claim7.holds_tied_plain_at .later [] [.data, .data, .data] true (true, "eb4ad6261b1fa05a850502cdbecacd06c08b571688fb284df3978b30448d15d4") false over (fun _ h => by cases h) (by kernel_rfl) (fun _ h => by cases h) reportWords_row_tie rfl ⟨rfl, rfl⟩ (by kernel_rfl) rfl
    (fun f fn hf hfn => by
      obtain rfl : f = 3 := Option.some.inj ((show Tryd.prog.funcNamed "quorumite/quorumitelaw27.ReportWords" = some 3 by kernel_rfl).symm.trans hf) |>.symm
      obtain rfl : fn = Tryd.f3 := (Option.some.inj (Tryd.func3.symm.trans hfn)).symm
      exact ⟨by kernel_rfl, fun j t ht => by
        rw [Tryd.params3] at ht
        have hm : t ∈ [3, 3] := by simpa using Array.mem_of_getElem? ht
        have hall : ([3, 3].all fun u => !Tryd.prog.wantsStandIn u) = true := by kernel_rfl
        exact (show Tryd.prog.wantsStandIn t = false by simpa using List.all_eq_true.1 hall t hm)⟩)
    (by kernel_rfl)
#print axioms card
end Go.Proofs.YtjcjibghnpjegaaDoor.reportWords
namespace Go.Proofs.YtjcjibghnpjegaaDoor
/-- The tied card, under a short name, for the claim. -/
theorem reportWordsCard_holds : Rows.ReportWordsCardSaid := reportWords.card
end Go.Proofs.YtjcjibghnpjegaaDoor
