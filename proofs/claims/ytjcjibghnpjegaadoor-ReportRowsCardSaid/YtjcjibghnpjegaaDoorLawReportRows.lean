/- ReportRows: the walk, the plain law and the laid table joined: the row, and its tied card. Conditions: none beyond the row's own. -/
import Derived.Test.YtjcjibghnpjegaaDoorRows
import Derived.Test.YtjcjibghnpjegaaDoorCards
import Derived.Test.YtjcjibghnpjegaaDoorTie
import Derived.Test.YtjcjibghnpjegaaDoorLaid
import Derived.Test.YtjcjibghnpjegaaDoorOuts
import Derived.Test.YtjcjibghnpjegaaDoorPureReportRows
import Derived.WalkKit
import Derived.ProofKit
import Derived.OpenShut
import Derived.ShutString
import Derived.ChangeOld
import Derived.Below
import Derived.SizedLaws
namespace Go.Proofs.YtjcjibghnpjegaaDoor.reportRows
open Go.ChangeShapes Go.WideShapes Go.ChangeAt Go.RowKit
open Go.ChangeMaps (open_string shut_string)
open Go.Proofs.YtjcjibghnpjegaaDoor.Pd Go.Proofs.YtjcjibghnpjegaaDoorW.PrintWords
set_option linter.unusedVariables false
theorem laidOut : laidOutB Tryd.prog = true := by kernel_rfl
theorem walk (A0 : Option Addr) (c0 : Nat) (l0 : List S29) (A1 : Option Addr) (c1 : Nat) (l1 : List S29) (n0 n1 : Nat) (e0 : l0.length = n0) (e1 : l1.length = n1) (w : World) (HTB : Aside0 (TabOk w)) (hr0 : Kd.C k29 w A0 l0.length l0) (hc0 : n0 ≤ c0) (hr1 : Kd.C k29 w A1 l1.length l1) (hc1 : n1 ≤ c1) (h0 : ∀ o ∈ l0, Rep.Ok o) (h1 : ∀ o ∈ l1, Rep.Ok o) :
    Calls Tryd.prog 4 #[.slice A0 n0 c0, .slice A1 n1 c1] w fun e w' => e = .returned (.bool true) ∧ Below w.heap.size w w' := by
  subst e0 e1
  obtain ⟨k, hk⟩ := (Rep.rows_true l0 l1 h0 h1).rounds
  exact quorumitelaw27_ReportRows.calls k A0 c0 l0 A1 c1 l1 true w HTB hr0 hc0 hr1 hc1 rfl hk
set_option maxRecDepth 100000 in
theorem lifted (os : Os) (started : os.Started) (H : Type) (enc : TypeId × Value → H) :
    ReturnsInHanded {} Tryd.checked os 4 .any (fun w args => (Rows.reportRowsSpec.pre enc Tryd.prog Tryd.f4 Rows.reportRowsRow.domain false w args ∧ laidMetH Tryd.prog Rows.reportRowsRow.laid w) ∧ sizedMet enc Tryd.prog Tryd.f4 (OpenSpec.ofChange Rows.reportRowsSpec) false w args)
      (Rows.reportRowsSpec.post enc Tryd.prog Tryd.f4 false true false false) := by
  refine returnsInHanded_of_change_and (C := Tryd.checked) (X := fun w _ => laidMetH Tryd.prog Rows.reportRowsRow.laid w) (fun _ _ _ hh h => h.of_heap hh) Laid.own started (by kernel_rfl) Tryd.func4
    (ChangeSpec.witness_shaped (enc := enc) (C := Tryd.checked) (os := os) (X := fun w _ => laidMetH Tryd.prog Rows.reportRowsRow.laid w) false (World.laidAll Tryd.prog os Rows.reportRowsRow.laid) #[.slice none 0 0, .slice none 0 0] 8 (World.laidAll_os _ _ _)
      (World.shaped_of_ZipB (by kernel_rfl) (by kernel_rfl)) (by kernel_rfl) (by kernel_rfl) (by kernel_rfl)
      (Laid.met os _)) ?_
  intro W base args ds gs before hval0 hW _ _ hL _
  have hval : ∀ (j : Nat) t v, Tryd.f4.params[j]? = some t → args[j]? = some v → Value.okWide Tryd.prog W .any base t v := hval0
  have hW' := hW
  obtain ⟨p, q, hA0, hV, rfl, hfz, hnd⟩ := hW
  have hA : DataW.TrodAll enc Tryd.prog W 0 (fun _ => true) true Tryd.f4.params.toList args.toList ds p := hA0
  rw [Tryd.params4] at hA hval
  obtain ⟨v0, v1, d0, d1, p0, p1, rfl, rfl, rfl, h0, h1⟩ := trodAll_two hA
  obtain ⟨rfl, rfl⟩ := trodVars_none hV
  obtain ⟨a0, len0, cap0, rfl⟩ := okWide_slice Tryd.underlying32 (hval 0 32 v0 rfl rfl)
  have lt0 : ∀ x ∈ p0, x.block < W.heap.size := by obtain ⟨m, hm⟩ := h0; exact DataW.trod_lt m _ _ _ hm
  obtain ⟨l0, hl0, hc0, ok0, hr0⟩ := Outs.open_outs h0
  obtain ⟨a1, len1, cap1, rfl⟩ := okWide_slice Tryd.underlying32 (hval 1 32 v1 rfl rfl)
  have lt1 : ∀ x ∈ p1, x.block < W.heap.size := by obtain ⟨m, hm⟩ := h1; exact DataW.trod_lt m _ _ _ hm
  obtain ⟨l1, hl1, hc1, ok1, hr1⟩ := Outs.open_outs h1
  clear hA0 hval0
  simp only [List.append_nil] at hW'
  refine (walk a0 cap0 l0 a1 cap1 l1 len0 len1 hl0 hl1 W ⟨Laid.tab hL⟩ hr0 hc0 hr1 hc1 ok0 ok1).mono fun e W' ⟨he, bel⟩ => ?_
  subst he
  exact ⟨_, rfl, _, _, _, [], _, [], hW', trodAll_mk1 (shut_bool Tryd.underlying4 _), trodAll_mk2 (Below.trod laidOut (by kernel_rfl) (of_decide_eq_true (by kernel_rfl)) h0 bel lt0) (Below.trod laidOut (by kernel_rfl) (of_decide_eq_true (by kernel_rfl)) h1 bel lt1), rfl, bel.frame _, fun h => by cases h⟩
theorem over : Rows.reportRowsRow.holds Tryd.pinned (OpenSpec.ofChange Rows.reportRowsSpec) :=
  OpenClaim.holds_of_wide 4 Tryd.f4 rfl rfl rfl rfl rfl rfl rfl ⟨rfl, rfl, rfl, rfl, rfl⟩ rfl rfl rfl rfl rfl (by kernel_rfl) Tryd.func4 (by kernel_rfl)
    (of_decide_eq_true (by kernel_rfl)) (by unfold Func.isWrapper; first | (rw [if_pos (by decide +kernel)]; kernel_rfl) | (rw [if_neg (by decide +kernel)]; exact ⟨rfl, rfl⟩))
    (fun os started H enc _ => lifted os started H enc)
theorem card : Rows.ReportRowsCardSaid :=
  Claim7.holds_tied_plain_at .later [] [.data, .data, .data] true (true, "eb4ad6261b1fa05a850502cdbecacd06c08b571688fb284df3978b30448d15d4") false over (fun _ h => by cases h) (by kernel_rfl) (fun _ h => by cases h) reportRows_row_tie rfl ⟨rfl, rfl⟩ (by kernel_rfl) rfl
    (fun f fn hf hfn => by
      obtain rfl : f = 4 := Option.some.inj ((show Tryd.prog.funcNamed "quorumite/quorumitelaw27.ReportRows" = some 4 by kernel_rfl).symm.trans hf) |>.symm
      obtain rfl : fn = Tryd.f4 := (Option.some.inj (Tryd.func4.symm.trans hfn)).symm
      exact ⟨by kernel_rfl, fun j t ht => by
        rw [Tryd.params4] at ht
        have hm : t ∈ [32, 32] := by simpa using Array.mem_of_getElem? ht
        have hall : ([32, 32].all fun u => !Tryd.prog.wantsStandIn u) = true := by kernel_rfl
        exact (show Tryd.prog.wantsStandIn t = false by simpa using List.all_eq_true.1 hall t hm)⟩)
    (by kernel_rfl)
#print axioms card
end Go.Proofs.YtjcjibghnpjegaaDoor.reportRows
namespace Go.Proofs.YtjcjibghnpjegaaDoor
/-- The tied card, under a short name, for the claim. -/
theorem reportRowsCard_holds : Rows.ReportRowsCardSaid := reportRows.card
end Go.Proofs.YtjcjibghnpjegaaDoor
