/- ReportAsks: the walk, the plain law and the laid table joined: the row, and its tied card. Conditions: none beyond the row's own. -/
import Derived.Test.YtjcjibghnpjegaaDoorRows
import Derived.Test.YtjcjibghnpjegaaDoorCards
import Derived.Test.YtjcjibghnpjegaaDoorTie
import Derived.Test.YtjcjibghnpjegaaDoorLaid
import Derived.Test.YtjcjibghnpjegaaDoorOuts
import Derived.Test.YtjcjibghnpjegaaDoorPureReportAsks
import Derived.WalkKit
import Derived.ProofKit
import Derived.OpenShut
import Derived.ShutString
import Derived.ChangeOld
import Derived.Below
import Derived.SizedLaws
namespace Go.Proofs.YtjcjibghnpjegaaDoor.reportAsks
open Go.ChangeShapes Go.WideShapes Go.ChangeAt Go.RowKit
open Go.ChangeMaps (open_string shut_string)
open Go.Proofs.YtjcjibghnpjegaaDoor.Pd Go.Proofs.YtjcjibghnpjegaaDoorW.PrintWords
set_option linter.unusedVariables false
theorem laidOut : laidOutB Tryd.prog = true := by kernel_rfl
theorem walk (a0 : Int) (A1 : Option Addr) (c1 : Nat) (l1 : List S29) (n1 : Nat) (e1 : l1.length = n1) (w : World) (HTB : Aside0 (TabOk w)) (hr1 : Kd.C k29 w A1 l1.length l1) (hc1 : n1 ≤ c1) (h1 : ∀ o ∈ l1, Rep.Ok o) :
    Calls Tryd.prog 5 #[.int .i64 a0, .slice A1 n1 c1] w fun e w' => e = .returned (.bool true) ∧ Below w.heap.size w w' := by
  subst e1
  obtain ⟨k, hk⟩ := (Rep.asks_true a0 l1 h1).rounds
  exact quorumitelaw27_ReportAsks.calls k a0 A1 c1 l1 true w HTB hr1 hc1 rfl hk
set_option maxRecDepth 100000 in
theorem lifted (os : Os) (started : os.Started) (H : Type) (enc : TypeId × Value → H) :
    ReturnsInHanded {} Tryd.checked os 5 .any (fun w args => (Rows.reportAsksSpec.pre enc Tryd.prog Tryd.f5 Rows.reportAsksRow.domain false w args ∧ laidMetH Tryd.prog Rows.reportAsksRow.laid w) ∧ sizedMet enc Tryd.prog Tryd.f5 (OpenSpec.ofChange Rows.reportAsksSpec) false w args)
      (Rows.reportAsksSpec.post enc Tryd.prog Tryd.f5 false true false false) := by
  refine returnsInHanded_of_change_and (C := Tryd.checked) (X := fun w _ => laidMetH Tryd.prog Rows.reportAsksRow.laid w) (fun _ _ _ hh h => h.of_heap hh) Laid.own started (by kernel_rfl) Tryd.func5
    (ChangeSpec.witness_shaped (enc := enc) (C := Tryd.checked) (os := os) (X := fun w _ => laidMetH Tryd.prog Rows.reportAsksRow.laid w) false (World.laidAll Tryd.prog os Rows.reportAsksRow.laid) #[.int .i64 0, .slice none 0 0] 8 (World.laidAll_os _ _ _)
      (World.shaped_of_ZipB (by kernel_rfl) (by kernel_rfl)) (by kernel_rfl) (by kernel_rfl) (by kernel_rfl)
      (Laid.met os _)) ?_
  intro W base args ds gs before hval0 hW _ _ hL _
  have hval : ∀ (j : Nat) t v, Tryd.f5.params[j]? = some t → args[j]? = some v → Value.okWide Tryd.prog W .any base t v := hval0
  have hW' := hW
  obtain ⟨p, q, hA0, hV, rfl, hfz, hnd⟩ := hW
  have hA : DataW.TrodAll enc Tryd.prog W 0 (fun _ => true) true Tryd.f5.params.toList args.toList ds p := hA0
  rw [Tryd.params5] at hA hval
  obtain ⟨v0, v1, d0, d1, p0, p1, rfl, rfl, rfl, h0, h1⟩ := trodAll_two hA
  obtain ⟨rfl, rfl⟩ := trodVars_none hV
  obtain ⟨a0, rfl, rfl, rfl, w0⟩ := open_int Tryd.underlying3 (hval 0 3 v0 rfl rfl) h0
  obtain ⟨a1, len1, cap1, rfl⟩ := okWide_slice Tryd.underlying32 (hval 1 32 v1 rfl rfl)
  have lt1 : ∀ x ∈ p1, x.block < W.heap.size := by obtain ⟨m, hm⟩ := h1; exact DataW.trod_lt m _ _ _ hm
  obtain ⟨l1, hl1, hc1, ok1, hr1⟩ := Outs.open_outs h1
  clear hA0 hval0
  simp only [List.append_nil] at hW'
  refine (walk a0 a1 cap1 l1 len1 hl1 W ⟨Laid.tab hL⟩ hr1 hc1 ok1).mono fun e W' ⟨he, bel⟩ => ?_
  subst he
  exact ⟨_, rfl, _, _, _, [], _, [], hW', trodAll_mk1 (shut_bool Tryd.underlying4 _), trodAll_mk2 (shut_int Tryd.underlying3 w0) (Below.trod laidOut (by kernel_rfl) (of_decide_eq_true (by kernel_rfl)) h1 bel lt1), rfl, bel.frame _, fun h => by cases h⟩
theorem over : Rows.reportAsksRow.holds Tryd.pinned (OpenSpec.ofChange Rows.reportAsksSpec) :=
  OpenClaim.holds_of_wide 5 Tryd.f5 rfl rfl rfl rfl rfl rfl rfl ⟨rfl, rfl, rfl, rfl, rfl⟩ rfl rfl rfl rfl rfl (by kernel_rfl) Tryd.func5 (by kernel_rfl)
    (of_decide_eq_true (by kernel_rfl)) (by unfold Func.isWrapper; first | (rw [if_pos (by decide +kernel)]; kernel_rfl) | (rw [if_neg (by decide +kernel)]; exact ⟨rfl, rfl⟩))
    (fun os started H enc _ => lifted os started H enc)
theorem card : Rows.ReportAsksCardSaid :=
  Claim7.holds_tied_plain_at .later [] [.data, .data, .data] true (true, "eb4ad6261b1fa05a850502cdbecacd06c08b571688fb284df3978b30448d15d4") false over (fun _ h => by cases h) (by kernel_rfl) (fun _ h => by cases h) reportAsks_row_tie rfl ⟨rfl, rfl⟩ (by kernel_rfl) rfl
    (fun f fn hf hfn => by
      obtain rfl : f = 5 := Option.some.inj ((show Tryd.prog.funcNamed "quorumite/quorumitelaw27.ReportAsks" = some 5 by kernel_rfl).symm.trans hf) |>.symm
      obtain rfl : fn = Tryd.f5 := (Option.some.inj (Tryd.func5.symm.trans hfn)).symm
      exact ⟨by kernel_rfl, fun j t ht => by
        rw [Tryd.params5] at ht
        have hm : t ∈ [3, 32] := by simpa using Array.mem_of_getElem? ht
        have hall : ([3, 32].all fun u => !Tryd.prog.wantsStandIn u) = true := by kernel_rfl
        exact (show Tryd.prog.wantsStandIn t = false by simpa using List.all_eq_true.1 hall t hm)⟩)
    (by kernel_rfl)
#print axioms card
end Go.Proofs.YtjcjibghnpjegaaDoor.reportAsks
namespace Go.Proofs.YtjcjibghnpjegaaDoor
/-- The tied card, under a short name, for the claim. -/
theorem reportAsksCard_holds : Rows.ReportAsksCardSaid := reportAsks.card
end Go.Proofs.YtjcjibghnpjegaaDoor
