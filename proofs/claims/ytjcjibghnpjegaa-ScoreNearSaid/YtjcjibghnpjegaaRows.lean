/-
  No cell of these rows narrows 'for every input' (looked for: loops, veiled, ifaces, maps, wideKeys, modest, calm, conditions, laid).
  DERIVED. THE GIVEN ROWS OF THIS SEAT. 14 by the template 'for every input the law returns true; each argument reads behind the call as it read before'; 0 by the template 'total and deterministic' (their statements: YtjcjibghnpjegaaTotals.lean).
  GIVEN WITH THE SEED: the statements are not yours to turn. If you find one false, say at which input.
  Laid BY PROGRAM, IN A SANDBOX (cutbox-rows.mjs): the forced cells as the released guide's own fill.sh prints them over the translation 0278a34b32705bd5… (all of the seat's roots in one cut). By AI agents, Wed Nov 11 2026. No macro, syntax, notation, axiom, sorry.
-/
import Derived.Test.YtjcjibghnpjegaaChecked
import GoSem.Claim
import GoSem.ClaimJoined
import GoSem.ClaimMapViews
import Derived.JoinedTies
import Derived.KernelRfl
namespace Go.Proofs.Ytjcjibghnpjegaa
/- THE CELL 'sum', in the pinned program and in every row, IS THE sha256 OF THE DUMP (.gsa) THAT YtjcjibghnpjegaaProg.lean LOADS. Nothing in Lean hashes anything: it is a label: what it is worth is what the hold of that sum in a sandbox is worth. -/
noncomputable def Try.pinned : Pinned := { name := "ytjcjibghnpjegaa", sum := "0278a34b32705bd5010fd148d6811d7be32bf4a35b51d589e9df4d9e56f546e4", checked := Try.checked }
namespace Rows
def none {H : Type} : Left H := { results := [], args := [] }

/-- 'quorumitelaw9.OrderUnion': WHATEVER THE INPUT: true; the input reads as it did. -/
def orderUnionSpec : ChangeSpec := { name := "orderUnion", fn := fun _ => fun
  | [d1, d2] => { results := [.lit (.bool true)], args := [d1, d2] }
  | _ => none }
def orderUnionRow : OpenClaim := { program := "ytjcjibghnpjegaa", sum := "0278a34b32705bd5010fd148d6811d7be32bf4a35b51d589e9df4d9e56f546e4", func := "quorumite/quorumitelaw9.OrderUnion", spec := "orderUnion", recurses := true, apart := false }
def OrderUnionSaid : Prop := orderUnionRow.holds Try.pinned (OpenSpec.ofChange orderUnionSpec)

/-- ITS FALSE NEIGHBOUR: 'it returns false'. Refute it at one input. -/
def orderUnionWrong : ChangeSpec := { name := "orderUnion", fn := fun _ => fun
  | [d1, d2] => { results := [.lit (.bool false)], args := [d1, d2] }
  | _ => none }
def OrderUnionWrongFalsely : Prop := orderUnionRow.holds Try.pinned (OpenSpec.ofChange orderUnionWrong)

/-- 'quorumitelaw9.OrderAsks': WHATEVER THE INPUT: true; the input reads as it did. -/
def orderAsksSpec : ChangeSpec := { name := "orderAsks", fn := fun _ => fun
  | [d1, d2, d3, d4] => { results := [.lit (.bool true)], args := [d1, d2, d3, d4] }
  | _ => none }
def orderAsksRow : OpenClaim := { program := "ytjcjibghnpjegaa", sum := "0278a34b32705bd5010fd148d6811d7be32bf4a35b51d589e9df4d9e56f546e4", func := "quorumite/quorumitelaw9.OrderAsks", spec := "orderAsks", recurses := true, apart := false }
def OrderAsksSaid : Prop := orderAsksRow.holds Try.pinned (OpenSpec.ofChange orderAsksSpec)

/-- ITS FALSE NEIGHBOUR: 'it returns false'. Refute it at one input. -/
def orderAsksWrong : ChangeSpec := { name := "orderAsks", fn := fun _ => fun
  | [d1, d2, d3, d4] => { results := [.lit (.bool false)], args := [d1, d2, d3, d4] }
  | _ => none }
def OrderAsksWrongFalsely : Prop := orderAsksRow.holds Try.pinned (OpenSpec.ofChange orderAsksWrong)

/-- 'quorumitelaw9.OrderSorts': WHATEVER THE INPUT: true; the input reads as it did. -/
def orderSortsSpec : ChangeSpec := { name := "orderSorts", fn := fun _ => fun
  | [d] => { results := [.lit (.bool true)], args := [d] }
  | _ => none }
def orderSortsRow : OpenClaim := { program := "ytjcjibghnpjegaa", sum := "0278a34b32705bd5010fd148d6811d7be32bf4a35b51d589e9df4d9e56f546e4", func := "quorumite/quorumitelaw9.OrderSorts", spec := "orderSorts", recurses := true, apart := false }
def OrderSortsSaid : Prop := orderSortsRow.holds Try.pinned (OpenSpec.ofChange orderSortsSpec)

/-- ITS FALSE NEIGHBOUR: 'it returns false'. Refute it at one input. -/
def orderSortsWrong : ChangeSpec := { name := "orderSorts", fn := fun _ => fun
  | [d] => { results := [.lit (.bool false)], args := [d] }
  | _ => none }
def OrderSortsWrongFalsely : Prop := orderSortsRow.holds Try.pinned (OpenSpec.ofChange orderSortsWrong)

/-- 'quorumitelaw9.OrderTurned': WHATEVER THE INPUT: true; the input reads as it did. -/
def orderTurnedSpec : ChangeSpec := { name := "orderTurned", fn := fun _ => fun
  | [d1, d2, d3] => { results := [.lit (.bool true)], args := [d1, d2, d3] }
  | _ => none }
def orderTurnedRow : OpenClaim := { program := "ytjcjibghnpjegaa", sum := "0278a34b32705bd5010fd148d6811d7be32bf4a35b51d589e9df4d9e56f546e4", func := "quorumite/quorumitelaw9.OrderTurned", spec := "orderTurned", recurses := true, apart := false }
def OrderTurnedSaid : Prop := orderTurnedRow.holds Try.pinned (OpenSpec.ofChange orderTurnedSpec)

/-- ITS FALSE NEIGHBOUR: 'it returns false'. Refute it at one input. -/
def orderTurnedWrong : ChangeSpec := { name := "orderTurned", fn := fun _ => fun
  | [d1, d2, d3] => { results := [.lit (.bool false)], args := [d1, d2, d3] }
  | _ => none }
def OrderTurnedWrongFalsely : Prop := orderTurnedRow.holds Try.pinned (OpenSpec.ofChange orderTurnedWrong)

/-- 'quorumitelaw9.OrderRanks': WHATEVER THE INPUT: true; the input reads as it did. -/
def orderRanksSpec : ChangeSpec := { name := "orderRanks", fn := fun _ => fun
  | [d1, d2, d3] => { results := [.lit (.bool true)], args := [d1, d2, d3] }
  | _ => none }
def orderRanksRow : OpenClaim := { program := "ytjcjibghnpjegaa", sum := "0278a34b32705bd5010fd148d6811d7be32bf4a35b51d589e9df4d9e56f546e4", func := "quorumite/quorumitelaw9.OrderRanks", spec := "orderRanks", recurses := true, apart := false }
def OrderRanksSaid : Prop := orderRanksRow.holds Try.pinned (OpenSpec.ofChange orderRanksSpec)

/-- ITS FALSE NEIGHBOUR: 'it returns false'. Refute it at one input. -/
def orderRanksWrong : ChangeSpec := { name := "orderRanks", fn := fun _ => fun
  | [d1, d2, d3] => { results := [.lit (.bool false)], args := [d1, d2, d3] }
  | _ => none }
def OrderRanksWrongFalsely : Prop := orderRanksRow.holds Try.pinned (OpenSpec.ofChange orderRanksWrong)

/-- 'quorumitelaw10.TrimAsks': WHATEVER THE INPUT: true; the input reads as it did. -/
def trimAsksSpec : ChangeSpec := { name := "trimAsks", fn := fun _ => fun
  | [d1, d2, d3, d4] => { results := [.lit (.bool true)], args := [d1, d2, d3, d4] }
  | _ => none }
def trimAsksRow : OpenClaim := { program := "ytjcjibghnpjegaa", sum := "0278a34b32705bd5010fd148d6811d7be32bf4a35b51d589e9df4d9e56f546e4", func := "quorumite/quorumitelaw10.TrimAsks", spec := "trimAsks", recurses := true, apart := false }
def TrimAsksSaid : Prop := trimAsksRow.holds Try.pinned (OpenSpec.ofChange trimAsksSpec)

/-- ITS FALSE NEIGHBOUR: 'it returns false'. Refute it at one input. -/
def trimAsksWrong : ChangeSpec := { name := "trimAsks", fn := fun _ => fun
  | [d1, d2, d3, d4] => { results := [.lit (.bool false)], args := [d1, d2, d3, d4] }
  | _ => none }
def TrimAsksWrongFalsely : Prop := trimAsksRow.holds Try.pinned (OpenSpec.ofChange trimAsksWrong)

/-- 'quorumitelaw10.TrimLiars': WHATEVER THE INPUT: true; the input reads as it did. -/
def trimLiarsSpec : ChangeSpec := { name := "trimLiars", fn := fun _ => fun
  | [d1, d2, d3] => { results := [.lit (.bool true)], args := [d1, d2, d3] }
  | _ => none }
def trimLiarsRow : OpenClaim := { program := "ytjcjibghnpjegaa", sum := "0278a34b32705bd5010fd148d6811d7be32bf4a35b51d589e9df4d9e56f546e4", func := "quorumite/quorumitelaw10.TrimLiars", spec := "trimLiars", recurses := true, apart := false }
def TrimLiarsSaid : Prop := trimLiarsRow.holds Try.pinned (OpenSpec.ofChange trimLiarsSpec)

/-- ITS FALSE NEIGHBOUR: 'it returns false'. Refute it at one input. -/
def trimLiarsWrong : ChangeSpec := { name := "trimLiars", fn := fun _ => fun
  | [d1, d2, d3] => { results := [.lit (.bool false)], args := [d1, d2, d3] }
  | _ => none }
def TrimLiarsWrongFalsely : Prop := trimLiarsRow.holds Try.pinned (OpenSpec.ofChange trimLiarsWrong)

/-- 'quorumitelaw10.TrimRises': WHATEVER THE INPUT: true; the input reads as it did. -/
def trimRisesSpec : ChangeSpec := { name := "trimRises", fn := fun _ => fun
  | [d1, d2, d3] => { results := [.lit (.bool true)], args := [d1, d2, d3] }
  | _ => none }
def trimRisesRow : OpenClaim := { program := "ytjcjibghnpjegaa", sum := "0278a34b32705bd5010fd148d6811d7be32bf4a35b51d589e9df4d9e56f546e4", func := "quorumite/quorumitelaw10.TrimRises", spec := "trimRises", recurses := true, apart := false }
def TrimRisesSaid : Prop := trimRisesRow.holds Try.pinned (OpenSpec.ofChange trimRisesSpec)

/-- ITS FALSE NEIGHBOUR: 'it returns false'. Refute it at one input. -/
def trimRisesWrong : ChangeSpec := { name := "trimRises", fn := fun _ => fun
  | [d1, d2, d3] => { results := [.lit (.bool false)], args := [d1, d2, d3] }
  | _ => none }
def TrimRisesWrongFalsely : Prop := trimRisesRow.holds Try.pinned (OpenSpec.ofChange trimRisesWrong)

/-- 'quorumitelaw10.TrimLike': WHATEVER THE INPUT: true; the input reads as it did. -/
def trimLikeSpec : ChangeSpec := { name := "trimLike", fn := fun _ => fun
  | [d1, d2, d3] => { results := [.lit (.bool true)], args := [d1, d2, d3] }
  | _ => none }
def trimLikeRow : OpenClaim := { program := "ytjcjibghnpjegaa", sum := "0278a34b32705bd5010fd148d6811d7be32bf4a35b51d589e9df4d9e56f546e4", func := "quorumite/quorumitelaw10.TrimLike", spec := "trimLike", recurses := true, apart := false }
def TrimLikeSaid : Prop := trimLikeRow.holds Try.pinned (OpenSpec.ofChange trimLikeSpec)

/-- ITS FALSE NEIGHBOUR: 'it returns false'. Refute it at one input. -/
def trimLikeWrong : ChangeSpec := { name := "trimLike", fn := fun _ => fun
  | [d1, d2, d3] => { results := [.lit (.bool false)], args := [d1, d2, d3] }
  | _ => none }
def TrimLikeWrongFalsely : Prop := trimLikeRow.holds Try.pinned (OpenSpec.ofChange trimLikeWrong)

/-- 'quorumitelaw10.TrimSpans': WHATEVER THE INPUT: true; the input reads as it did. -/
def trimSpansSpec : ChangeSpec := { name := "trimSpans", fn := fun _ => fun
  | [d1, d2] => { results := [.lit (.bool true)], args := [d1, d2] }
  | _ => none }
def trimSpansRow : OpenClaim := { program := "ytjcjibghnpjegaa", sum := "0278a34b32705bd5010fd148d6811d7be32bf4a35b51d589e9df4d9e56f546e4", func := "quorumite/quorumitelaw10.TrimSpans", spec := "trimSpans", recurses := true, apart := false }
def TrimSpansSaid : Prop := trimSpansRow.holds Try.pinned (OpenSpec.ofChange trimSpansSpec)

/-- ITS FALSE NEIGHBOUR: 'it returns false'. Refute it at one input. -/
def trimSpansWrong : ChangeSpec := { name := "trimSpans", fn := fun _ => fun
  | [d1, d2] => { results := [.lit (.bool false)], args := [d1, d2] }
  | _ => none }
def TrimSpansWrongFalsely : Prop := trimSpansRow.holds Try.pinned (OpenSpec.ofChange trimSpansWrong)

/-- 'quorumitelaw12.ScoreNear': WHATEVER THE INPUT: true; the input reads as it did. -/
def scoreNearSpec : ChangeSpec := { name := "scoreNear", fn := fun _ => fun
  | [d1, d2, d3, d4, d5] => { results := [.lit (.bool true)], args := [d1, d2, d3, d4, d5] }
  | _ => none }
def scoreNearRow : OpenClaim := { program := "ytjcjibghnpjegaa", sum := "0278a34b32705bd5010fd148d6811d7be32bf4a35b51d589e9df4d9e56f546e4", func := "quorumite/quorumitelaw12.ScoreNear", spec := "scoreNear", inPlace := ["sync/atomic.AddInt64"], unfollowed := true, recurses := true, apart := false }
def ScoreNearSaid : Prop := scoreNearRow.holds Try.pinned (OpenSpec.ofChange scoreNearSpec)

/-- ITS FALSE NEIGHBOUR: 'it returns false'. Refute it at one input. -/
def scoreNearWrong : ChangeSpec := { name := "scoreNear", fn := fun _ => fun
  | [d1, d2, d3, d4, d5] => { results := [.lit (.bool false)], args := [d1, d2, d3, d4, d5] }
  | _ => none }
def ScoreNearWrongFalsely : Prop := scoreNearRow.holds Try.pinned (OpenSpec.ofChange scoreNearWrong)

/-- 'quorumitelaw12.ScoreProbe': WHATEVER THE INPUT: true; the input reads as it did. -/
def scoreProbeSpec : ChangeSpec := { name := "scoreProbe", fn := fun _ => fun
  | [d1, d2] => { results := [.lit (.bool true)], args := [d1, d2] }
  | _ => none }
def scoreProbeRow : OpenClaim := { program := "ytjcjibghnpjegaa", sum := "0278a34b32705bd5010fd148d6811d7be32bf4a35b51d589e9df4d9e56f546e4", func := "quorumite/quorumitelaw12.ScoreProbe", spec := "scoreProbe", inPlace := ["sync/atomic.AddInt64"], unfollowed := true, recurses := true, apart := false }
def ScoreProbeSaid : Prop := scoreProbeRow.holds Try.pinned (OpenSpec.ofChange scoreProbeSpec)

/-- ITS FALSE NEIGHBOUR: 'it returns false'. Refute it at one input. -/
def scoreProbeWrong : ChangeSpec := { name := "scoreProbe", fn := fun _ => fun
  | [d1, d2] => { results := [.lit (.bool false)], args := [d1, d2] }
  | _ => none }
def ScoreProbeWrongFalsely : Prop := scoreProbeRow.holds Try.pinned (OpenSpec.ofChange scoreProbeWrong)

/-- 'quorumitelaw12.ScoreSteps': WHATEVER THE INPUT: true; the input reads as it did. -/
def scoreStepsSpec : ChangeSpec := { name := "scoreSteps", fn := fun _ => fun
  | [d1, d2] => { results := [.lit (.bool true)], args := [d1, d2] }
  | _ => none }
def scoreStepsRow : OpenClaim := { program := "ytjcjibghnpjegaa", sum := "0278a34b32705bd5010fd148d6811d7be32bf4a35b51d589e9df4d9e56f546e4", func := "quorumite/quorumitelaw12.ScoreSteps", spec := "scoreSteps", inPlace := ["sync/atomic.AddInt64"], unfollowed := true, recurses := true, apart := false }
def ScoreStepsSaid : Prop := scoreStepsRow.holds Try.pinned (OpenSpec.ofChange scoreStepsSpec)

/-- ITS FALSE NEIGHBOUR: 'it returns false'. Refute it at one input. -/
def scoreStepsWrong : ChangeSpec := { name := "scoreSteps", fn := fun _ => fun
  | [d1, d2] => { results := [.lit (.bool false)], args := [d1, d2] }
  | _ => none }
def ScoreStepsWrongFalsely : Prop := scoreStepsRow.holds Try.pinned (OpenSpec.ofChange scoreStepsWrong)

/-- 'quorumitelaw12.ScoreMetrics': WHATEVER THE INPUT: true; the input reads as it did. -/
def scoreMetricsSpec : ChangeSpec := { name := "scoreMetrics", fn := fun _ => fun
  | [d1, d2] => { results := [.lit (.bool true)], args := [d1, d2] }
  | _ => none }
def scoreMetricsRow : OpenClaim := { program := "ytjcjibghnpjegaa", sum := "0278a34b32705bd5010fd148d6811d7be32bf4a35b51d589e9df4d9e56f546e4", func := "quorumite/quorumitelaw12.ScoreMetrics", spec := "scoreMetrics", inPlace := ["sync/atomic.AddInt64"], unfollowed := true, recurses := true, apart := false }
def ScoreMetricsSaid : Prop := scoreMetricsRow.holds Try.pinned (OpenSpec.ofChange scoreMetricsSpec)

/-- ITS FALSE NEIGHBOUR: 'it returns false'. Refute it at one input. -/
def scoreMetricsWrong : ChangeSpec := { name := "scoreMetrics", fn := fun _ => fun
  | [d1, d2] => { results := [.lit (.bool false)], args := [d1, d2] }
  | _ => none }
def ScoreMetricsWrongFalsely : Prop := scoreMetricsRow.holds Try.pinned (OpenSpec.ofChange scoreMetricsWrong)

/- THE SECOND FORM. 'bulk': how many values and letters a reading holds, each counted each time it is reached (what is shared counts as often as it is met; a slice's spare places count too). A statement '..UptoSaid' is the law's where the arguments, and the package variables that the reading takes, are together of bulk at most 1048576: NARROWER than '..Said'. Prove '..Said' where nothing that the law and all that it calls make is longer than what came in: it says more and counts as full. Else prove '..UptoSaid'. A law counts once. -/
mutual
def uptoBulk {H : Type} : DataW H → Nat
  | .lit (.string bytes) => bytes.length + 1
  | .lit _ => 1
  | .nil => 1
  | .ptr d => uptoBulk d + 1
  | .slice elems spare => uptoBulkAll elems + uptoBulkAll spare + 1
  | .agg parts => uptoBulkAll parts + 1
  | .iface _ d => uptoBulk d + 1
  | .map entries => uptoBulkEntries entries + 1
  | .held _ => 1
def uptoBulkAll {H : Type} : List (DataW H) → Nat
  | [] => 0
  | d :: r => uptoBulk d + uptoBulkAll r
def uptoBulkEntries {H : Type} : List (Lit × DataW H) → Nat
  | [] => 0
  | x :: r => uptoBulkEntry x + uptoBulkEntries r
def uptoBulkEntry {H : Type} : Lit × DataW H → Nat
  | (.string bytes, d) => bytes.length + uptoBulk d + 1
  | (_, d) => uptoBulk d + 1
 end
def uptoSmall : (H : Type) → List (DataW H) → Bool := fun _ ds => decide (uptoBulkAll ds ≤ 1048576)
def OpenSpec.upto (s : _root_.Go.ChangeSpec) : _root_.Go.OpenSpec := { _root_.Go.OpenSpec.ofChange s with cond := some uptoSmall }

/-- 'quorumitelaw9.OrderUnion', WHERE WHAT IT READS IS OF BULK AT MOST 1048576: true; the input reads as it did. -/
def orderUnionUptoRow : OpenClaim := { program := "ytjcjibghnpjegaa", sum := "0278a34b32705bd5010fd148d6811d7be32bf4a35b51d589e9df4d9e56f546e4", func := "quorumite/quorumitelaw9.OrderUnion", spec := "orderUnion", recurses := true, apart := false, narrowed := true }
def OrderUnionUptoSaid : Prop := orderUnionUptoRow.holds Try.pinned (OpenSpec.upto orderUnionSpec)

/-- 'quorumitelaw9.OrderAsks', WHERE WHAT IT READS IS OF BULK AT MOST 1048576: true; the input reads as it did. -/
def orderAsksUptoRow : OpenClaim := { program := "ytjcjibghnpjegaa", sum := "0278a34b32705bd5010fd148d6811d7be32bf4a35b51d589e9df4d9e56f546e4", func := "quorumite/quorumitelaw9.OrderAsks", spec := "orderAsks", recurses := true, apart := false, narrowed := true }
def OrderAsksUptoSaid : Prop := orderAsksUptoRow.holds Try.pinned (OpenSpec.upto orderAsksSpec)

/-- 'quorumitelaw9.OrderSorts', WHERE WHAT IT READS IS OF BULK AT MOST 1048576: true; the input reads as it did. -/
def orderSortsUptoRow : OpenClaim := { program := "ytjcjibghnpjegaa", sum := "0278a34b32705bd5010fd148d6811d7be32bf4a35b51d589e9df4d9e56f546e4", func := "quorumite/quorumitelaw9.OrderSorts", spec := "orderSorts", recurses := true, apart := false, narrowed := true }
def OrderSortsUptoSaid : Prop := orderSortsUptoRow.holds Try.pinned (OpenSpec.upto orderSortsSpec)

/-- 'quorumitelaw9.OrderTurned', WHERE WHAT IT READS IS OF BULK AT MOST 1048576: true; the input reads as it did. -/
def orderTurnedUptoRow : OpenClaim := { program := "ytjcjibghnpjegaa", sum := "0278a34b32705bd5010fd148d6811d7be32bf4a35b51d589e9df4d9e56f546e4", func := "quorumite/quorumitelaw9.OrderTurned", spec := "orderTurned", recurses := true, apart := false, narrowed := true }
def OrderTurnedUptoSaid : Prop := orderTurnedUptoRow.holds Try.pinned (OpenSpec.upto orderTurnedSpec)

/-- 'quorumitelaw9.OrderRanks', WHERE WHAT IT READS IS OF BULK AT MOST 1048576: true; the input reads as it did. -/
def orderRanksUptoRow : OpenClaim := { program := "ytjcjibghnpjegaa", sum := "0278a34b32705bd5010fd148d6811d7be32bf4a35b51d589e9df4d9e56f546e4", func := "quorumite/quorumitelaw9.OrderRanks", spec := "orderRanks", recurses := true, apart := false, narrowed := true }
def OrderRanksUptoSaid : Prop := orderRanksUptoRow.holds Try.pinned (OpenSpec.upto orderRanksSpec)

/-- 'quorumitelaw10.TrimAsks', WHERE WHAT IT READS IS OF BULK AT MOST 1048576: true; the input reads as it did. -/
def trimAsksUptoRow : OpenClaim := { program := "ytjcjibghnpjegaa", sum := "0278a34b32705bd5010fd148d6811d7be32bf4a35b51d589e9df4d9e56f546e4", func := "quorumite/quorumitelaw10.TrimAsks", spec := "trimAsks", recurses := true, apart := false, narrowed := true }
def TrimAsksUptoSaid : Prop := trimAsksUptoRow.holds Try.pinned (OpenSpec.upto trimAsksSpec)

/-- 'quorumitelaw10.TrimLiars', WHERE WHAT IT READS IS OF BULK AT MOST 1048576: true; the input reads as it did. -/
def trimLiarsUptoRow : OpenClaim := { program := "ytjcjibghnpjegaa", sum := "0278a34b32705bd5010fd148d6811d7be32bf4a35b51d589e9df4d9e56f546e4", func := "quorumite/quorumitelaw10.TrimLiars", spec := "trimLiars", recurses := true, apart := false, narrowed := true }
def TrimLiarsUptoSaid : Prop := trimLiarsUptoRow.holds Try.pinned (OpenSpec.upto trimLiarsSpec)

/-- 'quorumitelaw10.TrimRises', WHERE WHAT IT READS IS OF BULK AT MOST 1048576: true; the input reads as it did. -/
def trimRisesUptoRow : OpenClaim := { program := "ytjcjibghnpjegaa", sum := "0278a34b32705bd5010fd148d6811d7be32bf4a35b51d589e9df4d9e56f546e4", func := "quorumite/quorumitelaw10.TrimRises", spec := "trimRises", recurses := true, apart := false, narrowed := true }
def TrimRisesUptoSaid : Prop := trimRisesUptoRow.holds Try.pinned (OpenSpec.upto trimRisesSpec)

/-- 'quorumitelaw10.TrimLike', WHERE WHAT IT READS IS OF BULK AT MOST 1048576: true; the input reads as it did. -/
def trimLikeUptoRow : OpenClaim := { program := "ytjcjibghnpjegaa", sum := "0278a34b32705bd5010fd148d6811d7be32bf4a35b51d589e9df4d9e56f546e4", func := "quorumite/quorumitelaw10.TrimLike", spec := "trimLike", recurses := true, apart := false, narrowed := true }
def TrimLikeUptoSaid : Prop := trimLikeUptoRow.holds Try.pinned (OpenSpec.upto trimLikeSpec)

/-- 'quorumitelaw10.TrimSpans', WHERE WHAT IT READS IS OF BULK AT MOST 1048576: true; the input reads as it did. -/
def trimSpansUptoRow : OpenClaim := { program := "ytjcjibghnpjegaa", sum := "0278a34b32705bd5010fd148d6811d7be32bf4a35b51d589e9df4d9e56f546e4", func := "quorumite/quorumitelaw10.TrimSpans", spec := "trimSpans", recurses := true, apart := false, narrowed := true }
def TrimSpansUptoSaid : Prop := trimSpansUptoRow.holds Try.pinned (OpenSpec.upto trimSpansSpec)

/-- 'quorumitelaw12.ScoreNear', WHERE WHAT IT READS IS OF BULK AT MOST 1048576: true; the input reads as it did. -/
def scoreNearUptoRow : OpenClaim := { program := "ytjcjibghnpjegaa", sum := "0278a34b32705bd5010fd148d6811d7be32bf4a35b51d589e9df4d9e56f546e4", func := "quorumite/quorumitelaw12.ScoreNear", spec := "scoreNear", inPlace := ["sync/atomic.AddInt64"], unfollowed := true, recurses := true, apart := false, narrowed := true }
def ScoreNearUptoSaid : Prop := scoreNearUptoRow.holds Try.pinned (OpenSpec.upto scoreNearSpec)

/-- 'quorumitelaw12.ScoreProbe', WHERE WHAT IT READS IS OF BULK AT MOST 1048576: true; the input reads as it did. -/
def scoreProbeUptoRow : OpenClaim := { program := "ytjcjibghnpjegaa", sum := "0278a34b32705bd5010fd148d6811d7be32bf4a35b51d589e9df4d9e56f546e4", func := "quorumite/quorumitelaw12.ScoreProbe", spec := "scoreProbe", inPlace := ["sync/atomic.AddInt64"], unfollowed := true, recurses := true, apart := false, narrowed := true }
def ScoreProbeUptoSaid : Prop := scoreProbeUptoRow.holds Try.pinned (OpenSpec.upto scoreProbeSpec)

/-- 'quorumitelaw12.ScoreSteps', WHERE WHAT IT READS IS OF BULK AT MOST 1048576: true; the input reads as it did. -/
def scoreStepsUptoRow : OpenClaim := { program := "ytjcjibghnpjegaa", sum := "0278a34b32705bd5010fd148d6811d7be32bf4a35b51d589e9df4d9e56f546e4", func := "quorumite/quorumitelaw12.ScoreSteps", spec := "scoreSteps", inPlace := ["sync/atomic.AddInt64"], unfollowed := true, recurses := true, apart := false, narrowed := true }
def ScoreStepsUptoSaid : Prop := scoreStepsUptoRow.holds Try.pinned (OpenSpec.upto scoreStepsSpec)

/-- 'quorumitelaw12.ScoreMetrics', WHERE WHAT IT READS IS OF BULK AT MOST 1048576: true; the input reads as it did. -/
def scoreMetricsUptoRow : OpenClaim := { program := "ytjcjibghnpjegaa", sum := "0278a34b32705bd5010fd148d6811d7be32bf4a35b51d589e9df4d9e56f546e4", func := "quorumite/quorumitelaw12.ScoreMetrics", spec := "scoreMetrics", inPlace := ["sync/atomic.AddInt64"], unfollowed := true, recurses := true, apart := false, narrowed := true }
def ScoreMetricsUptoSaid : Prop := scoreMetricsUptoRow.holds Try.pinned (OpenSpec.upto scoreMetricsSpec)

end Rows
end Go.Proofs.Ytjcjibghnpjegaa
