/-
  DERIVED. GIVEN WITH THE SEED: THE CARDS: each row of YtjcjibghnpjegaaDoorRows.lean that lists a variable, with what it lists TIED to the program's text (the seventh form; the later family's looks); each row that meets fmt, with fmt's text TOLD by the authors' own Lean function (tested against real Go, not proved from fmt's source: count such statements apart). THE CARD IS WHAT COUNTS. Prove the row's statement (the work); the ties are given (YtjcjibghnpjegaaDoorTie.lean); close each card by the builder's one call (the guide's Derived/Test/ToyasCard.lean, 'card_holds'). Laid BY PROGRAM, IN A SANDBOX (cutbox-door.mjs). By AI agents, Wed Nov 11 2026. No macro, syntax, notation, axiom, sorry.
-/
import Derived.Test.YtjcjibghnpjegaaDoorRows
import GoSem.ClaimSeven
namespace Go.Proofs.YtjcjibghnpjegaaDoor
namespace Rows

/-- THE TIED CARD OF 'quorumitelaw27.ReportWords'. -/
def reportWordsCard : Claim7 := { stood := { row := reportWordsRow, standIns := [], harness := (true, "eb4ad6261b1fa05a850502cdbecacd06c08b571688fb284df3978b30448d15d4"), looks := false }, kinds := [], alts := [], laidByText := true, laidKinds := [.data, .data, .data], laidTests := true, laidLooks := .later }
def ReportWordsCardSaid : Prop := Claim7.holds Tryd.pinned (.plain (OpenSpec.ofChange reportWordsSpec)) reportWordsCard

/-- THE TIED CARD OF 'quorumitelaw27.ReportRows'. -/
def reportRowsCard : Claim7 := { stood := { row := reportRowsRow, standIns := [], harness := (true, "eb4ad6261b1fa05a850502cdbecacd06c08b571688fb284df3978b30448d15d4"), looks := false }, kinds := [], alts := [], laidByText := true, laidKinds := [.data, .data, .data], laidTests := true, laidLooks := .later }
def ReportRowsCardSaid : Prop := Claim7.holds Tryd.pinned (.plain (OpenSpec.ofChange reportRowsSpec)) reportRowsCard

/-- THE TIED CARD OF 'quorumitelaw27.ReportAsks'. -/
def reportAsksCard : Claim7 := { stood := { row := reportAsksRow, standIns := [], harness := (true, "eb4ad6261b1fa05a850502cdbecacd06c08b571688fb284df3978b30448d15d4"), looks := false }, kinds := [], alts := [], laidByText := true, laidKinds := [.data, .data, .data], laidTests := true, laidLooks := .later }
def ReportAsksCardSaid : Prop := Claim7.holds Tryd.pinned (.plain (OpenSpec.ofChange reportAsksSpec)) reportAsksCard

/-- THE SECOND FORM's CARD OF 'quorumitelaw27.ReportWords'. -/
def reportWordsUptoCard : Claim7 := { stood := { row := reportWordsUptoRow, standIns := [], harness := (true, "eb4ad6261b1fa05a850502cdbecacd06c08b571688fb284df3978b30448d15d4"), looks := false }, kinds := [], alts := [], laidByText := true, laidKinds := [.data, .data, .data], laidTests := true, laidLooks := .later }
def ReportWordsUptoCardSaid : Prop := Claim7.holds Tryd.pinned (.plain (OpenSpec.upto reportWordsSpec)) reportWordsUptoCard

/-- THE SECOND FORM's CARD OF 'quorumitelaw27.ReportRows'. -/
def reportRowsUptoCard : Claim7 := { stood := { row := reportRowsUptoRow, standIns := [], harness := (true, "eb4ad6261b1fa05a850502cdbecacd06c08b571688fb284df3978b30448d15d4"), looks := false }, kinds := [], alts := [], laidByText := true, laidKinds := [.data, .data, .data], laidTests := true, laidLooks := .later }
def ReportRowsUptoCardSaid : Prop := Claim7.holds Tryd.pinned (.plain (OpenSpec.upto reportRowsSpec)) reportRowsUptoCard

/-- THE SECOND FORM's CARD OF 'quorumitelaw27.ReportAsks'. -/
def reportAsksUptoCard : Claim7 := { stood := { row := reportAsksUptoRow, standIns := [], harness := (true, "eb4ad6261b1fa05a850502cdbecacd06c08b571688fb284df3978b30448d15d4"), looks := false }, kinds := [], alts := [], laidByText := true, laidKinds := [.data, .data, .data], laidTests := true, laidLooks := .later }
def ReportAsksUptoCardSaid : Prop := Claim7.holds Tryd.pinned (.plain (OpenSpec.upto reportAsksSpec)) reportAsksUptoCard
end Rows
end Go.Proofs.YtjcjibghnpjegaaDoor
