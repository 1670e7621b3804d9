/-
  DERIVED. GIVEN WITH THE SEED: THE CARDS: each row of YtmedciidghmkkaaDoorRows.lean that lists a variable, with what it lists TIED to the program's text (the seventh form; the later family's looks); each row that meets fmt, with fmt's text TOLD by the authors' own Lean function (tested against real Go, not proved from fmt's source: count such statements apart). THE CARD IS WHAT COUNTS. Prove the row's statement (the work); the ties are given (YtmedciidghmkkaaDoorTie.lean); close each card by the builder's one call (the guide's Derived/Test/ToyasCard.lean, 'card_holds'). Laid BY PROGRAM, IN A SANDBOX (cutbox-door.mjs). By AI agents, Wed Nov 11 2026. No macro, syntax, notation, axiom, sorry.
-/
import Derived.Test.YtmedciidghmkkaaDoorRows
import GoSem.ClaimSeven
namespace Go.Proofs.YtmedciidghmkkaaDoor
namespace Rows

/-- THE TIED CARD OF 'sequiturlaw27.LinSums'. -/
def linSumsCard : Claim7 := { stood := { row := linSumsRow, standIns := [], harness := (true, "e61f3b311e93fd2a6a170fca6c28faf978c6e773afce38c4e127b6e34f50a5e9"), looks := false }, kinds := [], alts := [], laidByText := true, laidKinds := [.data, .data, .data], laidTests := true, laidLooks := .later }
def LinSumsCardSaid : Prop := Claim7.holds Tryd.pinned (.plain (OpenSpec.ofChange linSumsSpec)) linSumsCard

/-- THE TIED CARD OF 'sequiturlaw27.LinPuts'. -/
def linPutsCard : Claim7 := { stood := { row := linPutsRow, standIns := [], harness := (true, "e61f3b311e93fd2a6a170fca6c28faf978c6e773afce38c4e127b6e34f50a5e9"), looks := false }, kinds := [], alts := [], laidByText := true, laidKinds := [.data, .data, .data], laidTests := true, laidLooks := .later }
def LinPutsCardSaid : Prop := Claim7.holds Tryd.pinned (.plain (OpenSpec.ofChange linPutsSpec)) linPutsCard

/-- THE TIED CARD OF 'sequiturlaw27.LinValues'. -/
def linValuesCard : Claim7 := { stood := { row := linValuesRow, standIns := [], harness := (true, "e61f3b311e93fd2a6a170fca6c28faf978c6e773afce38c4e127b6e34f50a5e9"), looks := false }, kinds := [], alts := [], laidByText := true, laidKinds := [.data, .data, .data], laidTests := true, laidLooks := .later }
def LinValuesCardSaid : Prop := Claim7.holds Tryd.pinned (.plain (OpenSpec.ofChange linValuesSpec)) linValuesCard

/-- THE TIED CARD OF 'sequiturlaw27.LinStands'. -/
def linStandsCard : Claim7 := { stood := { row := linStandsRow, standIns := [], harness := (true, "e61f3b311e93fd2a6a170fca6c28faf978c6e773afce38c4e127b6e34f50a5e9"), looks := false }, kinds := [], alts := [], laidByText := true, laidKinds := [.data, .data, .data], laidTests := true, laidLooks := .later }
def LinStandsCardSaid : Prop := Claim7.holds Tryd.pinned (.plain (OpenSpec.ofChange linStandsSpec)) linStandsCard

/-- THE TIED CARD OF 'sequiturlaw27.LinTells'. -/
def linTellsCard : Claim7 := { stood := { row := linTellsRow, standIns := [], harness := (true, "e61f3b311e93fd2a6a170fca6c28faf978c6e773afce38c4e127b6e34f50a5e9"), looks := false }, kinds := [], alts := [], laidByText := true, laidKinds := [.data, .data, .data], laidTests := true, laidLooks := .later }
def LinTellsCardSaid : Prop := Claim7.holds Tryd.pinned (.plain (OpenSpec.ofChange linTellsSpec)) linTellsCard

/-- THE SECOND FORM's CARD OF 'sequiturlaw27.LinSums'. -/
def linSumsUptoCard : Claim7 := { stood := { row := linSumsUptoRow, standIns := [], harness := (true, "e61f3b311e93fd2a6a170fca6c28faf978c6e773afce38c4e127b6e34f50a5e9"), looks := false }, kinds := [], alts := [], laidByText := true, laidKinds := [.data, .data, .data], laidTests := true, laidLooks := .later }
def LinSumsUptoCardSaid : Prop := Claim7.holds Tryd.pinned (.plain (OpenSpec.upto linSumsSpec)) linSumsUptoCard

/-- THE SECOND FORM's CARD OF 'sequiturlaw27.LinPuts'. -/
def linPutsUptoCard : Claim7 := { stood := { row := linPutsUptoRow, standIns := [], harness := (true, "e61f3b311e93fd2a6a170fca6c28faf978c6e773afce38c4e127b6e34f50a5e9"), looks := false }, kinds := [], alts := [], laidByText := true, laidKinds := [.data, .data, .data], laidTests := true, laidLooks := .later }
def LinPutsUptoCardSaid : Prop := Claim7.holds Tryd.pinned (.plain (OpenSpec.upto linPutsSpec)) linPutsUptoCard

/-- THE SECOND FORM's CARD OF 'sequiturlaw27.LinValues'. -/
def linValuesUptoCard : Claim7 := { stood := { row := linValuesUptoRow, standIns := [], harness := (true, "e61f3b311e93fd2a6a170fca6c28faf978c6e773afce38c4e127b6e34f50a5e9"), looks := false }, kinds := [], alts := [], laidByText := true, laidKinds := [.data, .data, .data], laidTests := true, laidLooks := .later }
def LinValuesUptoCardSaid : Prop := Claim7.holds Tryd.pinned (.plain (OpenSpec.upto linValuesSpec)) linValuesUptoCard

/-- THE SECOND FORM's CARD OF 'sequiturlaw27.LinStands'. -/
def linStandsUptoCard : Claim7 := { stood := { row := linStandsUptoRow, standIns := [], harness := (true, "e61f3b311e93fd2a6a170fca6c28faf978c6e773afce38c4e127b6e34f50a5e9"), looks := false }, kinds := [], alts := [], laidByText := true, laidKinds := [.data, .data, .data], laidTests := true, laidLooks := .later }
def LinStandsUptoCardSaid : Prop := Claim7.holds Tryd.pinned (.plain (OpenSpec.upto linStandsSpec)) linStandsUptoCard

/-- THE SECOND FORM's CARD OF 'sequiturlaw27.LinTells'. -/
def linTellsUptoCard : Claim7 := { stood := { row := linTellsUptoRow, standIns := [], harness := (true, "e61f3b311e93fd2a6a170fca6c28faf978c6e773afce38c4e127b6e34f50a5e9"), looks := false }, kinds := [], alts := [], laidByText := true, laidKinds := [.data, .data, .data], laidTests := true, laidLooks := .later }
def LinTellsUptoCardSaid : Prop := Claim7.holds Tryd.pinned (.plain (OpenSpec.upto linTellsSpec)) linTellsUptoCard
end Rows
end Go.Proofs.YtmedciidghmkkaaDoor
