/-
  DERIVED. GIVEN WITH THE SEED: THE CARDS: each row of YtgdkedcahcpofaaDoorRows.lean that lists a variable, with what it lists TIED to the program's text (the seventh form; the later family's looks); each row that meets fmt, with fmt's text TOLD by the authors' own Lean function (tested against real Go, not proved from fmt's source: count such statements apart). THE CARD IS WHAT COUNTS. Prove the row's statement (the work); the ties are given (YtgdkedcahcpofaaDoorTie.lean); close each card by the builder's one call (the guide's Derived/Test/ToyasCard.lean, 'card_holds'). Laid BY PROGRAM, IN A SANDBOX (cutbox-door.mjs). By AI agents, Wed Nov 11 2026. No macro, syntax, notation, axiom, sorry.
-/
import Derived.Test.YtgdkedcahcpofaaDoorRows
import GoSem.ClaimSeven
namespace Go.Proofs.YtgdkedcahcpofaaDoor
namespace Rows

/-- THE TIED CARD OF 'laws.FnExactDartsText'. -/
def fnExactDartsTextCard : Claim7 := { stood := { row := fnExactDartsTextRow, standIns := [], harness := (true, "8f2899e2924bb67498e7c7b3782988ce12903f8b512b575345e7a0d4080e51fe"), looks := false }, kinds := [], alts := [], laidByText := true, laidKinds := [.data, .data, .data], laidTests := true, laidLooks := .later }
def FnExactDartsTextCardSaid : Prop := Claim7.holds Tryd.pinned (.plain (OpenSpec.ofChange fnExactDartsTextSpec)) fnExactDartsTextCard

/-- THE TIED CARD OF 'laws.FnExactParseDart'. -/
def fnExactParseDartCard : Claim7 := { stood := { row := fnExactParseDartRow, standIns := [], harness := (true, "8f2899e2924bb67498e7c7b3782988ce12903f8b512b575345e7a0d4080e51fe"), looks := false }, kinds := [], alts := [], laidByText := true, laidKinds := [.data, .data, .data], laidTests := true, laidLooks := .later }
def FnExactParseDartCardSaid : Prop := Claim7.holds Tryd.pinned (.plain (OpenSpec.ofChange fnExactParseDartSpec)) fnExactParseDartCard

/-- THE TIED CARD OF 'laws.FnExactParseDarts'. -/
def fnExactParseDartsCard : Claim7 := { stood := { row := fnExactParseDartsRow, standIns := [], harness := (true, "8f2899e2924bb67498e7c7b3782988ce12903f8b512b575345e7a0d4080e51fe"), looks := false }, kinds := [], alts := [], laidByText := true, laidKinds := [.data, .data, .data, .data, .pinned], laidTests := true, laidLooks := .later }
def FnExactParseDartsCardSaid : Prop := Claim7.holds Tryd.pinned (.plain (OpenSpec.ofChange fnExactParseDartsSpec)) fnExactParseDartsCard

/-- THE SECOND FORM's CARD OF 'laws.FnExactDartsText'. -/
def fnExactDartsTextUptoCard : Claim7 := { stood := { row := fnExactDartsTextUptoRow, standIns := [], harness := (true, "8f2899e2924bb67498e7c7b3782988ce12903f8b512b575345e7a0d4080e51fe"), looks := false }, kinds := [], alts := [], laidByText := true, laidKinds := [.data, .data, .data], laidTests := true, laidLooks := .later }
def FnExactDartsTextUptoCardSaid : Prop := Claim7.holds Tryd.pinned (.plain (OpenSpec.upto fnExactDartsTextSpec)) fnExactDartsTextUptoCard

/-- THE SECOND FORM's CARD OF 'laws.FnExactParseDart'. -/
def fnExactParseDartUptoCard : Claim7 := { stood := { row := fnExactParseDartUptoRow, standIns := [], harness := (true, "8f2899e2924bb67498e7c7b3782988ce12903f8b512b575345e7a0d4080e51fe"), looks := false }, kinds := [], alts := [], laidByText := true, laidKinds := [.data, .data, .data], laidTests := true, laidLooks := .later }
def FnExactParseDartUptoCardSaid : Prop := Claim7.holds Tryd.pinned (.plain (OpenSpec.upto fnExactParseDartSpec)) fnExactParseDartUptoCard

/-- THE SECOND FORM's CARD OF 'laws.FnExactParseDarts'. -/
def fnExactParseDartsUptoCard : Claim7 := { stood := { row := fnExactParseDartsUptoRow, standIns := [], harness := (true, "8f2899e2924bb67498e7c7b3782988ce12903f8b512b575345e7a0d4080e51fe"), looks := false }, kinds := [], alts := [], laidByText := true, laidKinds := [.data, .data, .data, .data, .pinned], laidTests := true, laidLooks := .later }
def FnExactParseDartsUptoCardSaid : Prop := Claim7.holds Tryd.pinned (.plain (OpenSpec.upto fnExactParseDartsSpec)) fnExactParseDartsUptoCard
end Rows
end Go.Proofs.YtgdkedcahcpofaaDoor
