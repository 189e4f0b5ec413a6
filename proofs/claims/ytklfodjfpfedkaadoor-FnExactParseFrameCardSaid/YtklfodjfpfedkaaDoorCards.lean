/-
  DERIVED. GIVEN WITH THE SEED: THE CARDS: each row of YtklfodjfpfedkaaDoorRows.lean that lists a variable, with what it lists TIED to the program's text (the seventh form; the later family's looks); each row that meets fmt, with fmt's text TOLD by the authors' own Lean function (tested against real Go, not proved from fmt's source: count such statements apart). THE CARD IS WHAT COUNTS. Prove the row's statement (the work); the ties are given (YtklfodjfpfedkaaDoorTie.lean); close each card by the builder's one call (the guide's Derived/Test/ToyasCard.lean, 'card_holds'). Laid BY PROGRAM, IN A SANDBOX (cutbox-door.mjs). By AI agents, Wed Nov 11 2026. No macro, syntax, notation, axiom, sorry.
-/
import Derived.Test.YtklfodjfpfedkaaDoorRows
import GoSem.ClaimSeven
namespace Go.Proofs.YtklfodjfpfedkaaDoor
namespace Rows

/-- THE TIED CARD OF 'laws.FnExactPointsOf'. -/
def fnExactPointsOfCard : Claim7 := { stood := { row := fnExactPointsOfRow, standIns := [], harness := (true, "b8bee151a7d0f661c841310aa8d843c3e4e351463f23f4f44aef67bee59712b1"), looks := false }, kinds := [], alts := [], laidByText := true, laidKinds := [.data, .pinned], laidTests := true, laidLooks := .later }
def FnExactPointsOfCardSaid : Prop := Claim7.holds Tryd.pinned (.plain (OpenSpec.ofChange fnExactPointsOfSpec)) fnExactPointsOfCard

/-- THE TIED CARD OF 'laws.FnExactParseFrame'. -/
def fnExactParseFrameCard : Claim7 := { stood := { row := fnExactParseFrameRow, standIns := [], harness := (true, "b8bee151a7d0f661c841310aa8d843c3e4e351463f23f4f44aef67bee59712b1"), looks := false }, kinds := [], alts := [], laidByText := true, laidKinds := [.data, .data, .data], laidTests := true, laidLooks := .later }
def FnExactParseFrameCardSaid : Prop := Claim7.holds Tryd.pinned (.plain (OpenSpec.ofChange fnExactParseFrameSpec)) fnExactParseFrameCard

/-- THE TIED CARD OF 'laws.FnExactBallsLeft'. -/
def fnExactBallsLeftCard : Claim7 := { stood := { row := fnExactBallsLeftRow, standIns := [], harness := (true, "b8bee151a7d0f661c841310aa8d843c3e4e351463f23f4f44aef67bee59712b1"), looks := false }, kinds := [], alts := [], laidByText := true, laidKinds := [.data, .data, .data], laidTests := true, laidLooks := .later }
def FnExactBallsLeftCardSaid : Prop := Claim7.holds Tryd.pinned (.plain (OpenSpec.ofChange fnExactBallsLeftSpec)) fnExactBallsLeftCard

/-- THE SECOND FORM's CARD OF 'laws.FnExactPointsOf'. -/
def fnExactPointsOfUptoCard : Claim7 := { stood := { row := fnExactPointsOfUptoRow, standIns := [], harness := (true, "b8bee151a7d0f661c841310aa8d843c3e4e351463f23f4f44aef67bee59712b1"), looks := false }, kinds := [], alts := [], laidByText := true, laidKinds := [.data, .pinned], laidTests := true, laidLooks := .later }
def FnExactPointsOfUptoCardSaid : Prop := Claim7.holds Tryd.pinned (.plain (OpenSpec.upto fnExactPointsOfSpec)) fnExactPointsOfUptoCard

/-- THE SECOND FORM's CARD OF 'laws.FnExactParseFrame'. -/
def fnExactParseFrameUptoCard : Claim7 := { stood := { row := fnExactParseFrameUptoRow, standIns := [], harness := (true, "b8bee151a7d0f661c841310aa8d843c3e4e351463f23f4f44aef67bee59712b1"), looks := false }, kinds := [], alts := [], laidByText := true, laidKinds := [.data, .data, .data], laidTests := true, laidLooks := .later }
def FnExactParseFrameUptoCardSaid : Prop := Claim7.holds Tryd.pinned (.plain (OpenSpec.upto fnExactParseFrameSpec)) fnExactParseFrameUptoCard

/-- THE SECOND FORM's CARD OF 'laws.FnExactBallsLeft'. -/
def fnExactBallsLeftUptoCard : Claim7 := { stood := { row := fnExactBallsLeftUptoRow, standIns := [], harness := (true, "b8bee151a7d0f661c841310aa8d843c3e4e351463f23f4f44aef67bee59712b1"), looks := false }, kinds := [], alts := [], laidByText := true, laidKinds := [.data, .data, .data], laidTests := true, laidLooks := .later }
def FnExactBallsLeftUptoCardSaid : Prop := Claim7.holds Tryd.pinned (.plain (OpenSpec.upto fnExactBallsLeftSpec)) fnExactBallsLeftUptoCard
end Rows
end Go.Proofs.YtklfodjfpfedkaaDoor
