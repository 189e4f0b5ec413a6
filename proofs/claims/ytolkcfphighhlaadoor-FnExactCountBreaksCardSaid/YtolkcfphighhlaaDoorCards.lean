/-
  DERIVED. GIVEN WITH THE SEED: THE CARDS: each row of YtolkcfphighhlaaDoorRows.lean that lists a variable, with what it lists TIED to the program's text (the seventh form; the later family's looks); each row that meets fmt, with fmt's text TOLD by the authors' own Lean function (tested against real Go, not proved from fmt's source: count such statements apart). THE CARD IS WHAT COUNTS. Prove the row's statement (the work); the ties are given (YtolkcfphighhlaaDoorTie.lean); close each card by the builder's one call (the guide's Derived/Test/ToyasCard.lean, 'card_holds'). Laid BY PROGRAM, IN A SANDBOX (cutbox-door.mjs). By AI agents, Wed Nov 11 2026. No macro, syntax, notation, axiom, sorry.
-/
import Derived.Test.YtolkcfphighhlaaDoorRows
import GoSem.ClaimSeven
namespace Go.Proofs.YtolkcfphighhlaaDoor
namespace Rows

/-- THE TIED CARD OF 'laws.FnExactFrameText'. -/
def fnExactFrameTextCard : Claim7 := { stood := { row := fnExactFrameTextRow, standIns := [], harness := (true, "ab0bb07f2b7bcfa789b99d9160fcc4ac7d90076fd432a8105afebce4348ec705"), looks := false }, kinds := [], alts := [], laidByText := true, laidKinds := [.data, .data, .data], laidTests := true, laidLooks := .later }
def FnExactFrameTextCardSaid : Prop := Claim7.holds Tryd.pinned (.plain (OpenSpec.ofChange fnExactFrameTextSpec)) fnExactFrameTextCard

/-- THE TIED CARD OF 'laws.FnExactNextBalls'. -/
def fnExactNextBallsCard : Claim7 := { stood := { row := fnExactNextBallsRow, standIns := [], harness := (true, "ab0bb07f2b7bcfa789b99d9160fcc4ac7d90076fd432a8105afebce4348ec705"), looks := false }, kinds := [], alts := [], laidByText := true, laidKinds := [.data, .data, .data], laidTests := true, laidLooks := .later }
def FnExactNextBallsCardSaid : Prop := Claim7.holds Tryd.pinned (.plain (OpenSpec.ofChange fnExactNextBallsSpec)) fnExactNextBallsCard

/-- THE TIED CARD OF 'laws.FnExactPointsOf'. -/
def fnExactPointsOfCard : Claim7 := { stood := { row := fnExactPointsOfRow, standIns := [], harness := (true, "ab0bb07f2b7bcfa789b99d9160fcc4ac7d90076fd432a8105afebce4348ec705"), looks := false }, kinds := [], alts := [], laidByText := true, laidKinds := [.data, .pinned], laidTests := true, laidLooks := .later }
def FnExactPointsOfCardSaid : Prop := Claim7.holds Tryd.pinned (.plain (OpenSpec.ofChange fnExactPointsOfSpec)) fnExactPointsOfCard

/-- THE TIED CARD OF 'laws.FnExactParseFrame'. -/
def fnExactParseFrameCard : Claim7 := { stood := { row := fnExactParseFrameRow, standIns := [], harness := (true, "ab0bb07f2b7bcfa789b99d9160fcc4ac7d90076fd432a8105afebce4348ec705"), looks := false }, kinds := [], alts := [], laidByText := true, laidKinds := [.data, .data, .data], laidTests := true, laidLooks := .later }
def FnExactParseFrameCardSaid : Prop := Claim7.holds Tryd.pinned (.plain (OpenSpec.ofChange fnExactParseFrameSpec)) fnExactParseFrameCard

/-- THE TIED CARD OF 'laws.FnExactCountBreaks'. -/
def fnExactCountBreaksCard : Claim7 := { stood := { row := fnExactCountBreaksRow, standIns := [], harness := (true, "ab0bb07f2b7bcfa789b99d9160fcc4ac7d90076fd432a8105afebce4348ec705"), looks := false }, kinds := [], alts := [], laidByText := true, laidKinds := [.data, .data, .data], laidTests := true, laidLooks := .later }
def FnExactCountBreaksCardSaid : Prop := Claim7.holds Tryd.pinned (.plain (OpenSpec.ofChange fnExactCountBreaksSpec)) fnExactCountBreaksCard

/-- THE TIED CARD OF 'laws.FnExactBallsLeft'. -/
def fnExactBallsLeftCard : Claim7 := { stood := { row := fnExactBallsLeftRow, standIns := [], harness := (true, "ab0bb07f2b7bcfa789b99d9160fcc4ac7d90076fd432a8105afebce4348ec705"), looks := false }, kinds := [], alts := [], laidByText := true, laidKinds := [.data, .data, .data], laidTests := true, laidLooks := .later }
def FnExactBallsLeftCardSaid : Prop := Claim7.holds Tryd.pinned (.plain (OpenSpec.ofChange fnExactBallsLeftSpec)) fnExactBallsLeftCard

/-- THE SECOND FORM's CARD OF 'laws.FnExactFrameText'. -/
def fnExactFrameTextUptoCard : Claim7 := { stood := { row := fnExactFrameTextUptoRow, standIns := [], harness := (true, "ab0bb07f2b7bcfa789b99d9160fcc4ac7d90076fd432a8105afebce4348ec705"), looks := false }, kinds := [], alts := [], laidByText := true, laidKinds := [.data, .data, .data], laidTests := true, laidLooks := .later }
def FnExactFrameTextUptoCardSaid : Prop := Claim7.holds Tryd.pinned (.plain (OpenSpec.upto fnExactFrameTextSpec)) fnExactFrameTextUptoCard

/-- THE SECOND FORM's CARD OF 'laws.FnExactNextBalls'. -/
def fnExactNextBallsUptoCard : Claim7 := { stood := { row := fnExactNextBallsUptoRow, standIns := [], harness := (true, "ab0bb07f2b7bcfa789b99d9160fcc4ac7d90076fd432a8105afebce4348ec705"), looks := false }, kinds := [], alts := [], laidByText := true, laidKinds := [.data, .data, .data], laidTests := true, laidLooks := .later }
def FnExactNextBallsUptoCardSaid : Prop := Claim7.holds Tryd.pinned (.plain (OpenSpec.upto fnExactNextBallsSpec)) fnExactNextBallsUptoCard

/-- THE SECOND FORM's CARD OF 'laws.FnExactPointsOf'. -/
def fnExactPointsOfUptoCard : Claim7 := { stood := { row := fnExactPointsOfUptoRow, standIns := [], harness := (true, "ab0bb07f2b7bcfa789b99d9160fcc4ac7d90076fd432a8105afebce4348ec705"), looks := false }, kinds := [], alts := [], laidByText := true, laidKinds := [.data, .pinned], laidTests := true, laidLooks := .later }
def FnExactPointsOfUptoCardSaid : Prop := Claim7.holds Tryd.pinned (.plain (OpenSpec.upto fnExactPointsOfSpec)) fnExactPointsOfUptoCard

/-- THE SECOND FORM's CARD OF 'laws.FnExactParseFrame'. -/
def fnExactParseFrameUptoCard : Claim7 := { stood := { row := fnExactParseFrameUptoRow, standIns := [], harness := (true, "ab0bb07f2b7bcfa789b99d9160fcc4ac7d90076fd432a8105afebce4348ec705"), looks := false }, kinds := [], alts := [], laidByText := true, laidKinds := [.data, .data, .data], laidTests := true, laidLooks := .later }
def FnExactParseFrameUptoCardSaid : Prop := Claim7.holds Tryd.pinned (.plain (OpenSpec.upto fnExactParseFrameSpec)) fnExactParseFrameUptoCard

/-- THE SECOND FORM's CARD OF 'laws.FnExactCountBreaks'. -/
def fnExactCountBreaksUptoCard : Claim7 := { stood := { row := fnExactCountBreaksUptoRow, standIns := [], harness := (true, "ab0bb07f2b7bcfa789b99d9160fcc4ac7d90076fd432a8105afebce4348ec705"), looks := false }, kinds := [], alts := [], laidByText := true, laidKinds := [.data, .data, .data], laidTests := true, laidLooks := .later }
def FnExactCountBreaksUptoCardSaid : Prop := Claim7.holds Tryd.pinned (.plain (OpenSpec.upto fnExactCountBreaksSpec)) fnExactCountBreaksUptoCard

/-- THE SECOND FORM's CARD OF 'laws.FnExactBallsLeft'. -/
def fnExactBallsLeftUptoCard : Claim7 := { stood := { row := fnExactBallsLeftUptoRow, standIns := [], harness := (true, "ab0bb07f2b7bcfa789b99d9160fcc4ac7d90076fd432a8105afebce4348ec705"), looks := false }, kinds := [], alts := [], laidByText := true, laidKinds := [.data, .data, .data], laidTests := true, laidLooks := .later }
def FnExactBallsLeftUptoCardSaid : Prop := Claim7.holds Tryd.pinned (.plain (OpenSpec.upto fnExactBallsLeftSpec)) fnExactBallsLeftUptoCard
end Rows
end Go.Proofs.YtolkcfphighhlaaDoor
