/-
  DERIVED. GIVEN WITH THE SEED: THE CARDS: each row of YtjnkcgddalbojaaDoorRows.lean that lists a variable, with what it lists TIED to the program's text (the seventh form; the later family's looks); each row that meets fmt, with fmt's text TOLD by the authors' own Lean function (tested against real Go, not proved from fmt's source: count such statements apart). THE CARD IS WHAT COUNTS. Prove the row's statement (the work); the ties are given (YtjnkcgddalbojaaDoorTie.lean); close each card by the builder's one call (the guide's Derived/Test/ToyasCard.lean, 'card_holds'). Laid BY PROGRAM, IN A SANDBOX (cutbox-door.mjs). By AI agents, Wed Nov 11 2026. No macro, syntax, notation, axiom, sorry.
-/
import Derived.Test.YtjnkcgddalbojaaDoorRows
import GoSem.ClaimSeven
namespace Go.Proofs.YtjnkcgddalbojaaDoor
namespace Rows

/-- THE TIED CARD OF 'laws.FnExactPointsOfSet'. -/
def fnExactPointsOfSetCard : Claim7 := { stood := { row := fnExactPointsOfSetRow, standIns := [], harness := (true, "a9cd82370599dba1f7d90403d09e41a2517c13f36745069f292915d65d844252"), looks := false }, kinds := [], alts := [], laidByText := true, laidKinds := [.data, .pinned], laidTests := true, laidLooks := .later }
def FnExactPointsOfSetCardSaid : Prop := Claim7.holds Tryd.pinned (.plain (OpenSpec.ofChange fnExactPointsOfSetSpec)) fnExactPointsOfSetCard

/-- THE TIED CARD OF 'laws.FnExactSetStands'. -/
def fnExactSetStandsCard : Claim7 := { stood := { row := fnExactSetStandsRow, standIns := [], harness := (true, "a9cd82370599dba1f7d90403d09e41a2517c13f36745069f292915d65d844252"), looks := false }, kinds := [], alts := [], laidByText := true, laidKinds := [.data, .data, .data, .data, .pinned], laidTests := true, laidLooks := .later }
def FnExactSetStandsCardSaid : Prop := Claim7.holds Tryd.pinned (.plain (OpenSpec.ofChange fnExactSetStandsSpec)) fnExactSetStandsCard

/-- THE TIED CARD OF 'laws.FnExactIsTennisGame'. -/
def fnExactIsTennisGameCard : Claim7 := { stood := { row := fnExactIsTennisGameRow, standIns := [], harness := (true, "a9cd82370599dba1f7d90403d09e41a2517c13f36745069f292915d65d844252"), looks := false }, kinds := [], alts := [], laidByText := true, laidKinds := [.data, .pinned], laidTests := true, laidLooks := .later }
def FnExactIsTennisGameCardSaid : Prop := Claim7.holds Tryd.pinned (.plain (OpenSpec.ofChange fnExactIsTennisGameSpec)) fnExactIsTennisGameCard

/-- THE TIED CARD OF 'laws.FnExactIsGameOrder'. -/
def fnExactIsGameOrderCard : Claim7 := { stood := { row := fnExactIsGameOrderRow, standIns := [], harness := (true, "a9cd82370599dba1f7d90403d09e41a2517c13f36745069f292915d65d844252"), looks := false }, kinds := [], alts := [], laidByText := true, laidKinds := [.data, .pinned], laidTests := true, laidLooks := .later }
def FnExactIsGameOrderCardSaid : Prop := Claim7.holds Tryd.pinned (.plain (OpenSpec.ofChange fnExactIsGameOrderSpec)) fnExactIsGameOrderCard

/-- THE TIED CARD OF 'laws.FnExactGameStands'. -/
def fnExactGameStandsCard : Claim7 := { stood := { row := fnExactGameStandsRow, standIns := [], harness := (true, "a9cd82370599dba1f7d90403d09e41a2517c13f36745069f292915d65d844252"), looks := false }, kinds := [], alts := [], laidByText := true, laidKinds := [.data, .pinned], laidTests := true, laidLooks := .later }
def FnExactGameStandsCardSaid : Prop := Claim7.holds Tryd.pinned (.plain (OpenSpec.ofChange fnExactGameStandsSpec)) fnExactGameStandsCard

/-- THE TIED CARD OF 'laws.FnExactIsSet'. -/
def fnExactIsSetCard : Claim7 := { stood := { row := fnExactIsSetRow, standIns := [], harness := (true, "a9cd82370599dba1f7d90403d09e41a2517c13f36745069f292915d65d844252"), looks := false }, kinds := [], alts := [], laidByText := true, laidKinds := [.data, .pinned], laidTests := true, laidLooks := .later }
def FnExactIsSetCardSaid : Prop := Claim7.holds Tryd.pinned (.plain (OpenSpec.ofChange fnExactIsSetSpec)) fnExactIsSetCard

/-- THE TIED CARD OF 'laws.FnExactGamesOf'. -/
def fnExactGamesOfCard : Claim7 := { stood := { row := fnExactGamesOfRow, standIns := [], harness := (true, "a9cd82370599dba1f7d90403d09e41a2517c13f36745069f292915d65d844252"), looks := false }, kinds := [], alts := [], laidByText := true, laidKinds := [.data, .pinned], laidTests := true, laidLooks := .later }
def FnExactGamesOfCardSaid : Prop := Claim7.holds Tryd.pinned (.plain (OpenSpec.ofChange fnExactGamesOfSpec)) fnExactGamesOfCard

/-- THE TIED CARD OF 'laws.FnExactBreaksIn'. -/
def fnExactBreaksInCard : Claim7 := { stood := { row := fnExactBreaksInRow, standIns := [], harness := (true, "a9cd82370599dba1f7d90403d09e41a2517c13f36745069f292915d65d844252"), looks := false }, kinds := [], alts := [], laidByText := true, laidKinds := [.data, .pinned], laidTests := true, laidLooks := .later }
def FnExactBreaksInCardSaid : Prop := Claim7.holds Tryd.pinned (.plain (OpenSpec.ofChange fnExactBreaksInSpec)) fnExactBreaksInCard

/-- THE TIED CARD OF 'laws.FnExactSetWinner'. -/
def fnExactSetWinnerCard : Claim7 := { stood := { row := fnExactSetWinnerRow, standIns := [], harness := (true, "a9cd82370599dba1f7d90403d09e41a2517c13f36745069f292915d65d844252"), looks := false }, kinds := [], alts := [], laidByText := true, laidKinds := [.data, .pinned], laidTests := true, laidLooks := .later }
def FnExactSetWinnerCardSaid : Prop := Claim7.holds Tryd.pinned (.plain (OpenSpec.ofChange fnExactSetWinnerSpec)) fnExactSetWinnerCard

/-- THE TIED CARD OF 'laws.FnExactFewestToSet'. -/
def fnExactFewestToSetCard : Claim7 := { stood := { row := fnExactFewestToSetRow, standIns := [], harness := (true, "a9cd82370599dba1f7d90403d09e41a2517c13f36745069f292915d65d844252"), looks := false }, kinds := [], alts := [], laidByText := true, laidKinds := [.data, .pinned], laidTests := true, laidLooks := .later }
def FnExactFewestToSetCardSaid : Prop := Claim7.holds Tryd.pinned (.plain (OpenSpec.ofChange fnExactFewestToSetSpec)) fnExactFewestToSetCard

/-- THE TIED CARD OF 'laws.FnExactFirstGameOrder'. -/
def fnExactFirstGameOrderCard : Claim7 := { stood := { row := fnExactFirstGameOrderRow, standIns := [], harness := (true, "a9cd82370599dba1f7d90403d09e41a2517c13f36745069f292915d65d844252"), looks := false }, kinds := [], alts := [], laidByText := true, laidKinds := [.data, .pinned], laidTests := true, laidLooks := .later }
def FnExactFirstGameOrderCardSaid : Prop := Claim7.holds Tryd.pinned (.plain (OpenSpec.ofChange fnExactFirstGameOrderSpec)) fnExactFirstGameOrderCard

/-- THE TIED CARD OF 'laws.FnExactSetOfGames'. -/
def fnExactSetOfGamesCard : Claim7 := { stood := { row := fnExactSetOfGamesRow, standIns := [], harness := (true, "a9cd82370599dba1f7d90403d09e41a2517c13f36745069f292915d65d844252"), looks := false }, kinds := [], alts := [], laidByText := true, laidKinds := [.data, .pinned], laidTests := true, laidLooks := .later }
def FnExactSetOfGamesCardSaid : Prop := Claim7.holds Tryd.pinned (.plain (OpenSpec.ofChange fnExactSetOfGamesSpec)) fnExactSetOfGamesCard

/-- THE TIED CARD OF 'laws.FnExactMatchSets'. -/
def fnExactMatchSetsCard : Claim7 := { stood := { row := fnExactMatchSetsRow, standIns := [], harness := (true, "a9cd82370599dba1f7d90403d09e41a2517c13f36745069f292915d65d844252"), looks := false }, kinds := [], alts := [], laidByText := true, laidKinds := [.data, .pinned], laidTests := true, laidLooks := .later }
def FnExactMatchSetsCardSaid : Prop := Claim7.holds Tryd.pinned (.plain (OpenSpec.ofChange fnExactMatchSetsSpec)) fnExactMatchSetsCard

/-- THE TIED CARD OF 'laws.FnExactTieStands'. -/
def fnExactTieStandsCard : Claim7 := { stood := { row := fnExactTieStandsRow, standIns := [], harness := (true, "a9cd82370599dba1f7d90403d09e41a2517c13f36745069f292915d65d844252"), looks := false }, kinds := [], alts := [], laidByText := true, laidKinds := [.data, .data, .data, .data, .pinned], laidTests := true, laidLooks := .later }
def FnExactTieStandsCardSaid : Prop := Claim7.holds Tryd.pinned (.plain (OpenSpec.ofChange fnExactTieStandsSpec)) fnExactTieStandsCard

/-- THE SECOND FORM's CARD OF 'laws.FnExactPointsOfSet'. -/
def fnExactPointsOfSetUptoCard : Claim7 := { stood := { row := fnExactPointsOfSetUptoRow, standIns := [], harness := (true, "a9cd82370599dba1f7d90403d09e41a2517c13f36745069f292915d65d844252"), looks := false }, kinds := [], alts := [], laidByText := true, laidKinds := [.data, .pinned], laidTests := true, laidLooks := .later }
def FnExactPointsOfSetUptoCardSaid : Prop := Claim7.holds Tryd.pinned (.plain (OpenSpec.upto fnExactPointsOfSetSpec)) fnExactPointsOfSetUptoCard

/-- THE SECOND FORM's CARD OF 'laws.FnExactSetStands'. -/
def fnExactSetStandsUptoCard : Claim7 := { stood := { row := fnExactSetStandsUptoRow, standIns := [], harness := (true, "a9cd82370599dba1f7d90403d09e41a2517c13f36745069f292915d65d844252"), looks := false }, kinds := [], alts := [], laidByText := true, laidKinds := [.data, .data, .data, .data, .pinned], laidTests := true, laidLooks := .later }
def FnExactSetStandsUptoCardSaid : Prop := Claim7.holds Tryd.pinned (.plain (OpenSpec.upto fnExactSetStandsSpec)) fnExactSetStandsUptoCard

/-- THE SECOND FORM's CARD OF 'laws.FnExactIsTennisGame'. -/
def fnExactIsTennisGameUptoCard : Claim7 := { stood := { row := fnExactIsTennisGameUptoRow, standIns := [], harness := (true, "a9cd82370599dba1f7d90403d09e41a2517c13f36745069f292915d65d844252"), looks := false }, kinds := [], alts := [], laidByText := true, laidKinds := [.data, .pinned], laidTests := true, laidLooks := .later }
def FnExactIsTennisGameUptoCardSaid : Prop := Claim7.holds Tryd.pinned (.plain (OpenSpec.upto fnExactIsTennisGameSpec)) fnExactIsTennisGameUptoCard

/-- THE SECOND FORM's CARD OF 'laws.FnExactIsGameOrder'. -/
def fnExactIsGameOrderUptoCard : Claim7 := { stood := { row := fnExactIsGameOrderUptoRow, standIns := [], harness := (true, "a9cd82370599dba1f7d90403d09e41a2517c13f36745069f292915d65d844252"), looks := false }, kinds := [], alts := [], laidByText := true, laidKinds := [.data, .pinned], laidTests := true, laidLooks := .later }
def FnExactIsGameOrderUptoCardSaid : Prop := Claim7.holds Tryd.pinned (.plain (OpenSpec.upto fnExactIsGameOrderSpec)) fnExactIsGameOrderUptoCard

/-- THE SECOND FORM's CARD OF 'laws.FnExactGameStands'. -/
def fnExactGameStandsUptoCard : Claim7 := { stood := { row := fnExactGameStandsUptoRow, standIns := [], harness := (true, "a9cd82370599dba1f7d90403d09e41a2517c13f36745069f292915d65d844252"), looks := false }, kinds := [], alts := [], laidByText := true, laidKinds := [.data, .pinned], laidTests := true, laidLooks := .later }
def FnExactGameStandsUptoCardSaid : Prop := Claim7.holds Tryd.pinned (.plain (OpenSpec.upto fnExactGameStandsSpec)) fnExactGameStandsUptoCard

/-- THE SECOND FORM's CARD OF 'laws.FnExactIsSet'. -/
def fnExactIsSetUptoCard : Claim7 := { stood := { row := fnExactIsSetUptoRow, standIns := [], harness := (true, "a9cd82370599dba1f7d90403d09e41a2517c13f36745069f292915d65d844252"), looks := false }, kinds := [], alts := [], laidByText := true, laidKinds := [.data, .pinned], laidTests := true, laidLooks := .later }
def FnExactIsSetUptoCardSaid : Prop := Claim7.holds Tryd.pinned (.plain (OpenSpec.upto fnExactIsSetSpec)) fnExactIsSetUptoCard

/-- THE SECOND FORM's CARD OF 'laws.FnExactGamesOf'. -/
def fnExactGamesOfUptoCard : Claim7 := { stood := { row := fnExactGamesOfUptoRow, standIns := [], harness := (true, "a9cd82370599dba1f7d90403d09e41a2517c13f36745069f292915d65d844252"), looks := false }, kinds := [], alts := [], laidByText := true, laidKinds := [.data, .pinned], laidTests := true, laidLooks := .later }
def FnExactGamesOfUptoCardSaid : Prop := Claim7.holds Tryd.pinned (.plain (OpenSpec.upto fnExactGamesOfSpec)) fnExactGamesOfUptoCard

/-- THE SECOND FORM's CARD OF 'laws.FnExactBreaksIn'. -/
def fnExactBreaksInUptoCard : Claim7 := { stood := { row := fnExactBreaksInUptoRow, standIns := [], harness := (true, "a9cd82370599dba1f7d90403d09e41a2517c13f36745069f292915d65d844252"), looks := false }, kinds := [], alts := [], laidByText := true, laidKinds := [.data, .pinned], laidTests := true, laidLooks := .later }
def FnExactBreaksInUptoCardSaid : Prop := Claim7.holds Tryd.pinned (.plain (OpenSpec.upto fnExactBreaksInSpec)) fnExactBreaksInUptoCard

/-- THE SECOND FORM's CARD OF 'laws.FnExactSetWinner'. -/
def fnExactSetWinnerUptoCard : Claim7 := { stood := { row := fnExactSetWinnerUptoRow, standIns := [], harness := (true, "a9cd82370599dba1f7d90403d09e41a2517c13f36745069f292915d65d844252"), looks := false }, kinds := [], alts := [], laidByText := true, laidKinds := [.data, .pinned], laidTests := true, laidLooks := .later }
def FnExactSetWinnerUptoCardSaid : Prop := Claim7.holds Tryd.pinned (.plain (OpenSpec.upto fnExactSetWinnerSpec)) fnExactSetWinnerUptoCard

/-- THE SECOND FORM's CARD OF 'laws.FnExactFewestToSet'. -/
def fnExactFewestToSetUptoCard : Claim7 := { stood := { row := fnExactFewestToSetUptoRow, standIns := [], harness := (true, "a9cd82370599dba1f7d90403d09e41a2517c13f36745069f292915d65d844252"), looks := false }, kinds := [], alts := [], laidByText := true, laidKinds := [.data, .pinned], laidTests := true, laidLooks := .later }
def FnExactFewestToSetUptoCardSaid : Prop := Claim7.holds Tryd.pinned (.plain (OpenSpec.upto fnExactFewestToSetSpec)) fnExactFewestToSetUptoCard

/-- THE SECOND FORM's CARD OF 'laws.FnExactFirstGameOrder'. -/
def fnExactFirstGameOrderUptoCard : Claim7 := { stood := { row := fnExactFirstGameOrderUptoRow, standIns := [], harness := (true, "a9cd82370599dba1f7d90403d09e41a2517c13f36745069f292915d65d844252"), looks := false }, kinds := [], alts := [], laidByText := true, laidKinds := [.data, .pinned], laidTests := true, laidLooks := .later }
def FnExactFirstGameOrderUptoCardSaid : Prop := Claim7.holds Tryd.pinned (.plain (OpenSpec.upto fnExactFirstGameOrderSpec)) fnExactFirstGameOrderUptoCard

/-- THE SECOND FORM's CARD OF 'laws.FnExactSetOfGames'. -/
def fnExactSetOfGamesUptoCard : Claim7 := { stood := { row := fnExactSetOfGamesUptoRow, standIns := [], harness := (true, "a9cd82370599dba1f7d90403d09e41a2517c13f36745069f292915d65d844252"), looks := false }, kinds := [], alts := [], laidByText := true, laidKinds := [.data, .pinned], laidTests := true, laidLooks := .later }
def FnExactSetOfGamesUptoCardSaid : Prop := Claim7.holds Tryd.pinned (.plain (OpenSpec.upto fnExactSetOfGamesSpec)) fnExactSetOfGamesUptoCard

/-- THE SECOND FORM's CARD OF 'laws.FnExactMatchSets'. -/
def fnExactMatchSetsUptoCard : Claim7 := { stood := { row := fnExactMatchSetsUptoRow, standIns := [], harness := (true, "a9cd82370599dba1f7d90403d09e41a2517c13f36745069f292915d65d844252"), looks := false }, kinds := [], alts := [], laidByText := true, laidKinds := [.data, .pinned], laidTests := true, laidLooks := .later }
def FnExactMatchSetsUptoCardSaid : Prop := Claim7.holds Tryd.pinned (.plain (OpenSpec.upto fnExactMatchSetsSpec)) fnExactMatchSetsUptoCard

/-- THE SECOND FORM's CARD OF 'laws.FnExactTieStands'. -/
def fnExactTieStandsUptoCard : Claim7 := { stood := { row := fnExactTieStandsUptoRow, standIns := [], harness := (true, "a9cd82370599dba1f7d90403d09e41a2517c13f36745069f292915d65d844252"), looks := false }, kinds := [], alts := [], laidByText := true, laidKinds := [.data, .data, .data, .data, .pinned], laidTests := true, laidLooks := .later }
def FnExactTieStandsUptoCardSaid : Prop := Claim7.holds Tryd.pinned (.plain (OpenSpec.upto fnExactTieStandsSpec)) fnExactTieStandsUptoCard
end Rows
end Go.Proofs.YtjnkcgddalbojaaDoor
