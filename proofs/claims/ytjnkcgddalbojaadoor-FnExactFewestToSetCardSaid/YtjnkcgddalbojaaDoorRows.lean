/-
  NARROWER THAN 'FOR EVERY INPUT', by the rows' own cells (each row's printed sentence says how): FnExactPointsOfSet: laid · FnExactSetStands: laid · FnExactIsTennisGame: laid · FnExactIsGameOrder: laid · FnExactGameStands: laid · FnExactIsSet: laid · FnExactGamesOf: laid · FnExactBreaksIn: laid · FnExactSetWinner: laid · FnExactFewestToSet: laid · FnExactFirstGameOrder: laid · FnExactSetOfGames: laid · FnExactMatchSets: laid · FnExactTieStands: laid.
  DERIVED. THE GIVEN ROWS OF THIS SEAT. 14 by the template 'for every input the law returns true; each argument reads behind the call as it read before'; 0 by the template 'total and deterministic' (their statements: YtjnkcgddalbojaaDoorTotals.lean).
  GIVEN WITH THE SEED: the statements are not yours to turn. If you find one false, say at which input.
  Laid BY PROGRAM, IN A SANDBOX (cutbox-rows.mjs): the forced cells as the released guide's own fill.sh prints them over the translation 5790599430b13d05… (all of the seat's roots in one cut). By AI agents, Wed Nov 11 2026. No macro, syntax, notation, axiom, sorry.
-/
import Derived.Test.YtjnkcgddalbojaaDoorChecked
import GoSem.PinnedTables
import GoSem.Claim
import GoSem.ClaimJoined
import GoSem.ClaimMapViews
import Derived.JoinedTies
import Derived.KernelRfl
namespace Go.Proofs.YtjnkcgddalbojaaDoor
/- THE CELL 'sum', in the pinned program and in every row, IS THE sha256 OF THE DUMP (.gsa) THAT YtjnkcgddalbojaaDoorProg.lean LOADS. Nothing in Lean hashes anything: it is a label: what it is worth is what the hold of that sum in a sandbox is worth. -/
noncomputable def Tryd.pinned : Pinned := { name := "ytjnkcgddalbojaadoor", sum := "5790599430b13d0574d92c58f995f4cc6f72c4d5769f21657345ced298b2e27c", checked := Tryd.checked }
namespace Rows
def none {H : Type} : Left H := { results := [], args := [] }

/- WHAT THE LISTED PACKAGE-LEVEL VARIABLES READ AS WHEN THE CALL BEGINS. Each datum BY PROGRAM (the guide's laid-datum.mjs) off the statement by which the dump's own 'gosem.cut.vars' lays the variable. In a bare row this is a premise. The card (YtjnkcgddalbojaaDoorCards.lean) ties it to the program's text. -/
def laid_unicode_utf8_acceptRanges {H : Type} : DataW H := .agg [.agg [.lit (.int .u8 128), .lit (.int .u8 191)], .agg [.lit (.int .u8 160), .lit (.int .u8 191)], .agg [.lit (.int .u8 128), .lit (.int .u8 159)], .agg [.lit (.int .u8 144), .lit (.int .u8 191)], .agg [.lit (.int .u8 128), .lit (.int .u8 143)], .agg [.lit (.int .u8 0), .lit (.int .u8 0)], .agg [.lit (.int .u8 0), .lit (.int .u8 0)], .agg [.lit (.int .u8 0), .lit (.int .u8 0)], .agg [.lit (.int .u8 0), .lit (.int .u8 0)], .agg [.lit (.int .u8 0), .lit (.int .u8 0)], .agg [.lit (.int .u8 0), .lit (.int .u8 0)], .agg [.lit (.int .u8 0), .lit (.int .u8 0)], .agg [.lit (.int .u8 0), .lit (.int .u8 0)], .agg [.lit (.int .u8 0), .lit (.int .u8 0)], .agg [.lit (.int .u8 0), .lit (.int .u8 0)], .agg [.lit (.int .u8 0), .lit (.int .u8 0)]]
/-- One of Go's own tables, pinned by name: the form's constant. -/
def laid_unicode_utf8_first : DataW Unit := Go.Pinned.utf8First
def laid_math_bits_deBruijn32tab {H : Type} : DataW H := .agg [.lit (.int .u8 0), .lit (.int .u8 1), .lit (.int .u8 28), .lit (.int .u8 2), .lit (.int .u8 29), .lit (.int .u8 14), .lit (.int .u8 24), .lit (.int .u8 3), .lit (.int .u8 30), .lit (.int .u8 22), .lit (.int .u8 20), .lit (.int .u8 15), .lit (.int .u8 25), .lit (.int .u8 17), .lit (.int .u8 4), .lit (.int .u8 8), .lit (.int .u8 31), .lit (.int .u8 27), .lit (.int .u8 13), .lit (.int .u8 23), .lit (.int .u8 21), .lit (.int .u8 19), .lit (.int .u8 16), .lit (.int .u8 7), .lit (.int .u8 26), .lit (.int .u8 12), .lit (.int .u8 18), .lit (.int .u8 6), .lit (.int .u8 11), .lit (.int .u8 5), .lit (.int .u8 10), .lit (.int .u8 9)]
def laid_math_bits_deBruijn64tab {H : Type} : DataW H := .agg [.lit (.int .u8 0), .lit (.int .u8 1), .lit (.int .u8 56), .lit (.int .u8 2), .lit (.int .u8 57), .lit (.int .u8 49), .lit (.int .u8 28), .lit (.int .u8 3), .lit (.int .u8 61), .lit (.int .u8 58), .lit (.int .u8 42), .lit (.int .u8 50), .lit (.int .u8 38), .lit (.int .u8 29), .lit (.int .u8 17), .lit (.int .u8 4), .lit (.int .u8 62), .lit (.int .u8 47), .lit (.int .u8 59), .lit (.int .u8 36), .lit (.int .u8 45), .lit (.int .u8 43), .lit (.int .u8 51), .lit (.int .u8 22), .lit (.int .u8 53), .lit (.int .u8 39), .lit (.int .u8 33), .lit (.int .u8 30), .lit (.int .u8 24), .lit (.int .u8 18), .lit (.int .u8 12), .lit (.int .u8 5), .lit (.int .u8 63), .lit (.int .u8 55), .lit (.int .u8 48), .lit (.int .u8 27), .lit (.int .u8 60), .lit (.int .u8 41), .lit (.int .u8 37), .lit (.int .u8 16), .lit (.int .u8 46), .lit (.int .u8 35), .lit (.int .u8 44), .lit (.int .u8 21), .lit (.int .u8 52), .lit (.int .u8 32), .lit (.int .u8 23), .lit (.int .u8 11), .lit (.int .u8 54), .lit (.int .u8 26), .lit (.int .u8 40), .lit (.int .u8 15), .lit (.int .u8 34), .lit (.int .u8 20), .lit (.int .u8 31), .lit (.int .u8 10), .lit (.int .u8 25), .lit (.int .u8 14), .lit (.int .u8 19), .lit (.int .u8 9), .lit (.int .u8 13), .lit (.int .u8 8), .lit (.int .u8 7), .lit (.int .u8 6)]
def laid_internal_strconv_uint64pow10 {H : Type} : DataW H := .agg [.lit (.int .u64 1), .lit (.int .u64 10), .lit (.int .u64 100), .lit (.int .u64 1000), .lit (.int .u64 10000), .lit (.int .u64 100000), .lit (.int .u64 1000000), .lit (.int .u64 10000000), .lit (.int .u64 100000000), .lit (.int .u64 1000000000), .lit (.int .u64 10000000000), .lit (.int .u64 100000000000), .lit (.int .u64 1000000000000), .lit (.int .u64 10000000000000), .lit (.int .u64 100000000000000), .lit (.int .u64 1000000000000000), .lit (.int .u64 10000000000000000), .lit (.int .u64 100000000000000000), .lit (.int .u64 1000000000000000000), .lit (.int .u64 10000000000000000000)]

/-- 'laws.FnExactPointsOfSet': WHATEVER THE INPUT: true; the input reads as it did. -/
def fnExactPointsOfSetSpec : ChangeSpec := { name := "fnExactPointsOfSet", fn := fun _ => fun
  | [d] => { results := [.lit (.bool true)], args := [d] }
  | _ => none }
def fnExactPointsOfSetRow : OpenClaim := { program := "ytjnkcgddalbojaadoor", sum := "5790599430b13d0574d92c58f995f4cc6f72c4d5769f21657345ced298b2e27c", func := "loop.example/g01368/laws.FnExactPointsOfSet", spec := "fnExactPointsOfSet", inPlace := ["internal/bytealg.IndexByteString", "internal/bytealg.IndexString", "internal/bytealg.CountString"], recurses := true, named := ["unicode/utf8.first", "unicode/utf8.acceptRanges", "internal/bytealg.MaxLen"], apart := false, laid := [("unicode/utf8.acceptRanges", laid_unicode_utf8_acceptRanges), ("unicode/utf8.first", laid_unicode_utf8_first)] }
def FnExactPointsOfSetSaid : Prop := fnExactPointsOfSetRow.holds Tryd.pinned (OpenSpec.ofChange fnExactPointsOfSetSpec)

/-- ITS FALSE NEIGHBOUR: 'it returns false'. Refute it at one input. -/
def fnExactPointsOfSetWrong : ChangeSpec := { name := "fnExactPointsOfSet", fn := fun _ => fun
  | [d] => { results := [.lit (.bool false)], args := [d] }
  | _ => none }
def FnExactPointsOfSetWrongFalsely : Prop := fnExactPointsOfSetRow.holds Tryd.pinned (OpenSpec.ofChange fnExactPointsOfSetWrong)

/-- 'laws.FnExactSetStands': WHATEVER THE INPUT: true; the input reads as it did. -/
def fnExactSetStandsSpec : ChangeSpec := { name := "fnExactSetStands", fn := fun _ => fun
  | [d] => { results := [.lit (.bool true)], args := [d] }
  | _ => none }
def fnExactSetStandsRow : OpenClaim := { program := "ytjnkcgddalbojaadoor", sum := "5790599430b13d0574d92c58f995f4cc6f72c4d5769f21657345ced298b2e27c", func := "loop.example/g01368/laws.FnExactSetStands", spec := "fnExactSetStands", inPlace := ["internal/bytealg.IndexByteString", "internal/bytealg.IndexString"], recurses := true, named := ["unicode/utf8.first", "unicode/utf8.acceptRanges", "internal/strconv.uint64pow10", "math/bits.deBruijn32tab", "math/bits.deBruijn64tab", "internal/bytealg.MaxLen"], apart := false, laid := [("math/bits.deBruijn32tab", laid_math_bits_deBruijn32tab), ("math/bits.deBruijn64tab", laid_math_bits_deBruijn64tab), ("internal/strconv.uint64pow10", laid_internal_strconv_uint64pow10), ("unicode/utf8.acceptRanges", laid_unicode_utf8_acceptRanges), ("unicode/utf8.first", laid_unicode_utf8_first)] }
def FnExactSetStandsSaid : Prop := fnExactSetStandsRow.holds Tryd.pinned (OpenSpec.ofChange fnExactSetStandsSpec)

/-- ITS FALSE NEIGHBOUR: 'it returns false'. Refute it at one input. -/
def fnExactSetStandsWrong : ChangeSpec := { name := "fnExactSetStands", fn := fun _ => fun
  | [d] => { results := [.lit (.bool false)], args := [d] }
  | _ => none }
def FnExactSetStandsWrongFalsely : Prop := fnExactSetStandsRow.holds Tryd.pinned (OpenSpec.ofChange fnExactSetStandsWrong)

/-- 'laws.FnExactIsTennisGame': WHATEVER THE INPUT: true; the input reads as it did. -/
def fnExactIsTennisGameSpec : ChangeSpec := { name := "fnExactIsTennisGame", fn := fun _ => fun
  | [d] => { results := [.lit (.bool true)], args := [d] }
  | _ => none }
def fnExactIsTennisGameRow : OpenClaim := { program := "ytjnkcgddalbojaadoor", sum := "5790599430b13d0574d92c58f995f4cc6f72c4d5769f21657345ced298b2e27c", func := "loop.example/g01368/laws.FnExactIsTennisGame", spec := "fnExactIsTennisGame", inPlace := ["internal/bytealg.IndexByteString", "internal/bytealg.IndexString"], named := ["unicode/utf8.first", "unicode/utf8.acceptRanges", "internal/bytealg.MaxLen"], apart := false, laid := [("unicode/utf8.acceptRanges", laid_unicode_utf8_acceptRanges), ("unicode/utf8.first", laid_unicode_utf8_first)] }
def FnExactIsTennisGameSaid : Prop := fnExactIsTennisGameRow.holds Tryd.pinned (OpenSpec.ofChange fnExactIsTennisGameSpec)

/-- ITS FALSE NEIGHBOUR: 'it returns false'. Refute it at one input. -/
def fnExactIsTennisGameWrong : ChangeSpec := { name := "fnExactIsTennisGame", fn := fun _ => fun
  | [d] => { results := [.lit (.bool false)], args := [d] }
  | _ => none }
def FnExactIsTennisGameWrongFalsely : Prop := fnExactIsTennisGameRow.holds Tryd.pinned (OpenSpec.ofChange fnExactIsTennisGameWrong)

/-- 'laws.FnExactIsGameOrder': WHATEVER THE INPUT: true; the input reads as it did. -/
def fnExactIsGameOrderSpec : ChangeSpec := { name := "fnExactIsGameOrder", fn := fun _ => fun
  | [d] => { results := [.lit (.bool true)], args := [d] }
  | _ => none }
def fnExactIsGameOrderRow : OpenClaim := { program := "ytjnkcgddalbojaadoor", sum := "5790599430b13d0574d92c58f995f4cc6f72c4d5769f21657345ced298b2e27c", func := "loop.example/g01368/laws.FnExactIsGameOrder", spec := "fnExactIsGameOrder", inPlace := ["internal/bytealg.IndexByteString", "internal/bytealg.IndexString"], named := ["unicode/utf8.first", "unicode/utf8.acceptRanges", "internal/bytealg.MaxLen"], apart := false, laid := [("unicode/utf8.acceptRanges", laid_unicode_utf8_acceptRanges), ("unicode/utf8.first", laid_unicode_utf8_first)] }
def FnExactIsGameOrderSaid : Prop := fnExactIsGameOrderRow.holds Tryd.pinned (OpenSpec.ofChange fnExactIsGameOrderSpec)

/-- ITS FALSE NEIGHBOUR: 'it returns false'. Refute it at one input. -/
def fnExactIsGameOrderWrong : ChangeSpec := { name := "fnExactIsGameOrder", fn := fun _ => fun
  | [d] => { results := [.lit (.bool false)], args := [d] }
  | _ => none }
def FnExactIsGameOrderWrongFalsely : Prop := fnExactIsGameOrderRow.holds Tryd.pinned (OpenSpec.ofChange fnExactIsGameOrderWrong)

/-- 'laws.FnExactGameStands': WHATEVER THE INPUT: true; the input reads as it did. -/
def fnExactGameStandsSpec : ChangeSpec := { name := "fnExactGameStands", fn := fun _ => fun
  | [d] => { results := [.lit (.bool true)], args := [d] }
  | _ => none }
def fnExactGameStandsRow : OpenClaim := { program := "ytjnkcgddalbojaadoor", sum := "5790599430b13d0574d92c58f995f4cc6f72c4d5769f21657345ced298b2e27c", func := "loop.example/g01368/laws.FnExactGameStands", spec := "fnExactGameStands", inPlace := ["internal/bytealg.IndexByteString", "internal/bytealg.IndexString"], named := ["unicode/utf8.first", "unicode/utf8.acceptRanges", "internal/bytealg.MaxLen"], apart := false, laid := [("unicode/utf8.acceptRanges", laid_unicode_utf8_acceptRanges), ("unicode/utf8.first", laid_unicode_utf8_first)] }
def FnExactGameStandsSaid : Prop := fnExactGameStandsRow.holds Tryd.pinned (OpenSpec.ofChange fnExactGameStandsSpec)

/-- ITS FALSE NEIGHBOUR: 'it returns false'. Refute it at one input. -/
def fnExactGameStandsWrong : ChangeSpec := { name := "fnExactGameStands", fn := fun _ => fun
  | [d] => { results := [.lit (.bool false)], args := [d] }
  | _ => none }
def FnExactGameStandsWrongFalsely : Prop := fnExactGameStandsRow.holds Tryd.pinned (OpenSpec.ofChange fnExactGameStandsWrong)

/-- 'laws.FnExactIsSet': WHATEVER THE INPUT: true; the input reads as it did. -/
def fnExactIsSetSpec : ChangeSpec := { name := "fnExactIsSet", fn := fun _ => fun
  | [d] => { results := [.lit (.bool true)], args := [d] }
  | _ => none }
def fnExactIsSetRow : OpenClaim := { program := "ytjnkcgddalbojaadoor", sum := "5790599430b13d0574d92c58f995f4cc6f72c4d5769f21657345ced298b2e27c", func := "loop.example/g01368/laws.FnExactIsSet", spec := "fnExactIsSet", inPlace := ["internal/bytealg.IndexByteString", "internal/bytealg.IndexString"], recurses := true, named := ["unicode/utf8.first", "unicode/utf8.acceptRanges", "internal/bytealg.MaxLen"], apart := false, laid := [("unicode/utf8.acceptRanges", laid_unicode_utf8_acceptRanges), ("unicode/utf8.first", laid_unicode_utf8_first)] }
def FnExactIsSetSaid : Prop := fnExactIsSetRow.holds Tryd.pinned (OpenSpec.ofChange fnExactIsSetSpec)

/-- ITS FALSE NEIGHBOUR: 'it returns false'. Refute it at one input. -/
def fnExactIsSetWrong : ChangeSpec := { name := "fnExactIsSet", fn := fun _ => fun
  | [d] => { results := [.lit (.bool false)], args := [d] }
  | _ => none }
def FnExactIsSetWrongFalsely : Prop := fnExactIsSetRow.holds Tryd.pinned (OpenSpec.ofChange fnExactIsSetWrong)

/-- 'laws.FnExactGamesOf': WHATEVER THE INPUT: true; the input reads as it did. -/
def fnExactGamesOfSpec : ChangeSpec := { name := "fnExactGamesOf", fn := fun _ => fun
  | [d] => { results := [.lit (.bool true)], args := [d] }
  | _ => none }
def fnExactGamesOfRow : OpenClaim := { program := "ytjnkcgddalbojaadoor", sum := "5790599430b13d0574d92c58f995f4cc6f72c4d5769f21657345ced298b2e27c", func := "loop.example/g01368/laws.FnExactGamesOf", spec := "fnExactGamesOf", inPlace := ["internal/bytealg.IndexByteString", "internal/bytealg.IndexString"], recurses := true, named := ["unicode/utf8.first", "unicode/utf8.acceptRanges", "internal/bytealg.MaxLen"], apart := false, laid := [("unicode/utf8.acceptRanges", laid_unicode_utf8_acceptRanges), ("unicode/utf8.first", laid_unicode_utf8_first)] }
def FnExactGamesOfSaid : Prop := fnExactGamesOfRow.holds Tryd.pinned (OpenSpec.ofChange fnExactGamesOfSpec)

/-- ITS FALSE NEIGHBOUR: 'it returns false'. Refute it at one input. -/
def fnExactGamesOfWrong : ChangeSpec := { name := "fnExactGamesOf", fn := fun _ => fun
  | [d] => { results := [.lit (.bool false)], args := [d] }
  | _ => none }
def FnExactGamesOfWrongFalsely : Prop := fnExactGamesOfRow.holds Tryd.pinned (OpenSpec.ofChange fnExactGamesOfWrong)

/-- 'laws.FnExactBreaksIn': WHATEVER THE INPUT: true; the input reads as it did. -/
def fnExactBreaksInSpec : ChangeSpec := { name := "fnExactBreaksIn", fn := fun _ => fun
  | [d] => { results := [.lit (.bool true)], args := [d] }
  | _ => none }
def fnExactBreaksInRow : OpenClaim := { program := "ytjnkcgddalbojaadoor", sum := "5790599430b13d0574d92c58f995f4cc6f72c4d5769f21657345ced298b2e27c", func := "loop.example/g01368/laws.FnExactBreaksIn", spec := "fnExactBreaksIn", inPlace := ["internal/bytealg.IndexByteString", "internal/bytealg.IndexString"], recurses := true, named := ["unicode/utf8.first", "unicode/utf8.acceptRanges", "internal/bytealg.MaxLen"], apart := false, laid := [("unicode/utf8.acceptRanges", laid_unicode_utf8_acceptRanges), ("unicode/utf8.first", laid_unicode_utf8_first)] }
def FnExactBreaksInSaid : Prop := fnExactBreaksInRow.holds Tryd.pinned (OpenSpec.ofChange fnExactBreaksInSpec)

/-- ITS FALSE NEIGHBOUR: 'it returns false'. Refute it at one input. -/
def fnExactBreaksInWrong : ChangeSpec := { name := "fnExactBreaksIn", fn := fun _ => fun
  | [d] => { results := [.lit (.bool false)], args := [d] }
  | _ => none }
def FnExactBreaksInWrongFalsely : Prop := fnExactBreaksInRow.holds Tryd.pinned (OpenSpec.ofChange fnExactBreaksInWrong)

/-- 'laws.FnExactSetWinner': WHATEVER THE INPUT: true; the input reads as it did. -/
def fnExactSetWinnerSpec : ChangeSpec := { name := "fnExactSetWinner", fn := fun _ => fun
  | [d] => { results := [.lit (.bool true)], args := [d] }
  | _ => none }
def fnExactSetWinnerRow : OpenClaim := { program := "ytjnkcgddalbojaadoor", sum := "5790599430b13d0574d92c58f995f4cc6f72c4d5769f21657345ced298b2e27c", func := "loop.example/g01368/laws.FnExactSetWinner", spec := "fnExactSetWinner", inPlace := ["internal/bytealg.IndexByteString", "internal/bytealg.IndexString"], recurses := true, named := ["unicode/utf8.first", "unicode/utf8.acceptRanges", "internal/bytealg.MaxLen"], apart := false, laid := [("unicode/utf8.acceptRanges", laid_unicode_utf8_acceptRanges), ("unicode/utf8.first", laid_unicode_utf8_first)] }
def FnExactSetWinnerSaid : Prop := fnExactSetWinnerRow.holds Tryd.pinned (OpenSpec.ofChange fnExactSetWinnerSpec)

/-- ITS FALSE NEIGHBOUR: 'it returns false'. Refute it at one input. -/
def fnExactSetWinnerWrong : ChangeSpec := { name := "fnExactSetWinner", fn := fun _ => fun
  | [d] => { results := [.lit (.bool false)], args := [d] }
  | _ => none }
def FnExactSetWinnerWrongFalsely : Prop := fnExactSetWinnerRow.holds Tryd.pinned (OpenSpec.ofChange fnExactSetWinnerWrong)

/-- 'laws.FnExactFewestToSet': WHATEVER THE INPUT: true; the input reads as it did. -/
def fnExactFewestToSetSpec : ChangeSpec := { name := "fnExactFewestToSet", fn := fun _ => fun
  | [d1, d2] => { results := [.lit (.bool true)], args := [d1, d2] }
  | _ => none }
def fnExactFewestToSetRow : OpenClaim := { program := "ytjnkcgddalbojaadoor", sum := "5790599430b13d0574d92c58f995f4cc6f72c4d5769f21657345ced298b2e27c", func := "loop.example/g01368/laws.FnExactFewestToSet", spec := "fnExactFewestToSet", inPlace := ["internal/bytealg.IndexByteString", "internal/bytealg.IndexString"], recurses := true, named := ["unicode/utf8.first", "unicode/utf8.acceptRanges", "internal/bytealg.MaxLen"], apart := false, laid := [("unicode/utf8.acceptRanges", laid_unicode_utf8_acceptRanges), ("unicode/utf8.first", laid_unicode_utf8_first)] }
def FnExactFewestToSetSaid : Prop := fnExactFewestToSetRow.holds Tryd.pinned (OpenSpec.ofChange fnExactFewestToSetSpec)

/-- ITS FALSE NEIGHBOUR: 'it returns false'. Refute it at one input. -/
def fnExactFewestToSetWrong : ChangeSpec := { name := "fnExactFewestToSet", fn := fun _ => fun
  | [d1, d2] => { results := [.lit (.bool false)], args := [d1, d2] }
  | _ => none }
def FnExactFewestToSetWrongFalsely : Prop := fnExactFewestToSetRow.holds Tryd.pinned (OpenSpec.ofChange fnExactFewestToSetWrong)

/-- 'laws.FnExactFirstGameOrder': WHATEVER THE INPUT: true; the input reads as it did. -/
def fnExactFirstGameOrderSpec : ChangeSpec := { name := "fnExactFirstGameOrder", fn := fun _ => fun
  | [d1, d2] => { results := [.lit (.bool true)], args := [d1, d2] }
  | _ => none }
def fnExactFirstGameOrderRow : OpenClaim := { program := "ytjnkcgddalbojaadoor", sum := "5790599430b13d0574d92c58f995f4cc6f72c4d5769f21657345ced298b2e27c", func := "loop.example/g01368/laws.FnExactFirstGameOrder", spec := "fnExactFirstGameOrder", inPlace := ["internal/bytealg.CountString", "internal/bytealg.IndexByteString", "internal/bytealg.IndexString"], unfollowed := true, recurses := true, named := ["internal/bytealg.MaxLen", "unicode/utf8.first", "unicode/utf8.acceptRanges"], apart := false, laid := [("unicode/utf8.acceptRanges", laid_unicode_utf8_acceptRanges), ("unicode/utf8.first", laid_unicode_utf8_first)] }
def FnExactFirstGameOrderSaid : Prop := fnExactFirstGameOrderRow.holds Tryd.pinned (OpenSpec.ofChange fnExactFirstGameOrderSpec)

/-- ITS FALSE NEIGHBOUR: 'it returns false'. Refute it at one input. -/
def fnExactFirstGameOrderWrong : ChangeSpec := { name := "fnExactFirstGameOrder", fn := fun _ => fun
  | [d1, d2] => { results := [.lit (.bool false)], args := [d1, d2] }
  | _ => none }
def FnExactFirstGameOrderWrongFalsely : Prop := fnExactFirstGameOrderRow.holds Tryd.pinned (OpenSpec.ofChange fnExactFirstGameOrderWrong)

/-- 'laws.FnExactSetOfGames': WHATEVER THE INPUT: true; the input reads as it did. -/
def fnExactSetOfGamesSpec : ChangeSpec := { name := "fnExactSetOfGames", fn := fun _ => fun
  | [d] => { results := [.lit (.bool true)], args := [d] }
  | _ => none }
def fnExactSetOfGamesRow : OpenClaim := { program := "ytjnkcgddalbojaadoor", sum := "5790599430b13d0574d92c58f995f4cc6f72c4d5769f21657345ced298b2e27c", func := "loop.example/g01368/laws.FnExactSetOfGames", spec := "fnExactSetOfGames", inPlace := ["internal/bytealg.IndexByteString", "internal/bytealg.IndexString", "internal/abi.NoEscape", "internal/bytealg.MakeNoZero"], named := ["unicode/utf8.first", "unicode/utf8.acceptRanges", "internal/bytealg.MaxLen"], apart := false, laid := [("unicode/utf8.acceptRanges", laid_unicode_utf8_acceptRanges), ("unicode/utf8.first", laid_unicode_utf8_first)] }
def FnExactSetOfGamesSaid : Prop := fnExactSetOfGamesRow.holds Tryd.pinned (OpenSpec.ofChange fnExactSetOfGamesSpec)

/-- ITS FALSE NEIGHBOUR: 'it returns false'. Refute it at one input. -/
def fnExactSetOfGamesWrong : ChangeSpec := { name := "fnExactSetOfGames", fn := fun _ => fun
  | [d] => { results := [.lit (.bool false)], args := [d] }
  | _ => none }
def FnExactSetOfGamesWrongFalsely : Prop := fnExactSetOfGamesRow.holds Tryd.pinned (OpenSpec.ofChange fnExactSetOfGamesWrong)

/-- 'laws.FnExactMatchSets': WHATEVER THE INPUT: true; the input reads as it did. -/
def fnExactMatchSetsSpec : ChangeSpec := { name := "fnExactMatchSets", fn := fun _ => fun
  | [d1, d2] => { results := [.lit (.bool true)], args := [d1, d2] }
  | _ => none }
def fnExactMatchSetsRow : OpenClaim := { program := "ytjnkcgddalbojaadoor", sum := "5790599430b13d0574d92c58f995f4cc6f72c4d5769f21657345ced298b2e27c", func := "loop.example/g01368/laws.FnExactMatchSets", spec := "fnExactMatchSets", inPlace := ["internal/bytealg.IndexByteString", "internal/bytealg.IndexString"], recurses := true, named := ["unicode/utf8.first", "unicode/utf8.acceptRanges", "internal/bytealg.MaxLen"], apart := false, laid := [("unicode/utf8.acceptRanges", laid_unicode_utf8_acceptRanges), ("unicode/utf8.first", laid_unicode_utf8_first)] }
def FnExactMatchSetsSaid : Prop := fnExactMatchSetsRow.holds Tryd.pinned (OpenSpec.ofChange fnExactMatchSetsSpec)

/-- ITS FALSE NEIGHBOUR: 'it returns false'. Refute it at one input. -/
def fnExactMatchSetsWrong : ChangeSpec := { name := "fnExactMatchSets", fn := fun _ => fun
  | [d1, d2] => { results := [.lit (.bool false)], args := [d1, d2] }
  | _ => none }
def FnExactMatchSetsWrongFalsely : Prop := fnExactMatchSetsRow.holds Tryd.pinned (OpenSpec.ofChange fnExactMatchSetsWrong)

/-- 'laws.FnExactTieStands': WHATEVER THE INPUT: true; the input reads as it did. -/
def fnExactTieStandsSpec : ChangeSpec := { name := "fnExactTieStands", fn := fun _ => fun
  | [d] => { results := [.lit (.bool true)], args := [d] }
  | _ => none }
def fnExactTieStandsRow : OpenClaim := { program := "ytjnkcgddalbojaadoor", sum := "5790599430b13d0574d92c58f995f4cc6f72c4d5769f21657345ced298b2e27c", func := "loop.example/g01368/laws.FnExactTieStands", spec := "fnExactTieStands", inPlace := ["internal/bytealg.IndexByteString", "internal/bytealg.IndexString"], recurses := true, named := ["unicode/utf8.first", "unicode/utf8.acceptRanges", "internal/strconv.uint64pow10", "math/bits.deBruijn32tab", "math/bits.deBruijn64tab", "internal/bytealg.MaxLen"], apart := false, laid := [("math/bits.deBruijn32tab", laid_math_bits_deBruijn32tab), ("math/bits.deBruijn64tab", laid_math_bits_deBruijn64tab), ("internal/strconv.uint64pow10", laid_internal_strconv_uint64pow10), ("unicode/utf8.acceptRanges", laid_unicode_utf8_acceptRanges), ("unicode/utf8.first", laid_unicode_utf8_first)] }
def FnExactTieStandsSaid : Prop := fnExactTieStandsRow.holds Tryd.pinned (OpenSpec.ofChange fnExactTieStandsSpec)

/-- ITS FALSE NEIGHBOUR: 'it returns false'. Refute it at one input. -/
def fnExactTieStandsWrong : ChangeSpec := { name := "fnExactTieStands", fn := fun _ => fun
  | [d] => { results := [.lit (.bool false)], args := [d] }
  | _ => none }
def FnExactTieStandsWrongFalsely : Prop := fnExactTieStandsRow.holds Tryd.pinned (OpenSpec.ofChange fnExactTieStandsWrong)

/- THE SECOND FORM. 'bulk': how many values and letters a reading holds, each counted each time it is reached (what is shared counts as often as it is met; a slice's spare places count too). A statement '..UptoSaid' is the law's where the arguments, and the package variables that the reading takes, are together of bulk at most 1048576: NARROWER than '..Said'. Prove '..Said' where nothing that the law and all that it calls make is longer than what came in: it says more and counts as full. Else prove '..UptoSaid'. A law counts once. -/
mutual
def uptoBulk {H : Type} : DataW H → Nat
  | .lit (.string bytes) => bytes.length + 1
  | .lit _ => 1
  | .nil => 1
  | .ptr d => uptoBulk d + 1
  | .slice elems spare => uptoBulkAll elems + uptoBulkAll spare + 1
  | .agg parts => uptoBulkAll parts + 1
  | .iface _ d => uptoBulk d + 1
  | .map entries => uptoBulkEntries entries + 1
  | .held _ => 1
def uptoBulkAll {H : Type} : List (DataW H) → Nat
  | [] => 0
  | d :: r => uptoBulk d + uptoBulkAll r
def uptoBulkEntries {H : Type} : List (Lit × DataW H) → Nat
  | [] => 0
  | x :: r => uptoBulkEntry x + uptoBulkEntries r
def uptoBulkEntry {H : Type} : Lit × DataW H → Nat
  | (.string bytes, d) => bytes.length + uptoBulk d + 1
  | (_, d) => uptoBulk d + 1
 end
def uptoSmall : (H : Type) → List (DataW H) → Bool := fun _ ds => decide (uptoBulkAll ds ≤ 1048576)
def OpenSpec.upto (s : _root_.Go.ChangeSpec) : _root_.Go.OpenSpec := { _root_.Go.OpenSpec.ofChange s with cond := some uptoSmall }

/-- 'laws.FnExactPointsOfSet', WHERE WHAT IT READS IS OF BULK AT MOST 1048576: true; the input reads as it did. -/
def fnExactPointsOfSetUptoRow : OpenClaim := { program := "ytjnkcgddalbojaadoor", sum := "5790599430b13d0574d92c58f995f4cc6f72c4d5769f21657345ced298b2e27c", func := "loop.example/g01368/laws.FnExactPointsOfSet", spec := "fnExactPointsOfSet", inPlace := ["internal/bytealg.IndexByteString", "internal/bytealg.IndexString", "internal/bytealg.CountString"], recurses := true, named := ["unicode/utf8.first", "unicode/utf8.acceptRanges", "internal/bytealg.MaxLen"], apart := false, laid := [("unicode/utf8.acceptRanges", laid_unicode_utf8_acceptRanges), ("unicode/utf8.first", laid_unicode_utf8_first)], narrowed := true }
def FnExactPointsOfSetUptoSaid : Prop := fnExactPointsOfSetUptoRow.holds Tryd.pinned (OpenSpec.upto fnExactPointsOfSetSpec)

/-- 'laws.FnExactSetStands', WHERE WHAT IT READS IS OF BULK AT MOST 1048576: true; the input reads as it did. -/
def fnExactSetStandsUptoRow : OpenClaim := { program := "ytjnkcgddalbojaadoor", sum := "5790599430b13d0574d92c58f995f4cc6f72c4d5769f21657345ced298b2e27c", func := "loop.example/g01368/laws.FnExactSetStands", spec := "fnExactSetStands", inPlace := ["internal/bytealg.IndexByteString", "internal/bytealg.IndexString"], recurses := true, named := ["unicode/utf8.first", "unicode/utf8.acceptRanges", "internal/strconv.uint64pow10", "math/bits.deBruijn32tab", "math/bits.deBruijn64tab", "internal/bytealg.MaxLen"], apart := false, laid := [("math/bits.deBruijn32tab", laid_math_bits_deBruijn32tab), ("math/bits.deBruijn64tab", laid_math_bits_deBruijn64tab), ("internal/strconv.uint64pow10", laid_internal_strconv_uint64pow10), ("unicode/utf8.acceptRanges", laid_unicode_utf8_acceptRanges), ("unicode/utf8.first", laid_unicode_utf8_first)], narrowed := true }
def FnExactSetStandsUptoSaid : Prop := fnExactSetStandsUptoRow.holds Tryd.pinned (OpenSpec.upto fnExactSetStandsSpec)

/-- 'laws.FnExactIsTennisGame', WHERE WHAT IT READS IS OF BULK AT MOST 1048576: true; the input reads as it did. -/
def fnExactIsTennisGameUptoRow : OpenClaim := { program := "ytjnkcgddalbojaadoor", sum := "5790599430b13d0574d92c58f995f4cc6f72c4d5769f21657345ced298b2e27c", func := "loop.example/g01368/laws.FnExactIsTennisGame", spec := "fnExactIsTennisGame", inPlace := ["internal/bytealg.IndexByteString", "internal/bytealg.IndexString"], named := ["unicode/utf8.first", "unicode/utf8.acceptRanges", "internal/bytealg.MaxLen"], apart := false, laid := [("unicode/utf8.acceptRanges", laid_unicode_utf8_acceptRanges), ("unicode/utf8.first", laid_unicode_utf8_first)], narrowed := true }
def FnExactIsTennisGameUptoSaid : Prop := fnExactIsTennisGameUptoRow.holds Tryd.pinned (OpenSpec.upto fnExactIsTennisGameSpec)

/-- 'laws.FnExactIsGameOrder', WHERE WHAT IT READS IS OF BULK AT MOST 1048576: true; the input reads as it did. -/
def fnExactIsGameOrderUptoRow : OpenClaim := { program := "ytjnkcgddalbojaadoor", sum := "5790599430b13d0574d92c58f995f4cc6f72c4d5769f21657345ced298b2e27c", func := "loop.example/g01368/laws.FnExactIsGameOrder", spec := "fnExactIsGameOrder", inPlace := ["internal/bytealg.IndexByteString", "internal/bytealg.IndexString"], named := ["unicode/utf8.first", "unicode/utf8.acceptRanges", "internal/bytealg.MaxLen"], apart := false, laid := [("unicode/utf8.acceptRanges", laid_unicode_utf8_acceptRanges), ("unicode/utf8.first", laid_unicode_utf8_first)], narrowed := true }
def FnExactIsGameOrderUptoSaid : Prop := fnExactIsGameOrderUptoRow.holds Tryd.pinned (OpenSpec.upto fnExactIsGameOrderSpec)

/-- 'laws.FnExactGameStands', WHERE WHAT IT READS IS OF BULK AT MOST 1048576: true; the input reads as it did. -/
def fnExactGameStandsUptoRow : OpenClaim := { program := "ytjnkcgddalbojaadoor", sum := "5790599430b13d0574d92c58f995f4cc6f72c4d5769f21657345ced298b2e27c", func := "loop.example/g01368/laws.FnExactGameStands", spec := "fnExactGameStands", inPlace := ["internal/bytealg.IndexByteString", "internal/bytealg.IndexString"], named := ["unicode/utf8.first", "unicode/utf8.acceptRanges", "internal/bytealg.MaxLen"], apart := false, laid := [("unicode/utf8.acceptRanges", laid_unicode_utf8_acceptRanges), ("unicode/utf8.first", laid_unicode_utf8_first)], narrowed := true }
def FnExactGameStandsUptoSaid : Prop := fnExactGameStandsUptoRow.holds Tryd.pinned (OpenSpec.upto fnExactGameStandsSpec)

/-- 'laws.FnExactIsSet', WHERE WHAT IT READS IS OF BULK AT MOST 1048576: true; the input reads as it did. -/
def fnExactIsSetUptoRow : OpenClaim := { program := "ytjnkcgddalbojaadoor", sum := "5790599430b13d0574d92c58f995f4cc6f72c4d5769f21657345ced298b2e27c", func := "loop.example/g01368/laws.FnExactIsSet", spec := "fnExactIsSet", inPlace := ["internal/bytealg.IndexByteString", "internal/bytealg.IndexString"], recurses := true, named := ["unicode/utf8.first", "unicode/utf8.acceptRanges", "internal/bytealg.MaxLen"], apart := false, laid := [("unicode/utf8.acceptRanges", laid_unicode_utf8_acceptRanges), ("unicode/utf8.first", laid_unicode_utf8_first)], narrowed := true }
def FnExactIsSetUptoSaid : Prop := fnExactIsSetUptoRow.holds Tryd.pinned (OpenSpec.upto fnExactIsSetSpec)

/-- 'laws.FnExactGamesOf', WHERE WHAT IT READS IS OF BULK AT MOST 1048576: true; the input reads as it did. -/
def fnExactGamesOfUptoRow : OpenClaim := { program := "ytjnkcgddalbojaadoor", sum := "5790599430b13d0574d92c58f995f4cc6f72c4d5769f21657345ced298b2e27c", func := "loop.example/g01368/laws.FnExactGamesOf", spec := "fnExactGamesOf", inPlace := ["internal/bytealg.IndexByteString", "internal/bytealg.IndexString"], recurses := true, named := ["unicode/utf8.first", "unicode/utf8.acceptRanges", "internal/bytealg.MaxLen"], apart := false, laid := [("unicode/utf8.acceptRanges", laid_unicode_utf8_acceptRanges), ("unicode/utf8.first", laid_unicode_utf8_first)], narrowed := true }
def FnExactGamesOfUptoSaid : Prop := fnExactGamesOfUptoRow.holds Tryd.pinned (OpenSpec.upto fnExactGamesOfSpec)

/-- 'laws.FnExactBreaksIn', WHERE WHAT IT READS IS OF BULK AT MOST 1048576: true; the input reads as it did. -/
def fnExactBreaksInUptoRow : OpenClaim := { program := "ytjnkcgddalbojaadoor", sum := "5790599430b13d0574d92c58f995f4cc6f72c4d5769f21657345ced298b2e27c", func := "loop.example/g01368/laws.FnExactBreaksIn", spec := "fnExactBreaksIn", inPlace := ["internal/bytealg.IndexByteString", "internal/bytealg.IndexString"], recurses := true, named := ["unicode/utf8.first", "unicode/utf8.acceptRanges", "internal/bytealg.MaxLen"], apart := false, laid := [("unicode/utf8.acceptRanges", laid_unicode_utf8_acceptRanges), ("unicode/utf8.first", laid_unicode_utf8_first)], narrowed := true }
def FnExactBreaksInUptoSaid : Prop := fnExactBreaksInUptoRow.holds Tryd.pinned (OpenSpec.upto fnExactBreaksInSpec)

/-- 'laws.FnExactSetWinner', WHERE WHAT IT READS IS OF BULK AT MOST 1048576: true; the input reads as it did. -/
def fnExactSetWinnerUptoRow : OpenClaim := { program := "ytjnkcgddalbojaadoor", sum := "5790599430b13d0574d92c58f995f4cc6f72c4d5769f21657345ced298b2e27c", func := "loop.example/g01368/laws.FnExactSetWinner", spec := "fnExactSetWinner", inPlace := ["internal/bytealg.IndexByteString", "internal/bytealg.IndexString"], recurses := true, named := ["unicode/utf8.first", "unicode/utf8.acceptRanges", "internal/bytealg.MaxLen"], apart := false, laid := [("unicode/utf8.acceptRanges", laid_unicode_utf8_acceptRanges), ("unicode/utf8.first", laid_unicode_utf8_first)], narrowed := true }
def FnExactSetWinnerUptoSaid : Prop := fnExactSetWinnerUptoRow.holds Tryd.pinned (OpenSpec.upto fnExactSetWinnerSpec)

/-- 'laws.FnExactFewestToSet', WHERE WHAT IT READS IS OF BULK AT MOST 1048576: true; the input reads as it did. -/
def fnExactFewestToSetUptoRow : OpenClaim := { program := "ytjnkcgddalbojaadoor", sum := "5790599430b13d0574d92c58f995f4cc6f72c4d5769f21657345ced298b2e27c", func := "loop.example/g01368/laws.FnExactFewestToSet", spec := "fnExactFewestToSet", inPlace := ["internal/bytealg.IndexByteString", "internal/bytealg.IndexString"], recurses := true, named := ["unicode/utf8.first", "unicode/utf8.acceptRanges", "internal/bytealg.MaxLen"], apart := false, laid := [("unicode/utf8.acceptRanges", laid_unicode_utf8_acceptRanges), ("unicode/utf8.first", laid_unicode_utf8_first)], narrowed := true }
def FnExactFewestToSetUptoSaid : Prop := fnExactFewestToSetUptoRow.holds Tryd.pinned (OpenSpec.upto fnExactFewestToSetSpec)

/-- 'laws.FnExactFirstGameOrder', WHERE WHAT IT READS IS OF BULK AT MOST 1048576: true; the input reads as it did. -/
def fnExactFirstGameOrderUptoRow : OpenClaim := { program := "ytjnkcgddalbojaadoor", sum := "5790599430b13d0574d92c58f995f4cc6f72c4d5769f21657345ced298b2e27c", func := "loop.example/g01368/laws.FnExactFirstGameOrder", spec := "fnExactFirstGameOrder", inPlace := ["internal/bytealg.CountString", "internal/bytealg.IndexByteString", "internal/bytealg.IndexString"], unfollowed := true, recurses := true, named := ["internal/bytealg.MaxLen", "unicode/utf8.first", "unicode/utf8.acceptRanges"], apart := false, laid := [("unicode/utf8.acceptRanges", laid_unicode_utf8_acceptRanges), ("unicode/utf8.first", laid_unicode_utf8_first)], narrowed := true }
def FnExactFirstGameOrderUptoSaid : Prop := fnExactFirstGameOrderUptoRow.holds Tryd.pinned (OpenSpec.upto fnExactFirstGameOrderSpec)

/-- 'laws.FnExactSetOfGames', WHERE WHAT IT READS IS OF BULK AT MOST 1048576: true; the input reads as it did. -/
def fnExactSetOfGamesUptoRow : OpenClaim := { program := "ytjnkcgddalbojaadoor", sum := "5790599430b13d0574d92c58f995f4cc6f72c4d5769f21657345ced298b2e27c", func := "loop.example/g01368/laws.FnExactSetOfGames", spec := "fnExactSetOfGames", inPlace := ["internal/bytealg.IndexByteString", "internal/bytealg.IndexString", "internal/abi.NoEscape", "internal/bytealg.MakeNoZero"], named := ["unicode/utf8.first", "unicode/utf8.acceptRanges", "internal/bytealg.MaxLen"], apart := false, laid := [("unicode/utf8.acceptRanges", laid_unicode_utf8_acceptRanges), ("unicode/utf8.first", laid_unicode_utf8_first)], narrowed := true }
def FnExactSetOfGamesUptoSaid : Prop := fnExactSetOfGamesUptoRow.holds Tryd.pinned (OpenSpec.upto fnExactSetOfGamesSpec)

/-- 'laws.FnExactMatchSets', WHERE WHAT IT READS IS OF BULK AT MOST 1048576: true; the input reads as it did. -/
def fnExactMatchSetsUptoRow : OpenClaim := { program := "ytjnkcgddalbojaadoor", sum := "5790599430b13d0574d92c58f995f4cc6f72c4d5769f21657345ced298b2e27c", func := "loop.example/g01368/laws.FnExactMatchSets", spec := "fnExactMatchSets", inPlace := ["internal/bytealg.IndexByteString", "internal/bytealg.IndexString"], recurses := true, named := ["unicode/utf8.first", "unicode/utf8.acceptRanges", "internal/bytealg.MaxLen"], apart := false, laid := [("unicode/utf8.acceptRanges", laid_unicode_utf8_acceptRanges), ("unicode/utf8.first", laid_unicode_utf8_first)], narrowed := true }
def FnExactMatchSetsUptoSaid : Prop := fnExactMatchSetsUptoRow.holds Tryd.pinned (OpenSpec.upto fnExactMatchSetsSpec)

/-- 'laws.FnExactTieStands', WHERE WHAT IT READS IS OF BULK AT MOST 1048576: true; the input reads as it did. -/
def fnExactTieStandsUptoRow : OpenClaim := { program := "ytjnkcgddalbojaadoor", sum := "5790599430b13d0574d92c58f995f4cc6f72c4d5769f21657345ced298b2e27c", func := "loop.example/g01368/laws.FnExactTieStands", spec := "fnExactTieStands", inPlace := ["internal/bytealg.IndexByteString", "internal/bytealg.IndexString"], recurses := true, named := ["unicode/utf8.first", "unicode/utf8.acceptRanges", "internal/strconv.uint64pow10", "math/bits.deBruijn32tab", "math/bits.deBruijn64tab", "internal/bytealg.MaxLen"], apart := false, laid := [("math/bits.deBruijn32tab", laid_math_bits_deBruijn32tab), ("math/bits.deBruijn64tab", laid_math_bits_deBruijn64tab), ("internal/strconv.uint64pow10", laid_internal_strconv_uint64pow10), ("unicode/utf8.acceptRanges", laid_unicode_utf8_acceptRanges), ("unicode/utf8.first", laid_unicode_utf8_first)], narrowed := true }
def FnExactTieStandsUptoSaid : Prop := fnExactTieStandsUptoRow.holds Tryd.pinned (OpenSpec.upto fnExactTieStandsSpec)

end Rows
end Go.Proofs.YtjnkcgddalbojaaDoor
