/-
  No cell of these rows narrows 'for every input' (looked for: loops, veiled, ifaces, maps, wideKeys, modest, calm, conditions, laid).
  DERIVED. THE GIVEN ROWS OF THIS SEAT. 13 by the template 'for every input the law returns true; each argument reads behind the call as it read before'; 0 by the template 'total and deterministic' (their statements: YtoaiajgbiaedfaaTotals.lean).
  GIVEN WITH THE SEED: the statements are not yours to turn. If you find one false, say at which input.
  Laid BY PROGRAM, IN A SANDBOX (cutbox-rows.mjs): the forced cells as the released guide's own fill.sh prints them over the translation ba345ef637ea706f… (all of the seat's roots in one cut). By AI agents, Wed Nov 11 2026. No macro, syntax, notation, axiom, sorry.
-/
import Derived.Test.YtoaiajgbiaedfaaChecked
import GoSem.Claim
import GoSem.ClaimJoined
import GoSem.ClaimMapViews
import Derived.JoinedTies
import Derived.KernelRfl
namespace Go.Proofs.Ytoaiajgbiaedfaa
/- THE CELL 'sum', in the pinned program and in every row, IS THE sha256 OF THE DUMP (.gsa) THAT YtoaiajgbiaedfaaProg.lean LOADS. Nothing in Lean hashes anything: it is a label: what it is worth is what the hold of that sum in a sandbox is worth. -/
noncomputable def Try.pinned : Pinned := { name := "ytoaiajgbiaedfaa", sum := "ba345ef637ea706ff16abc781a566cf45cbe7d951f0ab415a2215e8c7a72cd6e", checked := Try.checked }
namespace Rows
def none {H : Type} : Left H := { results := [], args := [] }

/-- 'laws.FnExactScoreOf': WHATEVER THE INPUT: true; the input reads as it did. -/
def fnExactScoreOfSpec : ChangeSpec := { name := "fnExactScoreOf", fn := fun _ => fun
  | [d] => { results := [.lit (.bool true)], args := [d] }
  | _ => none }
def fnExactScoreOfRow : OpenClaim := { program := "ytoaiajgbiaedfaa", sum := "ba345ef637ea706ff16abc781a566cf45cbe7d951f0ab415a2215e8c7a72cd6e", func := "loop.example/g01368/laws.FnExactScoreOf", spec := "fnExactScoreOf", unfollowed := true, recurses := true, apart := false }
def FnExactScoreOfSaid : Prop := fnExactScoreOfRow.holds Try.pinned (OpenSpec.ofChange fnExactScoreOfSpec)

/-- ITS FALSE NEIGHBOUR: 'it returns false'. Refute it at one input. -/
def fnExactScoreOfWrong : ChangeSpec := { name := "fnExactScoreOf", fn := fun _ => fun
  | [d] => { results := [.lit (.bool false)], args := [d] }
  | _ => none }
def FnExactScoreOfWrongFalsely : Prop := fnExactScoreOfRow.holds Try.pinned (OpenSpec.ofChange fnExactScoreOfWrong)

/-- 'laws.FnExactIsBust': WHATEVER THE INPUT: true; the input reads as it did. -/
def fnExactIsBustSpec : ChangeSpec := { name := "fnExactIsBust", fn := fun _ => fun
  | [d1, d2] => { results := [.lit (.bool true)], args := [d1, d2] }
  | _ => none }
def fnExactIsBustRow : OpenClaim := { program := "ytoaiajgbiaedfaa", sum := "ba345ef637ea706ff16abc781a566cf45cbe7d951f0ab415a2215e8c7a72cd6e", func := "loop.example/g01368/laws.FnExactIsBust", spec := "fnExactIsBust", unfollowed := true, recurses := true, apart := false }
def FnExactIsBustSaid : Prop := fnExactIsBustRow.holds Try.pinned (OpenSpec.ofChange fnExactIsBustSpec)

/-- ITS FALSE NEIGHBOUR: 'it returns false'. Refute it at one input. -/
def fnExactIsBustWrong : ChangeSpec := { name := "fnExactIsBust", fn := fun _ => fun
  | [d1, d2] => { results := [.lit (.bool false)], args := [d1, d2] }
  | _ => none }
def FnExactIsBustWrongFalsely : Prop := fnExactIsBustRow.holds Try.pinned (OpenSpec.ofChange fnExactIsBustWrong)

/-- 'laws.FnExactLeftAfter': WHATEVER THE INPUT: true; the input reads as it did. -/
def fnExactLeftAfterSpec : ChangeSpec := { name := "fnExactLeftAfter", fn := fun _ => fun
  | [d1, d2] => { results := [.lit (.bool true)], args := [d1, d2] }
  | _ => none }
def fnExactLeftAfterRow : OpenClaim := { program := "ytoaiajgbiaedfaa", sum := "ba345ef637ea706ff16abc781a566cf45cbe7d951f0ab415a2215e8c7a72cd6e", func := "loop.example/g01368/laws.FnExactLeftAfter", spec := "fnExactLeftAfter", unfollowed := true, recurses := true, apart := false }
def FnExactLeftAfterSaid : Prop := fnExactLeftAfterRow.holds Try.pinned (OpenSpec.ofChange fnExactLeftAfterSpec)

/-- ITS FALSE NEIGHBOUR: 'it returns false'. Refute it at one input. -/
def fnExactLeftAfterWrong : ChangeSpec := { name := "fnExactLeftAfter", fn := fun _ => fun
  | [d1, d2] => { results := [.lit (.bool false)], args := [d1, d2] }
  | _ => none }
def FnExactLeftAfterWrongFalsely : Prop := fnExactLeftAfterRow.holds Try.pinned (OpenSpec.ofChange fnExactLeftAfterWrong)

/-- 'laws.FnExactPlayLeg': WHATEVER THE INPUT: true; the input reads as it did. -/
def fnExactPlayLegSpec : ChangeSpec := { name := "fnExactPlayLeg", fn := fun _ => fun
  | [d1, d2] => { results := [.lit (.bool true)], args := [d1, d2] }
  | _ => none }
def fnExactPlayLegRow : OpenClaim := { program := "ytoaiajgbiaedfaa", sum := "ba345ef637ea706ff16abc781a566cf45cbe7d951f0ab415a2215e8c7a72cd6e", func := "loop.example/g01368/laws.FnExactPlayLeg", spec := "fnExactPlayLeg", unfollowed := true, recurses := true, apart := false }
def FnExactPlayLegSaid : Prop := fnExactPlayLegRow.holds Try.pinned (OpenSpec.ofChange fnExactPlayLegSpec)

/-- ITS FALSE NEIGHBOUR: 'it returns false'. Refute it at one input. -/
def fnExactPlayLegWrong : ChangeSpec := { name := "fnExactPlayLeg", fn := fun _ => fun
  | [d1, d2] => { results := [.lit (.bool false)], args := [d1, d2] }
  | _ => none }
def FnExactPlayLegWrongFalsely : Prop := fnExactPlayLegRow.holds Try.pinned (OpenSpec.ofChange fnExactPlayLegWrong)

/-- 'laws.FnExactCountWaysTo': WHATEVER THE INPUT: true; the input reads as it did. -/
def fnExactCountWaysToSpec : ChangeSpec := { name := "fnExactCountWaysTo", fn := fun _ => fun
  | [d1, d2] => { results := [.lit (.bool true)], args := [d1, d2] }
  | _ => none }
def fnExactCountWaysToRow : OpenClaim := { program := "ytoaiajgbiaedfaa", sum := "ba345ef637ea706ff16abc781a566cf45cbe7d951f0ab415a2215e8c7a72cd6e", func := "loop.example/g01368/laws.FnExactCountWaysTo", spec := "fnExactCountWaysTo", unfollowed := true, recurses := true, apart := false }
def FnExactCountWaysToSaid : Prop := fnExactCountWaysToRow.holds Try.pinned (OpenSpec.ofChange fnExactCountWaysToSpec)

/-- ITS FALSE NEIGHBOUR: 'it returns false'. Refute it at one input. -/
def fnExactCountWaysToWrong : ChangeSpec := { name := "fnExactCountWaysTo", fn := fun _ => fun
  | [d1, d2] => { results := [.lit (.bool false)], args := [d1, d2] }
  | _ => none }
def FnExactCountWaysToWrongFalsely : Prop := fnExactCountWaysToRow.holds Try.pinned (OpenSpec.ofChange fnExactCountWaysToWrong)

/-- 'laws.FnExactCountFinishes': WHATEVER THE INPUT: true; the input reads as it did. -/
def fnExactCountFinishesSpec : ChangeSpec := { name := "fnExactCountFinishes", fn := fun _ => fun
  | [d1, d2] => { results := [.lit (.bool true)], args := [d1, d2] }
  | _ => none }
def fnExactCountFinishesRow : OpenClaim := { program := "ytoaiajgbiaedfaa", sum := "ba345ef637ea706ff16abc781a566cf45cbe7d951f0ab415a2215e8c7a72cd6e", func := "loop.example/g01368/laws.FnExactCountFinishes", spec := "fnExactCountFinishes", unfollowed := true, recurses := true, apart := false }
def FnExactCountFinishesSaid : Prop := fnExactCountFinishesRow.holds Try.pinned (OpenSpec.ofChange fnExactCountFinishesSpec)

/-- ITS FALSE NEIGHBOUR: 'it returns false'. Refute it at one input. -/
def fnExactCountFinishesWrong : ChangeSpec := { name := "fnExactCountFinishes", fn := fun _ => fun
  | [d1, d2] => { results := [.lit (.bool false)], args := [d1, d2] }
  | _ => none }
def FnExactCountFinishesWrongFalsely : Prop := fnExactCountFinishesRow.holds Try.pinned (OpenSpec.ofChange fnExactCountFinishesWrong)

/-- 'laws.FnExactCanScore': WHATEVER THE INPUT: true; the input reads as it did. -/
def fnExactCanScoreSpec : ChangeSpec := { name := "fnExactCanScore", fn := fun _ => fun
  | [d1, d2] => { results := [.lit (.bool true)], args := [d1, d2] }
  | _ => none }
def fnExactCanScoreRow : OpenClaim := { program := "ytoaiajgbiaedfaa", sum := "ba345ef637ea706ff16abc781a566cf45cbe7d951f0ab415a2215e8c7a72cd6e", func := "loop.example/g01368/laws.FnExactCanScore", spec := "fnExactCanScore", unfollowed := true, recurses := true, apart := false }
def FnExactCanScoreSaid : Prop := fnExactCanScoreRow.holds Try.pinned (OpenSpec.ofChange fnExactCanScoreSpec)

/-- ITS FALSE NEIGHBOUR: 'it returns false'. Refute it at one input. -/
def fnExactCanScoreWrong : ChangeSpec := { name := "fnExactCanScore", fn := fun _ => fun
  | [d1, d2] => { results := [.lit (.bool false)], args := [d1, d2] }
  | _ => none }
def FnExactCanScoreWrongFalsely : Prop := fnExactCanScoreRow.holds Try.pinned (OpenSpec.ofChange fnExactCanScoreWrong)

/-- 'laws.FnExactFewestDarts': WHATEVER THE INPUT: true; the input reads as it did. -/
def fnExactFewestDartsSpec : ChangeSpec := { name := "fnExactFewestDarts", fn := fun _ => fun
  | [d] => { results := [.lit (.bool true)], args := [d] }
  | _ => none }
def fnExactFewestDartsRow : OpenClaim := { program := "ytoaiajgbiaedfaa", sum := "ba345ef637ea706ff16abc781a566cf45cbe7d951f0ab415a2215e8c7a72cd6e", func := "loop.example/g01368/laws.FnExactFewestDarts", spec := "fnExactFewestDarts", unfollowed := true, recurses := true, apart := false }
def FnExactFewestDartsSaid : Prop := fnExactFewestDartsRow.holds Try.pinned (OpenSpec.ofChange fnExactFewestDartsSpec)

/-- ITS FALSE NEIGHBOUR: 'it returns false'. Refute it at one input. -/
def fnExactFewestDartsWrong : ChangeSpec := { name := "fnExactFewestDarts", fn := fun _ => fun
  | [d] => { results := [.lit (.bool false)], args := [d] }
  | _ => none }
def FnExactFewestDartsWrongFalsely : Prop := fnExactFewestDartsRow.holds Try.pinned (OpenSpec.ofChange fnExactFewestDartsWrong)

/-- 'laws.FnExactCountScores': WHATEVER THE INPUT: true; the input reads as it did. -/
def fnExactCountScoresSpec : ChangeSpec := { name := "fnExactCountScores", fn := fun _ => fun
  | [d] => { results := [.lit (.bool true)], args := [d] }
  | _ => none }
def fnExactCountScoresRow : OpenClaim := { program := "ytoaiajgbiaedfaa", sum := "ba345ef637ea706ff16abc781a566cf45cbe7d951f0ab415a2215e8c7a72cd6e", func := "loop.example/g01368/laws.FnExactCountScores", spec := "fnExactCountScores", unfollowed := true, recurses := true, apart := false }
def FnExactCountScoresSaid : Prop := fnExactCountScoresRow.holds Try.pinned (OpenSpec.ofChange fnExactCountScoresSpec)

/-- ITS FALSE NEIGHBOUR: 'it returns false'. Refute it at one input. -/
def fnExactCountScoresWrong : ChangeSpec := { name := "fnExactCountScores", fn := fun _ => fun
  | [d] => { results := [.lit (.bool false)], args := [d] }
  | _ => none }
def FnExactCountScoresWrongFalsely : Prop := fnExactCountScoresRow.holds Try.pinned (OpenSpec.ofChange fnExactCountScoresWrong)

/-- 'laws.FnExactCanFinish': WHATEVER THE INPUT: true; the input reads as it did. -/
def fnExactCanFinishSpec : ChangeSpec := { name := "fnExactCanFinish", fn := fun _ => fun
  | [d1, d2] => { results := [.lit (.bool true)], args := [d1, d2] }
  | _ => none }
def fnExactCanFinishRow : OpenClaim := { program := "ytoaiajgbiaedfaa", sum := "ba345ef637ea706ff16abc781a566cf45cbe7d951f0ab415a2215e8c7a72cd6e", func := "loop.example/g01368/laws.FnExactCanFinish", spec := "fnExactCanFinish", unfollowed := true, recurses := true, apart := false }
def FnExactCanFinishSaid : Prop := fnExactCanFinishRow.holds Try.pinned (OpenSpec.ofChange fnExactCanFinishSpec)

/-- ITS FALSE NEIGHBOUR: 'it returns false'. Refute it at one input. -/
def fnExactCanFinishWrong : ChangeSpec := { name := "fnExactCanFinish", fn := fun _ => fun
  | [d1, d2] => { results := [.lit (.bool false)], args := [d1, d2] }
  | _ => none }
def FnExactCanFinishWrongFalsely : Prop := fnExactCanFinishRow.holds Try.pinned (OpenSpec.ofChange fnExactCanFinishWrong)

/-- 'laws.FnExactHighestFinish': WHATEVER THE INPUT: true; the input reads as it did. -/
def fnExactHighestFinishSpec : ChangeSpec := { name := "fnExactHighestFinish", fn := fun _ => fun
  | [d] => { results := [.lit (.bool true)], args := [d] }
  | _ => none }
def fnExactHighestFinishRow : OpenClaim := { program := "ytoaiajgbiaedfaa", sum := "ba345ef637ea706ff16abc781a566cf45cbe7d951f0ab415a2215e8c7a72cd6e", func := "loop.example/g01368/laws.FnExactHighestFinish", spec := "fnExactHighestFinish", unfollowed := true, recurses := true, apart := false }
def FnExactHighestFinishSaid : Prop := fnExactHighestFinishRow.holds Try.pinned (OpenSpec.ofChange fnExactHighestFinishSpec)

/-- ITS FALSE NEIGHBOUR: 'it returns false'. Refute it at one input. -/
def fnExactHighestFinishWrong : ChangeSpec := { name := "fnExactHighestFinish", fn := fun _ => fun
  | [d] => { results := [.lit (.bool false)], args := [d] }
  | _ => none }
def FnExactHighestFinishWrongFalsely : Prop := fnExactHighestFinishRow.holds Try.pinned (OpenSpec.ofChange fnExactHighestFinishWrong)

/-- 'laws.FnExactNoFinishes': WHATEVER THE INPUT: true; the input reads as it did. -/
def fnExactNoFinishesSpec : ChangeSpec := { name := "fnExactNoFinishes", fn := fun _ => fun
  | [d1, d2] => { results := [.lit (.bool true)], args := [d1, d2] }
  | _ => none }
def fnExactNoFinishesRow : OpenClaim := { program := "ytoaiajgbiaedfaa", sum := "ba345ef637ea706ff16abc781a566cf45cbe7d951f0ab415a2215e8c7a72cd6e", func := "loop.example/g01368/laws.FnExactNoFinishes", spec := "fnExactNoFinishes", unfollowed := true, recurses := true, apart := false }
def FnExactNoFinishesSaid : Prop := fnExactNoFinishesRow.holds Try.pinned (OpenSpec.ofChange fnExactNoFinishesSpec)

/-- ITS FALSE NEIGHBOUR: 'it returns false'. Refute it at one input. -/
def fnExactNoFinishesWrong : ChangeSpec := { name := "fnExactNoFinishes", fn := fun _ => fun
  | [d1, d2] => { results := [.lit (.bool false)], args := [d1, d2] }
  | _ => none }
def FnExactNoFinishesWrongFalsely : Prop := fnExactNoFinishesRow.holds Try.pinned (OpenSpec.ofChange fnExactNoFinishesWrong)

/-- 'laws.FnExactFirstFinish': WHATEVER THE INPUT: true; the input reads as it did. -/
def fnExactFirstFinishSpec : ChangeSpec := { name := "fnExactFirstFinish", fn := fun _ => fun
  | [d1, d2] => { results := [.lit (.bool true)], args := [d1, d2] }
  | _ => none }
def fnExactFirstFinishRow : OpenClaim := { program := "ytoaiajgbiaedfaa", sum := "ba345ef637ea706ff16abc781a566cf45cbe7d951f0ab415a2215e8c7a72cd6e", func := "loop.example/g01368/laws.FnExactFirstFinish", spec := "fnExactFirstFinish", unfollowed := true, recurses := true, apart := false }
def FnExactFirstFinishSaid : Prop := fnExactFirstFinishRow.holds Try.pinned (OpenSpec.ofChange fnExactFirstFinishSpec)

/-- ITS FALSE NEIGHBOUR: 'it returns false'. Refute it at one input. -/
def fnExactFirstFinishWrong : ChangeSpec := { name := "fnExactFirstFinish", fn := fun _ => fun
  | [d1, d2] => { results := [.lit (.bool false)], args := [d1, d2] }
  | _ => none }
def FnExactFirstFinishWrongFalsely : Prop := fnExactFirstFinishRow.holds Try.pinned (OpenSpec.ofChange fnExactFirstFinishWrong)

/- THE SECOND FORM. 'bulk': how many values and letters a reading holds, each counted each time it is reached (what is shared counts as often as it is met; a slice's spare places count too). A statement '..UptoSaid' is the law's where the arguments, and the package variables that the reading takes, are together of bulk at most 1048576: NARROWER than '..Said'. Prove '..Said' where nothing that the law and all that it calls make is longer than what came in: it says more and counts as full. Else prove '..UptoSaid'. A law counts once. -/
mutual
def uptoBulk {H : Type} : DataW H → Nat
  | .lit (.string bytes) => bytes.length + 1
  | .lit _ => 1
  | .nil => 1
  | .ptr d => uptoBulk d + 1
  | .slice elems spare => uptoBulkAll elems + uptoBulkAll spare + 1
  | .agg parts => uptoBulkAll parts + 1
  | .iface _ d => uptoBulk d + 1
  | .map entries => uptoBulkEntries entries + 1
  | .held _ => 1
def uptoBulkAll {H : Type} : List (DataW H) → Nat
  | [] => 0
  | d :: r => uptoBulk d + uptoBulkAll r
def uptoBulkEntries {H : Type} : List (Lit × DataW H) → Nat
  | [] => 0
  | x :: r => uptoBulkEntry x + uptoBulkEntries r
def uptoBulkEntry {H : Type} : Lit × DataW H → Nat
  | (.string bytes, d) => bytes.length + uptoBulk d + 1
  | (_, d) => uptoBulk d + 1
 end
def uptoSmall : (H : Type) → List (DataW H) → Bool := fun _ ds => decide (uptoBulkAll ds ≤ 1048576)
def OpenSpec.upto (s : _root_.Go.ChangeSpec) : _root_.Go.OpenSpec := { _root_.Go.OpenSpec.ofChange s with cond := some uptoSmall }

/-- 'laws.FnExactScoreOf', WHERE WHAT IT READS IS OF BULK AT MOST 1048576: true; the input reads as it did. -/
def fnExactScoreOfUptoRow : OpenClaim := { program := "ytoaiajgbiaedfaa", sum := "ba345ef637ea706ff16abc781a566cf45cbe7d951f0ab415a2215e8c7a72cd6e", func := "loop.example/g01368/laws.FnExactScoreOf", spec := "fnExactScoreOf", unfollowed := true, recurses := true, apart := false, narrowed := true }
def FnExactScoreOfUptoSaid : Prop := fnExactScoreOfUptoRow.holds Try.pinned (OpenSpec.upto fnExactScoreOfSpec)

/-- 'laws.FnExactIsBust', WHERE WHAT IT READS IS OF BULK AT MOST 1048576: true; the input reads as it did. -/
def fnExactIsBustUptoRow : OpenClaim := { program := "ytoaiajgbiaedfaa", sum := "ba345ef637ea706ff16abc781a566cf45cbe7d951f0ab415a2215e8c7a72cd6e", func := "loop.example/g01368/laws.FnExactIsBust", spec := "fnExactIsBust", unfollowed := true, recurses := true, apart := false, narrowed := true }
def FnExactIsBustUptoSaid : Prop := fnExactIsBustUptoRow.holds Try.pinned (OpenSpec.upto fnExactIsBustSpec)

/-- 'laws.FnExactLeftAfter', WHERE WHAT IT READS IS OF BULK AT MOST 1048576: true; the input reads as it did. -/
def fnExactLeftAfterUptoRow : OpenClaim := { program := "ytoaiajgbiaedfaa", sum := "ba345ef637ea706ff16abc781a566cf45cbe7d951f0ab415a2215e8c7a72cd6e", func := "loop.example/g01368/laws.FnExactLeftAfter", spec := "fnExactLeftAfter", unfollowed := true, recurses := true, apart := false, narrowed := true }
def FnExactLeftAfterUptoSaid : Prop := fnExactLeftAfterUptoRow.holds Try.pinned (OpenSpec.upto fnExactLeftAfterSpec)

/-- 'laws.FnExactPlayLeg', WHERE WHAT IT READS IS OF BULK AT MOST 1048576: true; the input reads as it did. -/
def fnExactPlayLegUptoRow : OpenClaim := { program := "ytoaiajgbiaedfaa", sum := "ba345ef637ea706ff16abc781a566cf45cbe7d951f0ab415a2215e8c7a72cd6e", func := "loop.example/g01368/laws.FnExactPlayLeg", spec := "fnExactPlayLeg", unfollowed := true, recurses := true, apart := false, narrowed := true }
def FnExactPlayLegUptoSaid : Prop := fnExactPlayLegUptoRow.holds Try.pinned (OpenSpec.upto fnExactPlayLegSpec)

/-- 'laws.FnExactCountWaysTo', WHERE WHAT IT READS IS OF BULK AT MOST 1048576: true; the input reads as it did. -/
def fnExactCountWaysToUptoRow : OpenClaim := { program := "ytoaiajgbiaedfaa", sum := "ba345ef637ea706ff16abc781a566cf45cbe7d951f0ab415a2215e8c7a72cd6e", func := "loop.example/g01368/laws.FnExactCountWaysTo", spec := "fnExactCountWaysTo", unfollowed := true, recurses := true, apart := false, narrowed := true }
def FnExactCountWaysToUptoSaid : Prop := fnExactCountWaysToUptoRow.holds Try.pinned (OpenSpec.upto fnExactCountWaysToSpec)

/-- 'laws.FnExactCountFinishes', WHERE WHAT IT READS IS OF BULK AT MOST 1048576: true; the input reads as it did. -/
def fnExactCountFinishesUptoRow : OpenClaim := { program := "ytoaiajgbiaedfaa", sum := "ba345ef637ea706ff16abc781a566cf45cbe7d951f0ab415a2215e8c7a72cd6e", func := "loop.example/g01368/laws.FnExactCountFinishes", spec := "fnExactCountFinishes", unfollowed := true, recurses := true, apart := false, narrowed := true }
def FnExactCountFinishesUptoSaid : Prop := fnExactCountFinishesUptoRow.holds Try.pinned (OpenSpec.upto fnExactCountFinishesSpec)

/-- 'laws.FnExactCanScore', WHERE WHAT IT READS IS OF BULK AT MOST 1048576: true; the input reads as it did. -/
def fnExactCanScoreUptoRow : OpenClaim := { program := "ytoaiajgbiaedfaa", sum := "ba345ef637ea706ff16abc781a566cf45cbe7d951f0ab415a2215e8c7a72cd6e", func := "loop.example/g01368/laws.FnExactCanScore", spec := "fnExactCanScore", unfollowed := true, recurses := true, apart := false, narrowed := true }
def FnExactCanScoreUptoSaid : Prop := fnExactCanScoreUptoRow.holds Try.pinned (OpenSpec.upto fnExactCanScoreSpec)

/-- 'laws.FnExactFewestDarts', WHERE WHAT IT READS IS OF BULK AT MOST 1048576: true; the input reads as it did. -/
def fnExactFewestDartsUptoRow : OpenClaim := { program := "ytoaiajgbiaedfaa", sum := "ba345ef637ea706ff16abc781a566cf45cbe7d951f0ab415a2215e8c7a72cd6e", func := "loop.example/g01368/laws.FnExactFewestDarts", spec := "fnExactFewestDarts", unfollowed := true, recurses := true, apart := false, narrowed := true }
def FnExactFewestDartsUptoSaid : Prop := fnExactFewestDartsUptoRow.holds Try.pinned (OpenSpec.upto fnExactFewestDartsSpec)

/-- 'laws.FnExactCountScores', WHERE WHAT IT READS IS OF BULK AT MOST 1048576: true; the input reads as it did. -/
def fnExactCountScoresUptoRow : OpenClaim := { program := "ytoaiajgbiaedfaa", sum := "ba345ef637ea706ff16abc781a566cf45cbe7d951f0ab415a2215e8c7a72cd6e", func := "loop.example/g01368/laws.FnExactCountScores", spec := "fnExactCountScores", unfollowed := true, recurses := true, apart := false, narrowed := true }
def FnExactCountScoresUptoSaid : Prop := fnExactCountScoresUptoRow.holds Try.pinned (OpenSpec.upto fnExactCountScoresSpec)

/-- 'laws.FnExactCanFinish', WHERE WHAT IT READS IS OF BULK AT MOST 1048576: true; the input reads as it did. -/
def fnExactCanFinishUptoRow : OpenClaim := { program := "ytoaiajgbiaedfaa", sum := "ba345ef637ea706ff16abc781a566cf45cbe7d951f0ab415a2215e8c7a72cd6e", func := "loop.example/g01368/laws.FnExactCanFinish", spec := "fnExactCanFinish", unfollowed := true, recurses := true, apart := false, narrowed := true }
def FnExactCanFinishUptoSaid : Prop := fnExactCanFinishUptoRow.holds Try.pinned (OpenSpec.upto fnExactCanFinishSpec)

/-- 'laws.FnExactHighestFinish', WHERE WHAT IT READS IS OF BULK AT MOST 1048576: true; the input reads as it did. -/
def fnExactHighestFinishUptoRow : OpenClaim := { program := "ytoaiajgbiaedfaa", sum := "ba345ef637ea706ff16abc781a566cf45cbe7d951f0ab415a2215e8c7a72cd6e", func := "loop.example/g01368/laws.FnExactHighestFinish", spec := "fnExactHighestFinish", unfollowed := true, recurses := true, apart := false, narrowed := true }
def FnExactHighestFinishUptoSaid : Prop := fnExactHighestFinishUptoRow.holds Try.pinned (OpenSpec.upto fnExactHighestFinishSpec)

/-- 'laws.FnExactNoFinishes', WHERE WHAT IT READS IS OF BULK AT MOST 1048576: true; the input reads as it did. -/
def fnExactNoFinishesUptoRow : OpenClaim := { program := "ytoaiajgbiaedfaa", sum := "ba345ef637ea706ff16abc781a566cf45cbe7d951f0ab415a2215e8c7a72cd6e", func := "loop.example/g01368/laws.FnExactNoFinishes", spec := "fnExactNoFinishes", unfollowed := true, recurses := true, apart := false, narrowed := true }
def FnExactNoFinishesUptoSaid : Prop := fnExactNoFinishesUptoRow.holds Try.pinned (OpenSpec.upto fnExactNoFinishesSpec)

/-- 'laws.FnExactFirstFinish', WHERE WHAT IT READS IS OF BULK AT MOST 1048576: true; the input reads as it did. -/
def fnExactFirstFinishUptoRow : OpenClaim := { program := "ytoaiajgbiaedfaa", sum := "ba345ef637ea706ff16abc781a566cf45cbe7d951f0ab415a2215e8c7a72cd6e", func := "loop.example/g01368/laws.FnExactFirstFinish", spec := "fnExactFirstFinish", unfollowed := true, recurses := true, apart := false, narrowed := true }
def FnExactFirstFinishUptoSaid : Prop := fnExactFirstFinishUptoRow.holds Try.pinned (OpenSpec.upto fnExactFirstFinishSpec)

end Rows
end Go.Proofs.Ytoaiajgbiaedfaa
