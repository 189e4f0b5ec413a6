/-
  No cell of these rows narrows 'for every input' (looked for: loops, veiled, ifaces, maps, wideKeys, modest, calm, conditions, laid).
  DERIVED. THE GIVEN ROWS OF THIS SEAT. 11 by the template 'for every input the law returns true; each argument reads behind the call as it read before'; 0 by the template 'total and deterministic' (their statements: YtbkceiegfllngaaTotals.lean).
  GIVEN WITH THE SEED: the statements are not yours to turn. If you find one false, say at which input.
  Laid BY PROGRAM, IN A SANDBOX (cutbox-rows.mjs): the forced cells as the released guide's own fill.sh prints them over the translation ac8eed7795b3a79f… (all of the seat's roots in one cut). By AI agents, Wed Nov 11 2026. No macro, syntax, notation, axiom, sorry.
-/
import Derived.Test.YtbkceiegfllngaaChecked
import GoSem.Claim
import GoSem.ClaimJoined
import GoSem.ClaimMapViews
import Derived.JoinedTies
import Derived.KernelRfl
namespace Go.Proofs.Ytbkceiegfllngaa
/- THE CELL 'sum', in the pinned program and in every row, IS THE sha256 OF THE DUMP (.gsa) THAT YtbkceiegfllngaaProg.lean LOADS. Nothing in Lean hashes anything: it is a label: what it is worth is what the hold of that sum in a sandbox is worth. -/
noncomputable def Try.pinned : Pinned := { name := "ytbkceiegfllngaa", sum := "ac8eed7795b3a79f7c05974bc944893542f23b3d1a6db5b4a441551010f2d538", checked := Try.checked }
namespace Rows
def none {H : Type} : Left H := { results := [], args := [] }

/-- 'laws.FnExactConstants': WHATEVER THE INPUT: true; the input reads as it did. -/
def fnExactConstantsSpec : ChangeSpec := { name := "fnExactConstants", fn := fun _ => fun
  | [] => { results := [.lit (.bool true)], args := [] }
  | _ => none }
def fnExactConstantsRow : OpenClaim := { program := "ytbkceiegfllngaa", sum := "ac8eed7795b3a79f7c05974bc944893542f23b3d1a6db5b4a441551010f2d538", func := "loop.example/g01368/laws.FnExactConstants", spec := "fnExactConstants", apart := false }
def FnExactConstantsSaid : Prop := fnExactConstantsRow.holds Try.pinned (OpenSpec.ofChange fnExactConstantsSpec)

/-- ITS FALSE NEIGHBOUR: 'it returns false'. Refute it at one input. -/
def fnExactConstantsWrong : ChangeSpec := { name := "fnExactConstants", fn := fun _ => fun
  | [] => { results := [.lit (.bool false)], args := [] }
  | _ => none }
def FnExactConstantsWrongFalsely : Prop := fnExactConstantsRow.holds Try.pinned (OpenSpec.ofChange fnExactConstantsWrong)

/-- 'laws.FnExactIsSetScore': WHATEVER THE INPUT: true; the input reads as it did. -/
def fnExactIsSetScoreSpec : ChangeSpec := { name := "fnExactIsSetScore", fn := fun _ => fun
  | [d1, d2] => { results := [.lit (.bool true)], args := [d1, d2] }
  | _ => none }
def fnExactIsSetScoreRow : OpenClaim := { program := "ytbkceiegfllngaa", sum := "ac8eed7795b3a79f7c05974bc944893542f23b3d1a6db5b4a441551010f2d538", func := "loop.example/g01368/laws.FnExactIsSetScore", spec := "fnExactIsSetScore", apart := false }
def FnExactIsSetScoreSaid : Prop := fnExactIsSetScoreRow.holds Try.pinned (OpenSpec.ofChange fnExactIsSetScoreSpec)

/-- ITS FALSE NEIGHBOUR: 'it returns false'. Refute it at one input. -/
def fnExactIsSetScoreWrong : ChangeSpec := { name := "fnExactIsSetScore", fn := fun _ => fun
  | [d1, d2] => { results := [.lit (.bool false)], args := [d1, d2] }
  | _ => none }
def FnExactIsSetScoreWrongFalsely : Prop := fnExactIsSetScoreRow.holds Try.pinned (OpenSpec.ofChange fnExactIsSetScoreWrong)

/-- 'laws.FnExactIsDart': WHATEVER THE INPUT: true; the input reads as it did. -/
def fnExactIsDartSpec : ChangeSpec := { name := "fnExactIsDart", fn := fun _ => fun
  | [d] => { results := [.lit (.bool true)], args := [d] }
  | _ => none }
def fnExactIsDartRow : OpenClaim := { program := "ytbkceiegfllngaa", sum := "ac8eed7795b3a79f7c05974bc944893542f23b3d1a6db5b4a441551010f2d538", func := "loop.example/g01368/laws.FnExactIsDart", spec := "fnExactIsDart", apart := false }
def FnExactIsDartSaid : Prop := fnExactIsDartRow.holds Try.pinned (OpenSpec.ofChange fnExactIsDartSpec)

/-- ITS FALSE NEIGHBOUR: 'it returns false'. Refute it at one input. -/
def fnExactIsDartWrong : ChangeSpec := { name := "fnExactIsDart", fn := fun _ => fun
  | [d] => { results := [.lit (.bool false)], args := [d] }
  | _ => none }
def FnExactIsDartWrongFalsely : Prop := fnExactIsDartRow.holds Try.pinned (OpenSpec.ofChange fnExactIsDartWrong)

/-- 'laws.FnExactLeastMargin': WHATEVER THE INPUT: true; the input reads as it did. -/
def fnExactLeastMarginSpec : ChangeSpec := { name := "fnExactLeastMargin", fn := fun _ => fun
  | [d1, d2] => { results := [.lit (.bool true)], args := [d1, d2] }
  | _ => none }
def fnExactLeastMarginRow : OpenClaim := { program := "ytbkceiegfllngaa", sum := "ac8eed7795b3a79f7c05974bc944893542f23b3d1a6db5b4a441551010f2d538", func := "loop.example/g01368/laws.FnExactLeastMargin", spec := "fnExactLeastMargin", apart := false }
def FnExactLeastMarginSaid : Prop := fnExactLeastMarginRow.holds Try.pinned (OpenSpec.ofChange fnExactLeastMarginSpec)

/-- ITS FALSE NEIGHBOUR: 'it returns false'. Refute it at one input. -/
def fnExactLeastMarginWrong : ChangeSpec := { name := "fnExactLeastMargin", fn := fun _ => fun
  | [d1, d2] => { results := [.lit (.bool false)], args := [d1, d2] }
  | _ => none }
def FnExactLeastMarginWrongFalsely : Prop := fnExactLeastMarginRow.holds Try.pinned (OpenSpec.ofChange fnExactLeastMarginWrong)

/-- 'laws.FnExactLeastPointsFor': WHATEVER THE INPUT: true; the input reads as it did. -/
def fnExactLeastPointsForSpec : ChangeSpec := { name := "fnExactLeastPointsFor", fn := fun _ => fun
  | [d1, d2] => { results := [.lit (.bool true)], args := [d1, d2] }
  | _ => none }
def fnExactLeastPointsForRow : OpenClaim := { program := "ytbkceiegfllngaa", sum := "ac8eed7795b3a79f7c05974bc944893542f23b3d1a6db5b4a441551010f2d538", func := "loop.example/g01368/laws.FnExactLeastPointsFor", spec := "fnExactLeastPointsFor", apart := false }
def FnExactLeastPointsForSaid : Prop := fnExactLeastPointsForRow.holds Try.pinned (OpenSpec.ofChange fnExactLeastPointsForSpec)

/-- ITS FALSE NEIGHBOUR: 'it returns false'. Refute it at one input. -/
def fnExactLeastPointsForWrong : ChangeSpec := { name := "fnExactLeastPointsFor", fn := fun _ => fun
  | [d1, d2] => { results := [.lit (.bool false)], args := [d1, d2] }
  | _ => none }
def FnExactLeastPointsForWrongFalsely : Prop := fnExactLeastPointsForRow.holds Try.pinned (OpenSpec.ofChange fnExactLeastPointsForWrong)

/-- 'laws.FnExactIsFrame': WHATEVER THE INPUT: true; the input reads as it did. -/
def fnExactIsFrameSpec : ChangeSpec := { name := "fnExactIsFrame", fn := fun _ => fun
  | [d] => { results := [.lit (.bool true)], args := [d] }
  | _ => none }
def fnExactIsFrameRow : OpenClaim := { program := "ytbkceiegfllngaa", sum := "ac8eed7795b3a79f7c05974bc944893542f23b3d1a6db5b4a441551010f2d538", func := "loop.example/g01368/laws.FnExactIsFrame", spec := "fnExactIsFrame", apart := false }
def FnExactIsFrameSaid : Prop := fnExactIsFrameRow.holds Try.pinned (OpenSpec.ofChange fnExactIsFrameSpec)

/-- ITS FALSE NEIGHBOUR: 'it returns false'. Refute it at one input. -/
def fnExactIsFrameWrong : ChangeSpec := { name := "fnExactIsFrame", fn := fun _ => fun
  | [d] => { results := [.lit (.bool false)], args := [d] }
  | _ => none }
def FnExactIsFrameWrongFalsely : Prop := fnExactIsFrameRow.holds Try.pinned (OpenSpec.ofChange fnExactIsFrameWrong)

/-- 'laws.FnExactFirstFrame': WHATEVER THE INPUT: true; the input reads as it did. -/
def fnExactFirstFrameSpec : ChangeSpec := { name := "fnExactFirstFrame", fn := fun _ => fun
  | [d] => { results := [.lit (.bool true)], args := [d] }
  | _ => none }
def fnExactFirstFrameRow : OpenClaim := { program := "ytbkceiegfllngaa", sum := "ac8eed7795b3a79f7c05974bc944893542f23b3d1a6db5b4a441551010f2d538", func := "loop.example/g01368/laws.FnExactFirstFrame", spec := "fnExactFirstFrame", apart := false }
def FnExactFirstFrameSaid : Prop := fnExactFirstFrameRow.holds Try.pinned (OpenSpec.ofChange fnExactFirstFrameSpec)

/-- ITS FALSE NEIGHBOUR: 'it returns false'. Refute it at one input. -/
def fnExactFirstFrameWrong : ChangeSpec := { name := "fnExactFirstFrame", fn := fun _ => fun
  | [d] => { results := [.lit (.bool false)], args := [d] }
  | _ => none }
def FnExactFirstFrameWrongFalsely : Prop := fnExactFirstFrameRow.holds Try.pinned (OpenSpec.ofChange fnExactFirstFrameWrong)

/-- 'laws.FnExactBesideOf': WHATEVER THE INPUT: true; the input reads as it did. -/
def fnExactBesideOfSpec : ChangeSpec := { name := "fnExactBesideOf", fn := fun _ => fun
  | [d] => { results := [.lit (.bool true)], args := [d] }
  | _ => none }
def fnExactBesideOfRow : OpenClaim := { program := "ytbkceiegfllngaa", sum := "ac8eed7795b3a79f7c05974bc944893542f23b3d1a6db5b4a441551010f2d538", func := "loop.example/g01368/laws.FnExactBesideOf", spec := "fnExactBesideOf", apart := false }
def FnExactBesideOfSaid : Prop := fnExactBesideOfRow.holds Try.pinned (OpenSpec.ofChange fnExactBesideOfSpec)

/-- ITS FALSE NEIGHBOUR: 'it returns false'. Refute it at one input. -/
def fnExactBesideOfWrong : ChangeSpec := { name := "fnExactBesideOf", fn := fun _ => fun
  | [d] => { results := [.lit (.bool false)], args := [d] }
  | _ => none }
def FnExactBesideOfWrongFalsely : Prop := fnExactBesideOfRow.holds Try.pinned (OpenSpec.ofChange fnExactBesideOfWrong)

/-- 'laws.FnExactBestArc': WHATEVER THE INPUT: true; the input reads as it did. -/
def fnExactBestArcSpec : ChangeSpec := { name := "fnExactBestArc", fn := fun _ => fun
  | [d] => { results := [.lit (.bool true)], args := [d] }
  | _ => none }
def fnExactBestArcRow : OpenClaim := { program := "ytbkceiegfllngaa", sum := "ac8eed7795b3a79f7c05974bc944893542f23b3d1a6db5b4a441551010f2d538", func := "loop.example/g01368/laws.FnExactBestArc", spec := "fnExactBestArc", apart := false }
def FnExactBestArcSaid : Prop := fnExactBestArcRow.holds Try.pinned (OpenSpec.ofChange fnExactBestArcSpec)

/-- ITS FALSE NEIGHBOUR: 'it returns false'. Refute it at one input. -/
def fnExactBestArcWrong : ChangeSpec := { name := "fnExactBestArc", fn := fun _ => fun
  | [d] => { results := [.lit (.bool false)], args := [d] }
  | _ => none }
def FnExactBestArcWrongFalsely : Prop := fnExactBestArcRow.holds Try.pinned (OpenSpec.ofChange fnExactBestArcWrong)

/-- 'laws.FnExactMissBall': WHATEVER THE INPUT: true; the input reads as it did. -/
def fnExactMissBallSpec : ChangeSpec := { name := "fnExactMissBall", fn := fun _ => fun
  | [d] => { results := [.lit (.bool true)], args := [d] }
  | _ => none }
def fnExactMissBallRow : OpenClaim := { program := "ytbkceiegfllngaa", sum := "ac8eed7795b3a79f7c05974bc944893542f23b3d1a6db5b4a441551010f2d538", func := "loop.example/g01368/laws.FnExactMissBall", spec := "fnExactMissBall", apart := false }
def FnExactMissBallSaid : Prop := fnExactMissBallRow.holds Try.pinned (OpenSpec.ofChange fnExactMissBallSpec)

/-- ITS FALSE NEIGHBOUR: 'it returns false'. Refute it at one input. -/
def fnExactMissBallWrong : ChangeSpec := { name := "fnExactMissBall", fn := fun _ => fun
  | [d] => { results := [.lit (.bool false)], args := [d] }
  | _ => none }
def FnExactMissBallWrongFalsely : Prop := fnExactMissBallRow.holds Try.pinned (OpenSpec.ofChange fnExactMissBallWrong)

/-- 'laws.FnExactStepsAround': WHATEVER THE INPUT: true; the input reads as it did. -/
def fnExactStepsAroundSpec : ChangeSpec := { name := "fnExactStepsAround", fn := fun _ => fun
  | [d1, d2] => { results := [.lit (.bool true)], args := [d1, d2] }
  | _ => none }
def fnExactStepsAroundRow : OpenClaim := { program := "ytbkceiegfllngaa", sum := "ac8eed7795b3a79f7c05974bc944893542f23b3d1a6db5b4a441551010f2d538", func := "loop.example/g01368/laws.FnExactStepsAround", spec := "fnExactStepsAround", apart := false }
def FnExactStepsAroundSaid : Prop := fnExactStepsAroundRow.holds Try.pinned (OpenSpec.ofChange fnExactStepsAroundSpec)

/-- ITS FALSE NEIGHBOUR: 'it returns false'. Refute it at one input. -/
def fnExactStepsAroundWrong : ChangeSpec := { name := "fnExactStepsAround", fn := fun _ => fun
  | [d1, d2] => { results := [.lit (.bool false)], args := [d1, d2] }
  | _ => none }
def FnExactStepsAroundWrongFalsely : Prop := fnExactStepsAroundRow.holds Try.pinned (OpenSpec.ofChange fnExactStepsAroundWrong)

/- THE SECOND FORM. 'bulk': how many values and letters a reading holds, each counted each time it is reached (what is shared counts as often as it is met; a slice's spare places count too). A statement '..UptoSaid' is the law's where the arguments, and the package variables that the reading takes, are together of bulk at most 1048576: NARROWER than '..Said'. Prove '..Said' where nothing that the law and all that it calls make is longer than what came in: it says more and counts as full. Else prove '..UptoSaid'. A law counts once. -/
mutual
def uptoBulk {H : Type} : DataW H → Nat
  | .lit (.string bytes) => bytes.length + 1
  | .lit _ => 1
  | .nil => 1
  | .ptr d => uptoBulk d + 1
  | .slice elems spare => uptoBulkAll elems + uptoBulkAll spare + 1
  | .agg parts => uptoBulkAll parts + 1
  | .iface _ d => uptoBulk d + 1
  | .map entries => uptoBulkEntries entries + 1
  | .held _ => 1
def uptoBulkAll {H : Type} : List (DataW H) → Nat
  | [] => 0
  | d :: r => uptoBulk d + uptoBulkAll r
def uptoBulkEntries {H : Type} : List (Lit × DataW H) → Nat
  | [] => 0
  | x :: r => uptoBulkEntry x + uptoBulkEntries r
def uptoBulkEntry {H : Type} : Lit × DataW H → Nat
  | (.string bytes, d) => bytes.length + uptoBulk d + 1
  | (_, d) => uptoBulk d + 1
 end
def uptoSmall : (H : Type) → List (DataW H) → Bool := fun _ ds => decide (uptoBulkAll ds ≤ 1048576)
def OpenSpec.upto (s : _root_.Go.ChangeSpec) : _root_.Go.OpenSpec := { _root_.Go.OpenSpec.ofChange s with cond := some uptoSmall }

/-- 'laws.FnExactConstants', WHERE WHAT IT READS IS OF BULK AT MOST 1048576: true; the input reads as it did. -/
def fnExactConstantsUptoRow : OpenClaim := { program := "ytbkceiegfllngaa", sum := "ac8eed7795b3a79f7c05974bc944893542f23b3d1a6db5b4a441551010f2d538", func := "loop.example/g01368/laws.FnExactConstants", spec := "fnExactConstants", apart := false, narrowed := true }
def FnExactConstantsUptoSaid : Prop := fnExactConstantsUptoRow.holds Try.pinned (OpenSpec.upto fnExactConstantsSpec)

/-- 'laws.FnExactIsSetScore', WHERE WHAT IT READS IS OF BULK AT MOST 1048576: true; the input reads as it did. -/
def fnExactIsSetScoreUptoRow : OpenClaim := { program := "ytbkceiegfllngaa", sum := "ac8eed7795b3a79f7c05974bc944893542f23b3d1a6db5b4a441551010f2d538", func := "loop.example/g01368/laws.FnExactIsSetScore", spec := "fnExactIsSetScore", apart := false, narrowed := true }
def FnExactIsSetScoreUptoSaid : Prop := fnExactIsSetScoreUptoRow.holds Try.pinned (OpenSpec.upto fnExactIsSetScoreSpec)

/-- 'laws.FnExactIsDart', WHERE WHAT IT READS IS OF BULK AT MOST 1048576: true; the input reads as it did. -/
def fnExactIsDartUptoRow : OpenClaim := { program := "ytbkceiegfllngaa", sum := "ac8eed7795b3a79f7c05974bc944893542f23b3d1a6db5b4a441551010f2d538", func := "loop.example/g01368/laws.FnExactIsDart", spec := "fnExactIsDart", apart := false, narrowed := true }
def FnExactIsDartUptoSaid : Prop := fnExactIsDartUptoRow.holds Try.pinned (OpenSpec.upto fnExactIsDartSpec)

/-- 'laws.FnExactLeastMargin', WHERE WHAT IT READS IS OF BULK AT MOST 1048576: true; the input reads as it did. -/
def fnExactLeastMarginUptoRow : OpenClaim := { program := "ytbkceiegfllngaa", sum := "ac8eed7795b3a79f7c05974bc944893542f23b3d1a6db5b4a441551010f2d538", func := "loop.example/g01368/laws.FnExactLeastMargin", spec := "fnExactLeastMargin", apart := false, narrowed := true }
def FnExactLeastMarginUptoSaid : Prop := fnExactLeastMarginUptoRow.holds Try.pinned (OpenSpec.upto fnExactLeastMarginSpec)

/-- 'laws.FnExactLeastPointsFor', WHERE WHAT IT READS IS OF BULK AT MOST 1048576: true; the input reads as it did. -/
def fnExactLeastPointsForUptoRow : OpenClaim := { program := "ytbkceiegfllngaa", sum := "ac8eed7795b3a79f7c05974bc944893542f23b3d1a6db5b4a441551010f2d538", func := "loop.example/g01368/laws.FnExactLeastPointsFor", spec := "fnExactLeastPointsFor", apart := false, narrowed := true }
def FnExactLeastPointsForUptoSaid : Prop := fnExactLeastPointsForUptoRow.holds Try.pinned (OpenSpec.upto fnExactLeastPointsForSpec)

/-- 'laws.FnExactIsFrame', WHERE WHAT IT READS IS OF BULK AT MOST 1048576: true; the input reads as it did. -/
def fnExactIsFrameUptoRow : OpenClaim := { program := "ytbkceiegfllngaa", sum := "ac8eed7795b3a79f7c05974bc944893542f23b3d1a6db5b4a441551010f2d538", func := "loop.example/g01368/laws.FnExactIsFrame", spec := "fnExactIsFrame", apart := false, narrowed := true }
def FnExactIsFrameUptoSaid : Prop := fnExactIsFrameUptoRow.holds Try.pinned (OpenSpec.upto fnExactIsFrameSpec)

/-- 'laws.FnExactFirstFrame', WHERE WHAT IT READS IS OF BULK AT MOST 1048576: true; the input reads as it did. -/
def fnExactFirstFrameUptoRow : OpenClaim := { program := "ytbkceiegfllngaa", sum := "ac8eed7795b3a79f7c05974bc944893542f23b3d1a6db5b4a441551010f2d538", func := "loop.example/g01368/laws.FnExactFirstFrame", spec := "fnExactFirstFrame", apart := false, narrowed := true }
def FnExactFirstFrameUptoSaid : Prop := fnExactFirstFrameUptoRow.holds Try.pinned (OpenSpec.upto fnExactFirstFrameSpec)

/-- 'laws.FnExactBesideOf', WHERE WHAT IT READS IS OF BULK AT MOST 1048576: true; the input reads as it did. -/
def fnExactBesideOfUptoRow : OpenClaim := { program := "ytbkceiegfllngaa", sum := "ac8eed7795b3a79f7c05974bc944893542f23b3d1a6db5b4a441551010f2d538", func := "loop.example/g01368/laws.FnExactBesideOf", spec := "fnExactBesideOf", apart := false, narrowed := true }
def FnExactBesideOfUptoSaid : Prop := fnExactBesideOfUptoRow.holds Try.pinned (OpenSpec.upto fnExactBesideOfSpec)

/-- 'laws.FnExactBestArc', WHERE WHAT IT READS IS OF BULK AT MOST 1048576: true; the input reads as it did. -/
def fnExactBestArcUptoRow : OpenClaim := { program := "ytbkceiegfllngaa", sum := "ac8eed7795b3a79f7c05974bc944893542f23b3d1a6db5b4a441551010f2d538", func := "loop.example/g01368/laws.FnExactBestArc", spec := "fnExactBestArc", apart := false, narrowed := true }
def FnExactBestArcUptoSaid : Prop := fnExactBestArcUptoRow.holds Try.pinned (OpenSpec.upto fnExactBestArcSpec)

/-- 'laws.FnExactMissBall', WHERE WHAT IT READS IS OF BULK AT MOST 1048576: true; the input reads as it did. -/
def fnExactMissBallUptoRow : OpenClaim := { program := "ytbkceiegfllngaa", sum := "ac8eed7795b3a79f7c05974bc944893542f23b3d1a6db5b4a441551010f2d538", func := "loop.example/g01368/laws.FnExactMissBall", spec := "fnExactMissBall", apart := false, narrowed := true }
def FnExactMissBallUptoSaid : Prop := fnExactMissBallUptoRow.holds Try.pinned (OpenSpec.upto fnExactMissBallSpec)

/-- 'laws.FnExactStepsAround', WHERE WHAT IT READS IS OF BULK AT MOST 1048576: true; the input reads as it did. -/
def fnExactStepsAroundUptoRow : OpenClaim := { program := "ytbkceiegfllngaa", sum := "ac8eed7795b3a79f7c05974bc944893542f23b3d1a6db5b4a441551010f2d538", func := "loop.example/g01368/laws.FnExactStepsAround", spec := "fnExactStepsAround", apart := false, narrowed := true }
def FnExactStepsAroundUptoSaid : Prop := fnExactStepsAroundUptoRow.holds Try.pinned (OpenSpec.upto fnExactStepsAroundSpec)

end Rows
end Go.Proofs.Ytbkceiegfllngaa
