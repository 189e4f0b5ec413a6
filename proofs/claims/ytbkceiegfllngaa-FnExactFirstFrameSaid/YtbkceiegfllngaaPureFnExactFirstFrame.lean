/- For every whole number of reds, the program's FirstFrame answers what the reference's answers. (The pure statement behind the row: over numbers and lists alone.) -/
import Derived.Test.YtbkceiegfllngaaPFnExactFirstFramex1
namespace Go.Proofs.Ytbkceiegfllngaa.Pure
open Go.RowKit Go.Proofs.Ytbkceiegfllngaa.PFnExactFirstFrame Go.Proofs.YtbkceiegfllngaaW.PrintWords Go.Proofs.YtbkceiegfllngaaW.PrintLast

theorem FnExactFirstFrame : laws_FnExactFirstFrame.Pure := by
  intro a _
  refine ⟨1, ?_⟩
  by_cases h : 0 ≤ a <;> by_cases h' : a ≤ 15 <;> by_cases h0 : 0 < a <;>
    simp [laws_FnExactFirstFrame.f, spec_FirstFrame.f, impl_FirstFrame.f, impl_IsFrame.f, impl_IsFrame.j0, spec_l1In.f, impl_within.f, laws_eqFrame.f, h, h', h0]

end Go.Proofs.Ytbkceiegfllngaa.Pure
