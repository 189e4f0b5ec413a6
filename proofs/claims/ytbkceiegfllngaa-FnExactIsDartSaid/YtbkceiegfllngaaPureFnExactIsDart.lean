/- For all numbers of a dart, the program's IsDart answers what the reference's answers. (The pure statement behind the row: over numbers and lists alone.) -/
import Derived.Test.YtbkceiegfllngaaPAx11
namespace Go.Proofs.Ytbkceiegfllngaa.Pure
open Go.RowKit Go.Proofs.Ytbkceiegfllngaa.PA Go.Proofs.YtbkceiegfllngaaW.PrintWords Go.Proofs.YtbkceiegfllngaaW.PrintLast

theorem FnExactIsDart : ∀ (a0_0 : Int) (a0_1 : Int), ((Lit.int .i64 a0_0).wf = true ∧ (Lit.int .i64 a0_1).wf = true) → laws_FnExactIsDart.f a0_0 a0_1 = some true := by
  intro a b _
  by_cases h : a = 25
  · subst h; by_cases h1 : 1 ≤ b <;> by_cases h2 : b ≤ 2 <;> simp [laws_FnExactIsDart.f, laws_toDart.f, spec_IsDart.f, impl_IsDart.f, spec_daGood.f, spec_l1In.f, impl_within.f, h1, h2]
  · by_cases h1 : 1 ≤ b <;> by_cases h2 : b ≤ 3 <;> by_cases h3 : 1 ≤ a <;> by_cases h4 : a ≤ 20 <;> simp [laws_FnExactIsDart.f, laws_toDart.f, spec_IsDart.f, impl_IsDart.f, spec_daGood.f, spec_l1In.f, impl_within.f, h, h1, h2, h3, h4]

end Go.Proofs.Ytbkceiegfllngaa.Pure
