/- For all values of a frame, the program's MissBall answers what the reference's answers. (The pure statement behind the row: over numbers and lists alone.) -/
import Derived.Test.YtbkceiegfllngaaPAx39
namespace Go.Proofs.Ytbkceiegfllngaa.Pure
open Go.RowKit Go.Proofs.Ytbkceiegfllngaa.PA Go.Proofs.YtbkceiegfllngaaW.PrintWords Go.Proofs.YtbkceiegfllngaaW.PrintLast

theorem isFrame_some (a : Int) (c : Bool) (b : Int) : ∃ r, impl_IsFrame.f 1 a c b = some r := by
  by_cases h0 : 0 ≤ a <;> by_cases h1 : a ≤ 15 <;> by_cases h2 : 0 < a <;> by_cases h3 : 2 ≤ b <;> by_cases h4 : a = 15 <;> by_cases h5 : b = 2 <;> cases c <;> simp [impl_IsFrame.f, impl_IsFrame.j0, impl_within.f, h0, h1, h2, h3, h4, h5]
theorem frGood_eq (a : Int) (c : Bool) (b : Int) : spec_frGood.f a c b = impl_IsFrame.f 1 a c b := by
  by_cases h0 : 0 ≤ a
  · by_cases h1 : a ≤ 15
    · cases c
      · by_cases h2 : a = 0
        · subst h2
          by_cases h3 : 2 ≤ b <;> by_cases h4 : b ≤ 8 <;> by_cases h5 : b = 2 <;> simp [spec_frGood.f, impl_IsFrame.f, impl_IsFrame.j0, spec_l1In.f, impl_within.f, h3, h4, h5] <;> omega
        · have h2' : 0 < a := by omega
          by_cases h3 : 2 ≤ b <;> by_cases h4 : b ≤ 8 <;> by_cases h5 : b = 2 <;> simp [spec_frGood.f, impl_IsFrame.f, impl_IsFrame.j0, spec_l1In.f, impl_within.f, h0, h1, h2, h2', h3, h4, h5] <;> omega
      · by_cases h6 : a = 15
        · subst h6
          by_cases h3 : 2 ≤ b <;> by_cases h4 : b ≤ 8 <;> simp [spec_frGood.f, impl_IsFrame.f, impl_IsFrame.j0, spec_l1In.f, impl_within.f, h3, h4]
        · by_cases h2 : 0 < a <;> by_cases h3 : 2 ≤ b <;> by_cases h4 : b ≤ 8 <;> by_cases h5 : b = 2 <;> simp [spec_frGood.f, impl_IsFrame.f, impl_IsFrame.j0, spec_l1In.f, impl_within.f, h0, h1, h2, h3, h4, h5, h6] <;> omega
    · simp [spec_frGood.f, impl_IsFrame.f, impl_IsFrame.j0, spec_l1In.f, impl_within.f, h0, h1]
  · simp [spec_frGood.f, impl_IsFrame.f, impl_IsFrame.j0, spec_l1In.f, impl_within.f, h0]
theorem FnExactMissBall : ∀ (a0_0 : Int) (a0_1 : Bool) (a0_2 : Int), ((Lit.int .i64 a0_0).wf = true ∧ True ∧ (Lit.int .i64 a0_2).wf = true) → ∃ k, laws_FnExactMissBall.f k a0_0 a0_1 a0_2 = some true := by
  intro a c b _
  refine ⟨1, ?_⟩
  have e : spec_frGood.f a c b = impl_IsFrame.f 1 a c b := frGood_eq a c b
  obtain ⟨r, hr⟩ := isFrame_some a c b
  cases r <;> simp [laws_FnExactMissBall.f, laws_toFrame.f, laws_eqFrame.f, spec_MissBall.f, impl_MissBall.f, e, hr]

end Go.Proofs.Ytbkceiegfllngaa.Pure
