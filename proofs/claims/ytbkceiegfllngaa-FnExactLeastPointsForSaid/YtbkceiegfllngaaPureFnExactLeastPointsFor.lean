/- For all whole numbers a and b, the program's LeastPointsFor answers what the reference's answers. (The pure statement behind the row: over numbers and lists alone.) -/
import Derived.Test.YtbkceiegfllngaaPFnExactLeastPointsForx1
namespace Go.Proofs.Ytbkceiegfllngaa.Pure
open Go.RowKit Go.Proofs.Ytbkceiegfllngaa.PFnExactLeastPointsFor Go.Proofs.YtbkceiegfllngaaW.PrintWords Go.Proofs.YtbkceiegfllngaaW.PrintLast

theorem in_eq (a b c : Int) : spec_l1In.f a b c = some (decide (b ≤ a ∧ a ≤ c)) := by
  unfold spec_l1In.f; by_cases h : b ≤ a <;> simp [h]
theorem within_eq (a b c : Int) : impl_within.f a b c = some (decide (b ≤ a ∧ a ≤ c)) := by
  unfold impl_within.f; by_cases h : b ≤ a <;> simp [h]
theorem FnExactLeastPointsFor : laws_FnExactLeastPointsFor.Pure := by
  intro a b _ _
  have e : spec_IsSetScore.f a b = impl_IsSetScore.f a b := by
    simp only [spec_IsSetScore.f, impl_IsSetScore.f, in_eq, within_eq]
  have s : ∃ r, impl_IsSetScore.f a b = some r := by
    simp only [impl_IsSetScore.f, within_eq, Option.bind_some]
    repeat' split
    all_goals exact ⟨_, rfl⟩
  obtain ⟨r, hr⟩ := s
  unfold laws_FnExactLeastPointsFor.f spec_LeastPointsFor.f impl_LeastPointsFor.f
  rw [e, hr]
  cases r
  · simp
  · by_cases h6 : b = 6
    · simp [h6]
    · simp [h6]

end Go.Proofs.Ytbkceiegfllngaa.Pure
