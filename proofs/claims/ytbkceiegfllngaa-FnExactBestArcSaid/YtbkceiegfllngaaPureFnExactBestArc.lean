/- For every whole number, the program's BestArc answers what the reference's answers. (The pure statement behind the row: over numbers and lists alone.) -/
import Derived.Test.YtbkceiegfllngaaPFnExactBestArcx1
namespace Go.Proofs.Ytbkceiegfllngaa.Pure
open Go.RowKit Go.Proofs.Ytbkceiegfllngaa.PFnExactBestArc Go.Proofs.YtbkceiegfllngaaW.PrintWords Go.Proofs.YtbkceiegfllngaaW.PrintLast

theorem ring_cases {a : Int} (h : 1 ≤ a) (h' : a ≤ 20) : a = 1 ∨ a = 2 ∨ a = 3 ∨ a = 4 ∨ a = 5 ∨ a = 6 ∨ a = 7 ∨ a = 8 ∨ a = 9 ∨ a = 10 ∨ a = 11 ∨ a = 12 ∨ a = 13 ∨ a = 14 ∨ a = 15 ∨ a = 16 ∨ a = 17 ∨ a = 18 ∨ a = 19 ∨ a = 20 := by omega
theorem FnExactBestArc : laws_FnExactBestArc.Pure := by
  intro a _
  refine ⟨500, ?_⟩
  by_cases h : 1 ≤ a ∧ a ≤ 20
  · rcases ring_cases h.1 h.2 with h | h | h | h | h | h | h | h | h | h | h | h | h | h | h | h | h | h | h | h <;> subst h <;> decide +kernel
  · have e : spec_l1In.f a 1 20 = some false := by
      unfold spec_l1In.f; by_cases h1 : 1 ≤ a
      · rw [if_pos h1]; congr 1; exact decide_eq_false (by omega)
      · rw [if_neg h1]
    have e2 : impl_within.f a 1 20 = some false := by
      unfold impl_within.f; by_cases h1 : 1 ≤ a
      · rw [if_pos h1]; congr 1; exact decide_eq_false (by omega)
      · rw [if_neg h1]
    simp [laws_FnExactBestArc.f, spec_BestArc.f, impl_BestArc.f, e, e2]

end Go.Proofs.Ytbkceiegfllngaa.Pure
