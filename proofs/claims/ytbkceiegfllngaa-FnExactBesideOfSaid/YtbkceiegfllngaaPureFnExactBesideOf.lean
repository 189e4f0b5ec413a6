/- For every whole number, the program's BesideOf answers what the reference's answers. (The pure statement behind the row: over numbers and lists alone.) -/
import Derived.Test.YtbkceiegfllngaaPAx33
namespace Go.Proofs.Ytbkceiegfllngaa.Pure
open Go.RowKit Go.Proofs.Ytbkceiegfllngaa.PA Go.Proofs.YtbkceiegfllngaaW.PrintWords Go.Proofs.YtbkceiegfllngaaW.PrintLast

theorem ring_cases {a : Int} (h : 1 ≤ a) (h' : a ≤ 20) : a = 1 ∨ a = 2 ∨ a = 3 ∨ a = 4 ∨ a = 5 ∨ a = 6 ∨ a = 7 ∨ a = 8 ∨ a = 9 ∨ a = 10 ∨ a = 11 ∨ a = 12 ∨ a = 13 ∨ a = 14 ∨ a = 15 ∨ a = 16 ∨ a = 17 ∨ a = 18 ∨ a = 19 ∨ a = 20 := by omega
theorem index_none {a : Int} (h : ¬ (1 ≤ a ∧ a ≤ 20)) : slices_Index_int_int.f 21 [20, 1, 18, 4, 13, 6, 10, 15, 2, 17, 3, 19, 7, 16, 8, 11, 14, 9, 12, 5] a = some (-1) := by
  have n1 : ¬ a = 1 := by omega
  have n2 : ¬ a = 2 := by omega
  have n3 : ¬ a = 3 := by omega
  have n4 : ¬ a = 4 := by omega
  have n5 : ¬ a = 5 := by omega
  have n6 : ¬ a = 6 := by omega
  have n7 : ¬ a = 7 := by omega
  have n8 : ¬ a = 8 := by omega
  have n9 : ¬ a = 9 := by omega
  have n10 : ¬ a = 10 := by omega
  have n11 : ¬ a = 11 := by omega
  have n12 : ¬ a = 12 := by omega
  have n13 : ¬ a = 13 := by omega
  have n14 : ¬ a = 14 := by omega
  have n15 : ¬ a = 15 := by omega
  have n16 : ¬ a = 16 := by omega
  have n17 : ¬ a = 17 := by omega
  have n18 : ¬ a = 18 := by omega
  have n19 : ¬ a = 19 := by omega
  have n20 : ¬ a = 20 := by omega
  simp [slices_Index_int_int.f, slices_Index_int_int.l0, rd, wrap64, *]
theorem FnExactBesideOf : laws_FnExactBesideOf.Pure := by
  intro a _
  refine ⟨21, ?_⟩
  by_cases h : 1 ≤ a ∧ a ≤ 20
  · rcases ring_cases h.1 h.2 with h | h | h | h | h | h | h | h | h | h | h | h | h | h | h | h | h | h | h | h <;> subst h <;> decide +kernel
  · have e : spec_l1In.f a 1 20 = some false := by
      unfold spec_l1In.f; by_cases h1 : 1 ≤ a
      · rw [if_pos h1]; congr 1; exact decide_eq_false (by omega)
      · rw [if_neg h1]
    simp [laws_FnExactBesideOf.f, spec_BesideOf.f, impl_BesideOf.f, impl_ring.f, e, index_none h]

end Go.Proofs.Ytbkceiegfllngaa.Pure
