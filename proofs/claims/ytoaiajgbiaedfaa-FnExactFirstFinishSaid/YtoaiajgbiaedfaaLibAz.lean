/- Plain lemmas on numbers as Go wraps them, on reading an element, on asking whether a number lies within two. -/
import Derived.Test.YtoaiajgbiaedfaaPAx1001
import Derived.Test.YtoaiajgbiaedfaaPAx1004
namespace Go.Proofs.Ytoaiajgbiaedfaa.Lib
open Go.RowKit Go.Proofs.Ytoaiajgbiaedfaa.PA Go.Proofs.YtoaiajgbiaedfaaW.PrintWords Go.Proofs.YtoaiajgbiaedfaaW.PrintLast
theorem w64 {i : Int} (h0 : -9223372036854775808 ≤ i) (h : i ≤ 9223372036854775807) : wrap64 i = i := by unfold wrap64; omega
theorem w64s {i n : Nat} (h : i < n) (hn : n ≤ 4611686018427387904) : wrap64 ((i : Int) + 1) = ((i + 1 : Nat) : Int) := by rw [w64 (by omega) (by omega)]; omega
theorem rd58 (l : List S58) (i : Nat) (h : i < l.length) : rd_T58 l (i : Int) = l[i] := by simp [rd_T58, List.getD, h]

theorem in_eq (a b c : Int) : spec_l1In.f a b c = some (decide (b ≤ a ∧ a ≤ c)) := by
  unfold spec_l1In.f; by_cases h : b ≤ a <;> simp [h]
theorem within_eq (a b c : Int) : impl_within.f a b c = some (decide (b ≤ a ∧ a ≤ c)) := by
  unfold impl_within.f; by_cases h : b ≤ a <;> simp [h]
end Go.Proofs.Ytoaiajgbiaedfaa.Lib
