/- For every dart, of whatever numbers, the program's DartText answers what the reference's answers. (The pure statement behind the row: over numbers and lists alone.) -/
import Derived.Test.YtoaiajgbiaedfaaDoorPAx9
import Derived.KernelRfl
set_option linter.unusedSimpArgs false
namespace Go.Proofs.YtoaiajgbiaedfaaDoor.Pure
open Go.RowKit Go.Proofs.YtoaiajgbiaedfaaDoor.PA Go.Proofs.YtoaiajgbiaedfaaDoorW.PrintWords Go.Proofs.YtoaiajgbiaedfaaDoorW.PrintLast Go.Proofs.YtoaiajgbiaedfaaDoorW.PrintMore

theorem in_eq (a b c : Int) : spec_l1In.f a b c = some (decide (b ≤ a ∧ a ≤ c)) := by
  unfold spec_l1In.f; by_cases h : b ≤ a <;> simp [h]
theorem within_eq (a b c : Int) : impl_within.f a b c = some (decide (b ≤ a ∧ a ≤ c)) := by
  unfold impl_within.f; by_cases h : b ≤ a <;> simp [h]
/-- A dart, told as the reference tells it. -/
def good (a b : Int) : Bool := if a = 25 then decide (1 ≤ b ∧ b ≤ 2) else decide ((1 ≤ a ∧ a ≤ 20) ∧ 1 ≤ b ∧ b ≤ 3)
theorem daGood (a b : Int) : spec_daGood.f a b = some (good a b) := by
  simp only [spec_daGood.f, good, in_eq, Option.bind_some]
  by_cases h : a = 25
  · simp [h]
  · by_cases h1 : 1 ≤ a ∧ a ≤ 20
    · simp [h, h1]
    · simp only [h, h1, if_false, decide_false, Bool.false_eq_true, false_and]
theorem isDart (a b : Int) : impl_IsDart.f a b = some (good a b) := by
  simp only [impl_IsDart.f, good, within_eq, Option.bind_some]
  by_cases h : a = 25
  · subst h; simp
  · by_cases h1 : 1 ≤ a ∧ a ≤ 20
    · by_cases h2 : 1 ≤ b ∧ b ≤ 3
      · simp [h, h1, h2]
      · simp [h, h1, h2]
    · simp only [h, h1, if_false, decide_false, Bool.false_eq_true, false_and]
theorem good_small {a b : Int} (h : good a b = true) : ∃ i j : Nat, i < 26 ∧ j < 4 ∧ a = (i : Int) ∧ b = (j : Int) := by
  refine ⟨a.toNat, b.toNat, ?_⟩
  unfold good at h
  by_cases h1 : a = 25
  · rw [if_pos h1] at h
    have := of_decide_eq_true h
    omega
  · rw [if_neg h1] at h
    have := of_decide_eq_true h
    omega
def same (i j : Nat) : Bool := match spec_DartText.f 10 (i : Int) (j : Int), impl_DartText.f (i : Int) (j : Int) with
  | some (x, p), some (y, q) => decide (x = y) && decide (p = q)
  | _, _ => false
theorem same_all : (List.range 26).all (fun i => (List.range 4).all (fun j => !(good (i : Int) (j : Int)) || same i j)) = true := by kernel_rfl
theorem FnExactDartText : ∀ (a0_0 : Int) (a0_1 : Int), ((Lit.int .i64 a0_0).wf = true ∧ (Lit.int .i64 a0_1).wf = true) → ∃ k, laws_FnExactDartText.f k a0_0 a0_1 = some true := by
  intro a b _
  cases hg : good a b
  · refine ⟨1, ?_⟩
    simp only [laws_FnExactDartText.f, laws_toDart.f, spec_DartText.f, impl_DartText.f, daGood, isDart, hg, Option.bind_some, Bool.false_eq_true, if_false]
    rfl
  · obtain ⟨i, j, hi, hj, rfl, rfl⟩ := good_small hg
    have h := List.all_eq_true.1 (List.all_eq_true.1 same_all i (List.mem_range.2 hi)) j (List.mem_range.2 hj)
    rw [hg, Bool.not_true, Bool.false_or] at h
    refine ⟨10, ?_⟩
    unfold same at h
    revert h
    cases hs : spec_DartText.f 10 (i : Int) (j : Int) with
    | none => intro h; cases h
    | some x =>
      cases hm : impl_DartText.f (i : Int) (j : Int) with
      | none => intro h; cases h
      | some y =>
        intro h
        have h2 : (decide (x.1 = y.1) && decide (x.2 = y.2)) = true := h
        rw [Bool.and_eq_true] at h2
        have e1 := of_decide_eq_true h2.1
        have e2 := of_decide_eq_true h2.2
        unfold laws_FnExactDartText.f
        simp only [laws_toDart.f, Option.bind_some]
        rw [hs, hm]
        simp only [Option.bind_some]
        rw [e1, e2, if_pos rfl, bne_self_eq_false, if_neg Bool.false_ne_true]

end Go.Proofs.YtoaiajgbiaedfaaDoor.Pure
