/- For every frame, of whatever numbers, the program's NextBalls answers what the reference's answers. (The pure statement behind the row: over numbers and lists alone.) -/
import Derived.Test.YtolkcfphighhlaaDoorPAx11
import Derived.KernelRfl
set_option linter.unusedSimpArgs false
namespace Go.Proofs.YtolkcfphighhlaaDoor.Pure
open Go.RowKit Go.Proofs.YtolkcfphighhlaaDoor.PA Go.Proofs.YtolkcfphighhlaaDoorW.PrintWords Go.Proofs.YtolkcfphighhlaaDoorW.PrintLast Go.Proofs.YtolkcfphighhlaaDoorW.PrintMore

theorem in_eq (a b c : Int) : spec_l1In.f a b c = some (decide (b ≤ a ∧ a ≤ c)) := by
  unfold spec_l1In.f; by_cases h : b ≤ a <;> simp [h]
theorem within_eq (a b c : Int) : impl_within.f a b c = some (decide (b ≤ a ∧ a ≤ c)) := by
  unfold impl_within.f; by_cases h : b ≤ a <;> simp [h]
def inR (a b : Int) : Prop := (0 ≤ a ∧ a ≤ 15) ∧ 2 ≤ b ∧ b ≤ 8
instance (a b : Int) : Decidable (inR a b) := by unfold inR; infer_instance
theorem spec_out {a b : Int} (h : ¬ inR a b) (c : Bool) : spec_frGood.f a c b = some false := by
  unfold spec_frGood.f
  rw [in_eq, Option.bind_some]
  by_cases ha : 0 ≤ a ∧ a ≤ 15
  · rw [decide_eq_true ha, if_pos rfl, in_eq, Option.bind_some, decide_eq_false (fun hb => h ⟨ha, hb⟩), if_neg Bool.false_ne_true]
  · rw [decide_eq_false ha, if_neg Bool.false_ne_true]
theorem j0_out {b : Int} (hb : ¬ (2 ≤ b ∧ b ≤ 8)) (k : Nat) (x : Bool) (a : Int) (c : Bool) : impl_IsFrame.j0 (k + 1) x a c b = some false := by
  have h2 : (b == 2) = false := beq_eq_false_iff_ne.2 (by omega)
  simp only [impl_IsFrame.j0, within_eq, Option.bind_some, h2, decide_eq_false hb, ite_self]
theorem j0_true (k : Nat) (a b : Int) (c : Bool) : impl_IsFrame.j0 (k + 1) true a c b = some false := by
  simp only [impl_IsFrame.j0, if_true]
theorem impl_out {a b : Int} (h : ¬ inR a b) (k : Nat) (c : Bool) : impl_IsFrame.f (k + 1) a c b = some false := by
  unfold impl_IsFrame.f
  rw [within_eq, Option.bind_some]
  by_cases ha : 0 ≤ a ∧ a ≤ 15
  · have hb : ¬ (2 ≤ b ∧ b ≤ 8) := fun hb => h ⟨ha, hb⟩
    rw [j0_out hb, j0_out hb, j0_out hb, ite_self, ite_self]
  · rw [decide_eq_false ha, if_neg Bool.false_ne_true, j0_true]
theorem inR_nat {a b : Int} (h : inR a b) : ∃ i j : Nat, i < 16 ∧ j < 9 ∧ a = (i : Int) ∧ b = (j : Int) := by
  unfold inR at h
  exact ⟨a.toNat, b.toNat, by omega, by omega, by omega, by omega⟩
def same (i j : Nat) (c : Bool) : Bool := match spec_NextBalls.f 10 (i : Int) c (j : Int), impl_NextBalls.f 10 (i : Int) c (j : Int) with
  | some (x, p), some (y, q) => decide (x = y) && decide (p = q)
  | _, _ => false
theorem same_all : (List.range 16).all (fun i => (List.range 9).all (fun j => [false, true].all (fun c => same i j c))) = true := by kernel_rfl
theorem FnExactNextBalls : ∀ (a0_0 : Int) (a0_1 : Bool) (a0_2 : Int), ((Lit.int .i64 a0_0).wf = true ∧ True ∧ (Lit.int .i64 a0_2).wf = true) → ∃ k, laws_FnExactNextBalls.f k a0_0 a0_1 a0_2 = some true := by
  intro a c b _
  refine ⟨10, ?_⟩
  by_cases h : inR a b
  · obtain ⟨i, j, hi, hj, rfl, rfl⟩ := inR_nat h
    have h := List.all_eq_true.1 (List.all_eq_true.1 (List.all_eq_true.1 same_all i (List.mem_range.2 hi)) j (List.mem_range.2 hj)) c (by cases c <;> simp)
    unfold same at h
    revert h
    cases hs : spec_NextBalls.f 10 (i : Int) c (j : Int) with
    | none => intro h; cases h
    | some x =>
      cases hm : impl_NextBalls.f 10 (i : Int) c (j : Int) with
      | none => intro h; cases h
      | some y =>
        intro h
        have h2 : (decide (x.1 = y.1) && decide (x.2 = y.2)) = true := h
        rw [Bool.and_eq_true] at h2
        have e1 := of_decide_eq_true h2.1
        have e2 := of_decide_eq_true h2.2
        unfold laws_FnExactNextBalls.f
        simp only [laws_toFrame.f, Option.bind_some]
        rw [hs, hm]
        simp only [Option.bind_some]
        rw [e1, e2, if_pos rfl, bne_self_eq_false, if_neg Bool.false_ne_true]
  · simp only [laws_FnExactNextBalls.f, laws_toFrame.f, spec_NextBalls.f, impl_NextBalls.f, spec_out h, impl_out h, Option.bind_some, Bool.false_eq_true, if_false]
    rfl

end Go.Proofs.YtolkcfphighhlaaDoor.Pure
