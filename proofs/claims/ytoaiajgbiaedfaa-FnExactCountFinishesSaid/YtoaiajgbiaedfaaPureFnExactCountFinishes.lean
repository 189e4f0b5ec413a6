/- For all numbers, the program's CountFinishes answers what the reference's answers. (The pure statement behind the row: over numbers and lists alone.) -/
import Derived.Test.YtoaiajgbiaedfaaPAx45
import Derived.Test.YtoaiajgbiaedfaaLibC
set_option linter.unusedSimpArgs false
namespace Go.Proofs.Ytoaiajgbiaedfaa.Pure
open Go.RowKit Go.Proofs.Ytoaiajgbiaedfaa.PA Go.Proofs.Ytoaiajgbiaedfaa.Lib Go.Proofs.YtoaiajgbiaedfaaW.PrintWords Go.Proofs.YtoaiajgbiaedfaaW.PrintLast

theorem nat3 {b : Int} (h : 1 ≤ b ∧ b ≤ 3) : ∃ n : Nat, n < 3 ∧ b = ((n + 1 : Nat) : Int) := ⟨b.toNat - 1, by omega, by omega⟩
theorem natS {a : Int} (h : 0 ≤ a ∧ a ≤ 1001) : ∃ m : Nat, m ≤ 1001 ∧ a = (m : Int) := ⟨a.toNat, by omega, by omega⟩
def value (a b : Int) : Int × Bool := if askB a b = true then (cntE (b.toNat - 1) a.toNat, true) else (0, false)
theorem value_yes (n m : Nat) (hn : n < 3) (hm : m ≤ 1001) : value (m : Int) ((n + 1 : Nat) : Int) = (cntE n m, true) := by
  unfold value askB
  rw [decide_eq_true (by omega), decide_eq_true (by omega), Bool.and_true, if_pos rfl, Int.toNat_natCast, Int.toNat_natCast, Nat.add_sub_cancel]
theorem value_no1 {a b : Int} (h : ¬ (0 ≤ a ∧ a ≤ 1001)) : value a b = (0, false) := by
  unfold value askB
  rw [decide_eq_false h, Bool.false_and, if_neg (by simp)]
theorem value_no2 {a b : Int} (h : ¬ (1 ≤ b ∧ b ≤ 3)) : value a b = (0, false) := by
  unfold value askB
  rw [decide_eq_false h, Bool.and_false, if_neg (by simp)]
theorem spec_yes (a b : Int) (ha : 0 ≤ a ∧ a ≤ 1001) (hb : 1 ≤ b ∧ b ≤ 3) (k : Nat) : spec_CountFinishes.f k a b = (spec_daFinishes.f k a b).bind fun t => some (t, true) := by
  unfold spec_CountFinishes.f; rw [daLeft, decide_eq_true ha, daDarts, decide_eq_true hb, Option.bind_some, if_pos rfl, Option.bind_some, if_pos rfl]
theorem spec_v (a b : Int) : Ev (fun k => spec_CountFinishes.f k a b) (value a b) := by
  by_cases ha : 0 ≤ a ∧ a ≤ 1001
  · by_cases hb : 1 ≤ b ∧ b ≤ 3
    · obtain ⟨m, hm, rfl⟩ := natS ha
      obtain ⟨n, hn, rfl⟩ := nat3 hb
      rw [value_yes n m hn hm]
      exact Ev.congr (spec_yes _ _ ha hb) (Ev.bind (daFinishes n m (by omega) hm) (Ev.now _))
    · rw [value_no2 hb]
      exact Ev.congr (fun k => by unfold spec_CountFinishes.f; rw [daLeft, decide_eq_true ha, daDarts, decide_eq_false hb, Option.bind_some, if_pos rfl, Option.bind_some, if_neg Bool.false_ne_true]) (Ev.now _)
  · rw [value_no1 ha]
    exact Ev.congr (fun k => by unfold spec_CountFinishes.f; rw [daLeft, decide_eq_false ha, Option.bind_some, if_neg Bool.false_ne_true]) (Ev.now _)
theorem impl_yes (a b : Int) (ha : 0 ≤ a ∧ a ≤ 1001) (hb : 1 ≤ b ∧ b ≤ 3) (k : Nat) : impl_CountFinishes.f k a b = impl_CountFinishes.j0 k a b false := by
  unfold impl_CountFinishes.f; rw [within_eq, decide_eq_true ha, Option.bind_some, if_pos rfl, isFew, decide_eq_true hb, Option.bind_some, Bool.not_true]
theorem impl_go (a b : Int) (k : Nat) : impl_CountFinishes.j0 (k + 1) a b false = (impl_waysTo.f k b true).bind fun t => (impl_at.f t a).bind fun t2 => some (t2, true) := by
  simp only [impl_CountFinishes.j0]; rw [if_neg Bool.false_ne_true]
theorem impl_v (a b : Int) : Ev (fun k => impl_CountFinishes.f k a b) (value a b) := by
  have hno : Ev (fun k => impl_CountFinishes.j0 k a b true) (0, false) := Ev.step (f := fun _ => _) (fun k => by simp only [impl_CountFinishes.j0, if_true]) (Ev.now _)
  by_cases ha : 0 ≤ a ∧ a ≤ 1001
  · by_cases hb : 1 ≤ b ∧ b ≤ 3
    · obtain ⟨m, hm, rfl⟩ := natS ha
      obtain ⟨n, hn, rfl⟩ := nat3 hb
      rw [value_yes n m hn hm]
      refine Ev.congr (impl_yes _ _ ha hb) (Ev.step (impl_go _ _) (Ev.bind (waysTo_ends n hn) ?_))
      exact Ev.congr (fun k => by rw [impl_at _ _ (fun h => ends_high n m (by omega)), Option.bind_some]) (Ev.now _)
    · rw [value_no2 hb]
      exact Ev.congr (f := fun k => impl_CountFinishes.j0 k a b true) (fun k => by unfold impl_CountFinishes.f; rw [within_eq, decide_eq_true ha, Option.bind_some, if_pos rfl, isFew, decide_eq_false hb, Option.bind_some, Bool.not_false]) hno
  · rw [value_no1 ha]
    exact Ev.congr (f := fun k => impl_CountFinishes.j0 k a b true) (fun k => by unfold impl_CountFinishes.f; rw [within_eq, decide_eq_false ha, Option.bind_some, if_neg Bool.false_ne_true]) hno
theorem FnExactCountFinishes : ∀ (a0 : Int) (a1 : Int), ((Lit.int .i64 a0).wf = true) → ((Lit.int .i64 a1).wf = true) → ∃ k, laws_FnExactCountFinishes.f k a0 a1 = some true := by
  intro a b _ _
  refine Ev.rounds (Ev.bind (spec_v a b) (Ev.bind (impl_v a b) ?_))
  exact Ev.congr (fun k => by rw [if_pos rfl, bne_self_eq_false, if_neg (by simp)]) (Ev.now _)

end Go.Proofs.Ytoaiajgbiaedfaa.Pure
