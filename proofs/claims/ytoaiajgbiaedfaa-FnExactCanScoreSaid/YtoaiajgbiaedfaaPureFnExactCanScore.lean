/- For all numbers, the program's CanScore answers what the reference's answers. (The pure statement behind the row: over numbers and lists alone.) -/
import Derived.Test.YtoaiajgbiaedfaaPAx46
import Derived.Test.YtoaiajgbiaedfaaLibC
set_option linter.unusedSimpArgs false
namespace Go.Proofs.Ytoaiajgbiaedfaa.Pure
open Go.RowKit Go.Proofs.Ytoaiajgbiaedfaa.PA Go.Proofs.Ytoaiajgbiaedfaa.Lib Go.Proofs.YtoaiajgbiaedfaaW.PrintWords Go.Proofs.YtoaiajgbiaedfaaW.PrintLast

theorem nat3 {b : Int} (h : 1 ≤ b ∧ b ≤ 3) : ∃ n : Nat, n < 3 ∧ b = ((n + 1 : Nat) : Int) := ⟨b.toNat - 1, by omega, by omega⟩
theorem natS {a : Int} (h : 0 ≤ a ∧ a ≤ 1001) : ∃ m : Nat, m ≤ 1001 ∧ a = (m : Int) := ⟨a.toNat, by omega, by omega⟩
def value (a b : Int) : Int × Bool := if askB a b = true then (cntW b.toNat a.toNat, true) else (0, false)
theorem value_yes (n m : Nat) (hn : n < 3) (hm : m ≤ 1001) : value (m : Int) ((n + 1 : Nat) : Int) = (cntW (n + 1) m, true) := by
  unfold value askB
  rw [decide_eq_true (by omega), decide_eq_true (by omega), Bool.and_true, if_pos rfl, Int.toNat_natCast, Int.toNat_natCast]
theorem value_no1 {a b : Int} (h : ¬ (0 ≤ a ∧ a ≤ 1001)) : value a b = (0, false) := by
  unfold value askB
  rw [decide_eq_false h, Bool.false_and, if_neg (by simp)]
theorem value_no2 {a b : Int} (h : ¬ (1 ≤ b ∧ b ≤ 3)) : value a b = (0, false) := by
  unfold value askB
  rw [decide_eq_false h, Bool.and_false, if_neg (by simp)]
theorem impl_yes (a b : Int) (ha : 0 ≤ a ∧ a ≤ 1001) (hb : 1 ≤ b ∧ b ≤ 3) (k : Nat) : impl_CountWaysTo.f k a b = impl_CountWaysTo.j0 k a b false := by
  unfold impl_CountWaysTo.f; rw [within_eq, decide_eq_true ha, Option.bind_some, if_pos rfl, isFew, decide_eq_true hb, Option.bind_some, Bool.not_true]
theorem impl_go (a b : Int) (k : Nat) : impl_CountWaysTo.j0 (k + 1) a b false = (impl_waysTo.f k b false).bind fun t => (impl_at.f t a).bind fun t2 => some (t2, true) := by
  simp only [impl_CountWaysTo.j0]; rw [if_neg Bool.false_ne_true]
theorem impl_v (a b : Int) : Ev (fun k => impl_CountWaysTo.f k a b) (value a b) := by
  have hno : Ev (fun k => impl_CountWaysTo.j0 k a b true) (0, false) := Ev.step (f := fun _ => _) (fun k => by simp only [impl_CountWaysTo.j0, if_true]) (Ev.now _)
  by_cases ha : 0 ≤ a ∧ a ≤ 1001
  · by_cases hb : 1 ≤ b ∧ b ≤ 3
    · obtain ⟨m, hm, rfl⟩ := natS ha
      obtain ⟨n, hn, rfl⟩ := nat3 hb
      rw [value_yes n m hn hm]
      refine Ev.congr (impl_yes _ _ ha hb) (Ev.step (impl_go _ _) (Ev.bind (waysTo_ways (n + 1) (by omega)) ?_))
      exact Ev.congr (fun k => by rw [impl_at _ _ (fun h => ways_high (n + 1) m (by omega)), Option.bind_some]) (Ev.now _)
    · rw [value_no2 hb]
      exact Ev.congr (f := fun k => impl_CountWaysTo.j0 k a b true) (fun k => by unfold impl_CountWaysTo.f; rw [within_eq, decide_eq_true ha, Option.bind_some, if_pos rfl, isFew, decide_eq_false hb, Option.bind_some, Bool.not_false]) hno
  · rw [value_no1 ha]
    exact Ev.congr (f := fun k => impl_CountWaysTo.j0 k a b true) (fun k => by unfold impl_CountWaysTo.f; rw [within_eq, decide_eq_false ha, Option.bind_some, if_neg Bool.false_ne_true]) hno
theorem spec_yes (a b : Int) (ha : 0 ≤ a ∧ a ≤ 1001) (hb : 1 ≤ b ∧ b ≤ 3) (k : Nat) : spec_CanScore.f k a b = (spec_daCount.f k b a false).bind fun t => if 0 ≤ a then (if a < (t.length : Int) then some (decide (rd t a > 0), true) else none) else none := by
  unfold spec_CanScore.f; rw [daLeft, decide_eq_true ha, daDarts, decide_eq_true hb, Option.bind_some, if_pos rfl, Option.bind_some, if_pos rfl]
theorem spec_v (a b : Int) : Ev (fun k => spec_CanScore.f k a b) (decide ((value a b).1 > 0), (value a b).2) := by
  by_cases ha : 0 ≤ a ∧ a ≤ 1001
  · by_cases hb : 1 ≤ b ∧ b ≤ 3
    · obtain ⟨m, hm, rfl⟩ := natS ha
      obtain ⟨n, hn, rfl⟩ := nat3 hb
      rw [value_yes n m hn hm]
      refine Ev.congr (spec_yes _ _ ha hb) (Ev.bind (daCount_ways (n + 1) m (by omega) hm) ?_)
      exact Ev.congr (fun k => by rw [tab_len, if_pos (by omega), if_pos (by omega), tab_rd _ (by omega)]) (Ev.now _)
    · rw [value_no2 hb]
      exact Ev.congr (fun k => by unfold spec_CanScore.f; rw [daLeft, decide_eq_true ha, daDarts, decide_eq_false hb, Option.bind_some, if_pos rfl, Option.bind_some, if_neg Bool.false_ne_true]; rfl) (Ev.now _)
  · rw [value_no1 ha]
    exact Ev.congr (fun k => by unfold spec_CanScore.f; rw [daLeft, decide_eq_false ha, Option.bind_some, if_neg Bool.false_ne_true]; rfl) (Ev.now _)
theorem FnExactCanScore : ∀ (a0 : Int) (a1 : Int), ((Lit.int .i64 a0).wf = true) → ((Lit.int .i64 a1).wf = true) → ∃ k, laws_FnExactCanScore.f k a0 a1 = some true := by
  intro a b _ _
  refine Ev.rounds (Ev.bind (spec_v a b) (Ev.bind (Ev.bind (impl_v a b) (Ev.now _)) ?_))
  exact Ev.congr (fun k => by simp) (Ev.now _)

end Go.Proofs.Ytoaiajgbiaedfaa.Pure
