/- For all numbers, the program's CanFinish answers what the reference's answers. (The pure statement behind the row: over numbers and lists alone.) -/
import Derived.Test.YtoaiajgbiaedfaaPAx54
import Derived.Test.YtoaiajgbiaedfaaLibF
import Derived.Test.YtoaiajgbiaedfaaLibG
set_option linter.unusedSimpArgs false
namespace Go.Proofs.Ytoaiajgbiaedfaa.Pure
open Go.RowKit Go.Proofs.Ytoaiajgbiaedfaa.PA Go.Proofs.Ytoaiajgbiaedfaa.Lib Go.Proofs.YtoaiajgbiaedfaaW.PrintWords Go.Proofs.YtoaiajgbiaedfaaW.PrintLast

def canV (a b : Int) : Bool × Bool := if (0 ≤ a ∧ a ≤ 1001) ∧ (1 ≤ b ∧ b ≤ 3) then (decide (0 < lG a.toNat ∧ lG a.toNat ≤ b), true) else (false, false)
theorem canV_no {a b : Int} (h : ¬ ((0 ≤ a ∧ a ≤ 1001) ∧ (1 ≤ b ∧ b ≤ 3))) : canV a b = (false, false) := if_neg h
theorem canV_yes {a b : Int} (h : (0 ≤ a ∧ a ≤ 1001) ∧ (1 ≤ b ∧ b ≤ 3)) : canV a b = (decide (0 < lG a.toNat ∧ lG a.toNat ≤ b), true) := if_pos h
theorem spec_yes (a b : Int) (ha : 0 ≤ a ∧ a ≤ 1001) (hb : 1 ≤ b ∧ b ≤ 3) (k : Nat) : spec_CanFinish.f k a b = (spec_daCan.f k a b).bind fun t => some (t, true) := by
  unfold spec_CanFinish.f
  rw [daLeft, decide_eq_true ha, Option.bind_some, if_pos rfl, daDarts, decide_eq_true hb, Option.bind_some, if_pos rfl]
theorem spec_v (a b : Int) : Ev (fun k => spec_CanFinish.f k a b) (canV a b) := by
  by_cases ha : 0 ≤ a ∧ a ≤ 1001
  · by_cases hb : 1 ≤ b ∧ b ≤ 3
    · rw [canV_yes ⟨ha, hb⟩]
      have h := daCan a.toNat b.toNat (by omega) (by omega)
      rw [show ((a.toNat : Nat) : Int) = a by omega, show ((b.toNat : Nat) : Int) = b by omega] at h
      exact Ev.congr (spec_yes _ _ ha hb) (Ev.bind h (Ev.now _))
    · rw [canV_no (fun h => hb h.2)]
      exact Ev.congr (fun k => by unfold spec_CanFinish.f; rw [daLeft, decide_eq_true ha, Option.bind_some, if_pos rfl, daDarts, decide_eq_false hb, Option.bind_some, if_neg Bool.false_ne_true]) (Ev.now _)
  · rw [canV_no (fun h => ha h.1)]
    exact Ev.congr (fun k => by unfold spec_CanFinish.f; rw [daLeft, decide_eq_false ha, Option.bind_some, if_neg Bool.false_ne_true]) (Ev.now _)
theorem impl_yes (a b : Int) (ha : 0 ≤ a ∧ a ≤ 1001) (hb : 1 ≤ b ∧ b ≤ 3) (k : Nat) : impl_CanFinish.f k a b = (impl_FewestDarts.f k a).bind fun t => (if t.2 = true then (some (decide (t.1 ≤ b), true)) else (some (false, true))) := by
  unfold impl_CanFinish.f
  rw [within_eq, decide_eq_true ha, Option.bind_some, if_pos rfl, isFew, decide_eq_true hb, Option.bind_some, if_pos rfl]
theorem impl_v (a b : Int) : Ev (fun k => impl_CanFinish.f k a b) (canV a b) := by
  by_cases ha : 0 ≤ a ∧ a ≤ 1001
  · by_cases hb : 1 ≤ b ∧ b ≤ 3
    · rw [canV_yes ⟨ha, hb⟩]
      refine Ev.congr (impl_yes _ _ ha hb) (Ev.bind (few_impl a) ?_)
      refine Ev.congr (fun k => ?_) (Ev.now _)
      by_cases h2 : 2 ≤ a
      · obtain ⟨n, _, hn, _⟩ := fewE a.toNat (by omega) (by omega)
        rw [show fewV a = (lG a.toNat, true) from if_pos ⟨h2, ha.2⟩, if_pos rfl]
        congr 2
        rw [decide_eq_decide]
        exact ⟨fun h => ⟨by omega, h⟩, fun h => h.2⟩
      · rw [fewV_no (by omega), if_neg Bool.false_ne_true, decide_eq_false]
        rintro ⟨h, _⟩
        rcases (by omega : a.toNat = 0 ∨ a.toNat = 1) with e | e
        · rw [e, lG_zero] at h; omega
        · rw [e, lG_one] at h; omega
    · rw [canV_no (fun h => hb h.2)]
      exact Ev.congr (fun k => by unfold impl_CanFinish.f; rw [within_eq, decide_eq_true ha, Option.bind_some, if_pos rfl, isFew, decide_eq_false hb, Option.bind_some, if_neg Bool.false_ne_true]) (Ev.now _)
  · rw [canV_no (fun h => ha h.1)]
    exact Ev.congr (fun k => by unfold impl_CanFinish.f; rw [within_eq, decide_eq_false ha, Option.bind_some, if_neg Bool.false_ne_true]) (Ev.now _)
theorem FnExactCanFinish : ∀ (a0 : Int) (a1 : Int), ((Lit.int .i64 a0).wf = true) → ((Lit.int .i64 a1).wf = true) → ∃ k, laws_FnExactCanFinish.f k a0 a1 = some true := by
  intro a b _ _
  refine Ev.rounds (Ev.bind (spec_v a b) (Ev.bind (impl_v a b) ?_))
  exact Ev.congr (fun k => by rw [bne_self_eq_false, if_neg Bool.false_ne_true, bne_self_eq_false, if_neg Bool.false_ne_true]) (Ev.now _)

end Go.Proofs.Ytoaiajgbiaedfaa.Pure
