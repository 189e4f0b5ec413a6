/- Plain lemmas: the program's FewestDarts is the reference's. -/
import Derived.Test.YtoaiajgbiaedfaaLibE
import Derived.Test.YtoaiajgbiaedfaaPAx47
import Derived.Test.YtoaiajgbiaedfaaPAx49
set_option linter.unusedSimpArgs false
namespace Go.Proofs.Ytoaiajgbiaedfaa.Lib
open Go.RowKit Go.Proofs.Ytoaiajgbiaedfaa.PA Go.Proofs.YtoaiajgbiaedfaaW.PrintWords Go.Proofs.YtoaiajgbiaedfaaW.PrintLast Go.Proofs.YtoaiajgbiaedfaaW.PrintMore
def fewV (a : Int) : Int × Bool := if 2 ≤ a ∧ a ≤ 1001 then (lG a.toNat, true) else (0, false)
theorem fewV_yes (m : Nat) (h1 : 2 ≤ m) (h2 : m ≤ 1001) : fewV (m : Int) = (lG m, true) := by
  unfold fewV
  rw [if_pos (by omega), Int.toNat_natCast]
theorem fewV_no {a : Int} (h : ¬ (2 ≤ a ∧ a ≤ 1001)) : fewV a = (0, false) := if_neg h
theorem impl_few_yes (a : Int) (ha : 0 ≤ a ∧ a ≤ 1001) (k : Nat) : impl_FewestDarts.f k a = (impl_fewest.f k true).bind fun t => if 0 ≤ a then (if a < (t.length : Int) then (some (mx (rd t a) 0, decide ((rd t a) > 0))) else (none)) else (none) := by
  unfold impl_FewestDarts.f
  rw [within_eq, decide_eq_true ha, Option.bind_some, if_pos rfl]
theorem few_impl (a : Int) : Ev (fun k => impl_FewestDarts.f k a) (fewV a) := by
  by_cases ha : 0 ≤ a ∧ a ≤ 1001
  · obtain ⟨m, hm, rfl⟩ : ∃ m : Nat, m ≤ 1001 ∧ a = (m : Int) := ⟨a.toNat, by omega, by omega⟩
    refine Ev.congr (impl_few_yes _ ha) (Ev.bind fewest ?_)
    refine Ev.congr (f := fun _ => some (fewV (m : Int))) (fun k => ?_) (Ev.now _)
    rw [tab_len, if_pos (by omega), if_pos (by omega), tab_rd _ (by omega)]
    by_cases h2 : 2 ≤ m
    · obtain ⟨n, _, hn, _⟩ := fewE m h2 hm
      rw [fewV_yes m h2 hm, decide_eq_true (by omega), show mx (lG m) 0 = lG m by unfold mx; rw [if_neg (by omega)]]
    · rw [fewV_no (by omega), show lG m = -1 by (rcases (by omega : m = 0 ∨ m = 1) with rfl | rfl <;> first | exact lG_zero | exact lG_one)]
      rfl
  · rw [fewV_no (by omega)]
    exact Ev.congr (fun k => by unfold impl_FewestDarts.f; rw [within_eq, decide_eq_false ha, Option.bind_some, if_neg Bool.false_ne_true]) (Ev.now _)
theorem spec_hit (m n : Nat) (hm : m ≤ 1001) (hn : n ≤ 999) (h : cntE n m ≠ 0) : Ev (fun k => spec_FewestDarts.l0 k (m : Int) ((n + 1 : Nat) : Int)) (((n + 1 : Nat) : Int), true) := by
  refine Ev.step (f := fun k => (spec_daFinishes.f k (m : Int) ((n + 1 : Nat) : Int)).bind fun t => if t = 0 then (spec_FewestDarts.l0 k (m : Int) (wrap64 (((n + 1 : Nat) : Int) + 1))) else some (((n + 1 : Nat) : Int), true)) (fun k => by simp only [spec_FewestDarts.l0]) (Ev.bind (daFinishes n m hn hm) ?_)
  exact Ev.congr (fun k => by rw [if_neg h]) (Ev.now _)
theorem spec_pass (m n : Nat) (hm : m ≤ 1001) (hn : n ≤ 998) (h : cntE n m = 0) (r : Int × Bool) (hr : Ev (fun k => spec_FewestDarts.l0 k (m : Int) ((n + 1 + 1 : Nat) : Int)) r) : Ev (fun k => spec_FewestDarts.l0 k (m : Int) ((n + 1 : Nat) : Int)) r := by
  refine Ev.step (f := fun k => (spec_daFinishes.f k (m : Int) ((n + 1 : Nat) : Int)).bind fun t => if t = 0 then (spec_FewestDarts.l0 k (m : Int) (wrap64 (((n + 1 : Nat) : Int) + 1))) else some (((n + 1 : Nat) : Int), true)) (fun k => by simp only [spec_FewestDarts.l0]) (Ev.bind (daFinishes n m (by omega) hm) ?_)
  exact Ev.congr (fun k => by rw [if_pos h, w64s (n := 2000) (by omega) (by omega)]) hr
theorem few_spec (a : Int) : Ev (fun k => spec_FewestDarts.f k a) (fewV a) := by
  by_cases ha : 2 ≤ a ∧ a ≤ 1001
  · obtain ⟨m, hm, rfl⟩ : ∃ m : Nat, m ≤ 1001 ∧ a = (m : Int) := ⟨a.toNat, by omega, by omega⟩
    have h2 : 2 ≤ m := by omega
    obtain ⟨n, hn17, hn, hne, hcase⟩ := fewE m h2 hm
    rw [fewV_yes m h2 hm, hn]
    refine Ev.congr (f := fun k => spec_FewestDarts.l0 k (m : Int) (((m + 59) / 60 : Nat) : Int)) (fun k => ?_) ?_
    · unfold spec_FewestDarts.f
      rw [in_eq, decide_eq_true ha, Option.bind_some, if_pos rfl, w64 (i := (m : Int) + 59) (by omega) (by omega), Int.tdiv_eq_ediv_of_nonneg (by omega), w64 (by omega) (by omega)]
      congr 1
    · rcases hcase with h | ⟨h, h1, h0⟩
      · rw [← h]
        exact spec_hit m n hm (by omega) hne
      · rw [← h]
        obtain ⟨p, rfl⟩ : ∃ p, n = p + 1 := ⟨n - 1, by omega⟩
        exact spec_pass m p hm (by omega) h0 _ (spec_hit m (p + 1) hm (by omega) hne)
  · rw [fewV_no ha]
    exact Ev.congr (fun k => by unfold spec_FewestDarts.f; rw [in_eq, decide_eq_false ha, Option.bind_some, if_neg Bool.false_ne_true]) (Ev.now _)
end Go.Proofs.Ytoaiajgbiaedfaa.Lib
