/- For every number of darts, the program's CountScores answers what the reference's answers. (The pure statement behind the row: over numbers and lists alone.) -/
import Derived.Test.YtoaiajgbiaedfaaPAx52
import Derived.Test.YtoaiajgbiaedfaaLibC
set_option linter.unusedSimpArgs false
namespace Go.Proofs.Ytoaiajgbiaedfaa.Pure
open Go.RowKit Go.Proofs.Ytoaiajgbiaedfaa.PA Go.Proofs.Ytoaiajgbiaedfaa.Lib Go.Proofs.YtoaiajgbiaedfaaW.PrintWords Go.Proofs.YtoaiajgbiaedfaaW.PrintLast

theorem nat3 {b : Int} (h : 1 ≤ b ∧ b ≤ 3) : ∃ n : Nat, n < 3 ∧ b = ((n + 1 : Nat) : Int) := ⟨b.toNat - 1, by omega, by omega⟩
theorem natS {a : Int} (h : 0 ≤ a ∧ a ≤ 1001) : ∃ m : Nat, m ≤ 1001 ∧ a = (m : Int) := ⟨a.toNat, by omega, by omega⟩
theorem loops (k : Nat) : ∀ (x4 : Int) (l : List Int) (n i : Int), impl_CountScores.l0 k x4 l n i = spec_CountScores.l0 k x4 l n i := by
  induction k with
  | zero => intros; rfl
  | succ k ih =>
    intro x4 l n i
    simp only [impl_CountScores.l0, spec_CountScores.l0, ih]
theorem ends_l0 (l : List Int) (hl : l.length ≤ 1000) (d : Nat) : ∀ (i : Nat) (x4 : Int), i + d = l.length → ∃ r, Ev (fun k => spec_CountScores.l0 k x4 l (l.length : Int) (i : Int)) r := by
  induction d with
  | zero =>
    intro i x4 hi
    refine ⟨(x4, true), Ev.step (f := fun _ => _) (fun k => ?_) (Ev.now _)⟩
    simp only [spec_CountScores.l0]
    rw [if_neg (by omega)]
  | succ d ih =>
    intro i x4 hi
    obtain ⟨r1, h1⟩ := ih (i + 1) (wrap64 (x4 + 1)) (by omega)
    obtain ⟨r2, h2⟩ := ih (i + 1) x4 (by omega)
    by_cases h : rd l (i : Int) > 0
    · refine ⟨r1, Ev.step (fun k => ?_) h1⟩
      simp only [spec_CountScores.l0]
      rw [if_pos (by omega), if_pos (by omega), if_pos (by omega), if_pos h, w64s (n := 1000) (by omega) (by omega)]
    · refine ⟨r2, Ev.step (fun k => ?_) h2⟩
      simp only [spec_CountScores.l0]
      rw [if_pos (by omega), if_pos (by omega), if_pos (by omega), if_neg h, w64s (n := 1000) (by omega) (by omega)]
theorem FnExactCountScores : ∀ (a0 : Int), ((Lit.int .i64 a0).wf = true) → ∃ k, laws_FnExactCountScores.f k a0 = some true := by
  intro b _
  refine Ev.rounds ?_
  by_cases hb : 1 ≤ b ∧ b ≤ 3
  · obtain ⟨n, hn, rfl⟩ := nat3 hb
    obtain ⟨r, hr⟩ := ends_l0 (tab 181 (cntW (n + 1))) (by rw [tab_len]; omega) 181 0 0 (by rw [tab_len])
    have hs : Ev (fun k => spec_CountScores.f k ((n + 1 : Nat) : Int)) r := by
      refine Ev.congr (f := fun k => (spec_daCount.f k ((n + 1 : Nat) : Int) 180 false).bind fun t => spec_CountScores.l0 k 0 t (t.length : Int) 0) (fun k => by unfold spec_CountScores.f; rw [daDarts, decide_eq_true hb, Option.bind_some, if_pos rfl]) (Ev.bind (daCount_ways (n + 1) 180 (by omega) (by omega)) hr)
    have hi : Ev (fun k => impl_CountScores.f k ((n + 1 : Nat) : Int)) r := by
      refine Ev.congr (f := fun k => (impl_waysTo.f k ((n + 1 : Nat) : Int) false).bind fun t => impl_CountScores.l0 k 0 t (t.length : Int) 0) (fun k => by unfold impl_CountScores.f; rw [isFew, decide_eq_true hb, Option.bind_some, if_pos rfl]) (Ev.bind (waysTo_ways (n + 1) (by omega)) ?_)
      exact Ev.congr (fun k => loops k _ _ _ _) hr
    exact Ev.bind hs (Ev.bind hi (Ev.congr (fun k => by rw [if_pos rfl, bne_self_eq_false, if_neg (by simp)]) (Ev.now _)))
  · have hs : Ev (fun k => spec_CountScores.f k b) (0, false) := Ev.congr (fun k => by unfold spec_CountScores.f; rw [daDarts, decide_eq_false hb, Option.bind_some, if_neg Bool.false_ne_true]) (Ev.now _)
    have hi : Ev (fun k => impl_CountScores.f k b) (0, false) := Ev.congr (fun k => by unfold impl_CountScores.f; rw [isFew, decide_eq_false hb, Option.bind_some, if_neg Bool.false_ne_true]) (Ev.now _)
    exact Ev.bind hs (Ev.bind hi (Ev.congr (fun k => by rw [if_pos rfl, bne_self_eq_false, if_neg (by simp)]) (Ev.now _)))

end Go.Proofs.Ytoaiajgbiaedfaa.Pure
