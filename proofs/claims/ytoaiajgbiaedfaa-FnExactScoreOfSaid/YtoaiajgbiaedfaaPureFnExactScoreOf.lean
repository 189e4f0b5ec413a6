/- For every list of darts, of whatever numbers, the program's ScoreOf answers what the reference's answers, and the list stays as it was. (The pure statement behind the row: over numbers and lists alone.) -/
import Derived.Test.YtoaiajgbiaedfaaPAx11
import Derived.Test.YtoaiajgbiaedfaaLibA
namespace Go.Proofs.Ytoaiajgbiaedfaa.Pure
open Go.RowKit Go.Proofs.Ytoaiajgbiaedfaa.PA Go.Proofs.Ytoaiajgbiaedfaa.Lib Go.Proofs.YtoaiajgbiaedfaaW.PrintWords Go.Proofs.YtoaiajgbiaedfaaW.PrintLast

def sumFrom (a : Int) (l : List S58) : Int := l.foldl (fun a x => wrap64 (a + wrap64 (x.f0 * x.f1))) a
theorem daScore_l0 (l : List S58) (hl : l.length ≤ 4611686018427387904) (d : Nat) : ∀ (i : Nat) (a : Int), i + d = l.length → Ev (fun k => spec_daScore.l0 k a l (l.length : Int) (i : Int)) (sumFrom a (l.drop i)) := by
  induction d with
  | zero =>
    intro i a hi
    refine Ev.step (f := fun _ => some (sumFrom a (l.drop i))) (fun k => ?_) (Ev.now _)
    simp only [spec_daScore.l0]
    rw [if_neg (by omega), List.drop_of_length_le (by omega)]; rfl
  | succ d ih =>
    intro i a hi
    rw [List.drop_eq_getElem_cons (by omega)]
    refine Ev.step (fun k => ?_) (ih (i + 1) (wrap64 (a + wrap64 ((l[i]'(by omega)).f0 * (l[i]'(by omega)).f1))) (by omega))
    simp only [spec_daScore.l0]
    rw [if_pos (by omega), if_pos (by omega), if_pos (by omega), rd58 l i (by omega), w64s (by omega) hl]
theorem score_l0 (l : List S58) (hl : l.length ≤ 4611686018427387904) (d : Nat) : ∀ (i : Nat) (a : Int), i + d = l.length → Ev (fun k => impl_ScoreOf.l0 k a l (l.length : Int) (i : Int)) (sumFrom a (l.drop i), true) := by
  induction d with
  | zero =>
    intro i a hi
    refine Ev.step (f := fun _ => some (sumFrom a (l.drop i), true)) (fun k => ?_) (Ev.now _)
    simp only [impl_ScoreOf.l0]
    rw [if_neg (by omega), List.drop_of_length_le (by omega)]; rfl
  | succ d ih =>
    intro i a hi
    rw [List.drop_eq_getElem_cons (by omega)]
    refine Ev.step (fun k => ?_) (ih (i + 1) (wrap64 (a + wrap64 ((l[i]'(by omega)).f0 * (l[i]'(by omega)).f1))) (by omega))
    simp only [impl_ScoreOf.l0]
    rw [if_pos (by omega), if_pos (by omega), if_pos (by omega), rd58 l i (by omega), w64s (by omega) hl]
    simp only [impl_Dart_score.f, Option.bind_some]
def value (l : List S58) : Int × Bool := if decide (0 ≤ (l.length : Int) ∧ (l.length : Int) ≤ 9) && l.all good then (sumFrom 0 l, true) else (0, false)
theorem spec_value (l : List S58) (hl : l.length ≤ 4611686018427387904) : Ev (fun k => spec_ScoreOf.f k l) (value l) := by
  refine Ev.bind (daList l 0 9 hl) ?_
  unfold value
  by_cases h : (decide (0 ≤ (l.length : Int) ∧ (l.length : Int) ≤ 9) && l.all good) = true
  · rw [h, if_pos rfl]
    refine Ev.congr (fun k => if_pos rfl) (Ev.bind (Ev.congr (fun k => rfl) (daScore_l0 l hl l.length 0 0 (by omega))) ?_)
    rw [List.drop_zero]
    exact Ev.now _
  · rw [Bool.eq_false_iff.2 h]
    exact Ev.congr (fun k => by simp) (Ev.now _)
theorem impl_value (l : List S58) (hl : l.length ≤ 4611686018427387904) : Ev (fun k => impl_ScoreOf.f k l) (value l) := by
  unfold value
  by_cases h9 : (l.length : Int) > 9
  · refine Ev.congr (f := fun k => impl_ScoreOf.j0 k l true) (fun k => by unfold impl_ScoreOf.f; rw [if_pos h9]) ?_
    rw [show decide (0 ≤ (l.length : Int) ∧ (l.length : Int) ≤ 9) = false from decide_eq_false (by omega)]
    exact Ev.step (f := fun _ => _) (fun k => by simp only [impl_ScoreOf.j0, if_true, Bool.false_and, Bool.false_eq_true, if_false]) (Ev.now _)
  · refine Ev.congr (f := fun k => (impl_areDarts.f k l).bind fun t => impl_ScoreOf.j0 k l (!t)) (fun k => by unfold impl_ScoreOf.f; rw [if_neg h9]) (Ev.bind (areDarts l hl) ?_)
    rw [show decide (0 ≤ (l.length : Int) ∧ (l.length : Int) ≤ 9) = true from decide_eq_true (by omega), Bool.true_and]
    cases l.all good
    · exact Ev.step (f := fun _ => _) (fun k => by simp only [impl_ScoreOf.j0, Bool.not_false, if_true, Bool.false_eq_true, if_false]) (Ev.now _)
    · refine Ev.step (f := fun k => impl_ScoreOf.l0 k 0 l (l.length : Int) 0) (fun k => by simp only [impl_ScoreOf.j0, Bool.not_true, Bool.false_eq_true, if_false]) ?_
      simpa using score_l0 l hl l.length 0 0 (by omega)
theorem FnExactScoreOf : ∀ (l0 : List (S60)), (l0.length ≤ maxLen ∧ ∀ y_l0 ∈ l0, (Lit.int .i64 y_l0.f0).wf = true ∧ (Lit.int .i64 y_l0.f1).wf = true) → (l0.length * 16 ≤ 140737488351232) → ∃ k, laws_FnExactScoreOf.f k l0 = some true := by
  intro l hl hy
  refine Ev.rounds ?_
  have hl1 : l.length ≤ 8796093022207 := by omega
  refine Ev.bind (f := fun k t => _) (Ev.congr (fun k => sz l (by omega)) (Ev.now _)) ?_
  by_cases h : (l.length : Int) ≤ 1048576
  · rw [if_pos h]
    refine Ev.congr (fun k => if_neg (by omega)) ?_
    have hc : (l.map conv).length ≤ 4611686018427387904 := by rw [List.length_map]; omega
    refine Ev.bind (toDartS l (by omega)) (Ev.bind (spec_value _ hc) (Ev.bind (toDartS l (by omega)) (Ev.bind (impl_value _ hc) ?_)))
    refine Ev.congr (fun k => if_pos rfl) ?_
    rw [bne_self_eq_false]
    refine Ev.step (f := fun k => (laws_toDartS.f k l).bind fun t => (laws_eqDartS.f k (l.map conv) t).bind fun t2 => if t2 = true then some true else some false) (fun k => by simp only [laws_FnExactScoreOf.j0, Bool.false_eq_true, if_false]) (Ev.bind (toDartS l (by omega)) (Ev.bind (eqDartS _ hc) ?_))
    exact Ev.congr (fun k => if_pos rfl) (Ev.now _)
  · rw [if_neg h]
    exact Ev.congr (fun k => if_pos (by omega)) (Ev.now _)

end Go.Proofs.Ytoaiajgbiaedfaa.Pure
