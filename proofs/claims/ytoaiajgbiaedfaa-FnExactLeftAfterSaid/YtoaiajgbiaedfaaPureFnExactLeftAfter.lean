/- For every number left and every visit, of whatever numbers, the program's LeftAfter answers what the reference's answers, and the visit stays as it was. (The pure statement behind the row: over numbers and lists alone.) -/
import Derived.Test.YtoaiajgbiaedfaaPAx19
import Derived.Test.YtoaiajgbiaedfaaLibA
namespace Go.Proofs.Ytoaiajgbiaedfaa.Pure
open Go.RowKit Go.Proofs.Ytoaiajgbiaedfaa.PA Go.Proofs.Ytoaiajgbiaedfaa.Lib Go.Proofs.YtoaiajgbiaedfaaW.PrintWords Go.Proofs.YtoaiajgbiaedfaaW.PrintLast

/-- What a visit leaves, told on the list: what is left, is it bust, is nothing behind its end. -/
def vis (x0 : Int) : Int → List S58 → Int × Bool × Bool
  | now, [] => (now, false, true)
  | now, d :: r => if wrap64 (now - wrap64 (d.f0 * d.f1)) < 0 ∨ wrap64 (now - wrap64 (d.f0 * d.f1)) = 1 ∨ (wrap64 (now - wrap64 (d.f0 * d.f1)) = 0 ∧ d.f1 ≠ 2) then (x0, true, r.isEmpty)
    else if wrap64 (now - wrap64 (d.f0 * d.f1)) = 0 then (0, false, r.isEmpty) else vis x0 (wrap64 (now - wrap64 (d.f0 * d.f1))) r
def fixed (v : Int × Bool × Bool) : Int × Bool × Bool := if v.2.2 = true then (v.1, v.2.1, true) else (0, false, false)
theorem isLast (l : List S58) (hl : l.length ≤ 4611686018427387904) (i : Nat) (h : i < l.length) : ((i : Int) == wrap64 ((l.length : Int) - 1)) = (l.drop (i + 1)).isEmpty := by
  rw [w64 (by omega) (by omega)]
  by_cases e : i + 1 = l.length
  · rw [List.drop_of_length_le (by omega)]
    simp; omega
  · have h2 : ¬ (l.drop (i + 1)).isEmpty = true := by simp; omega
    rw [Bool.eq_false_iff.2 h2]
    simp; omega
theorem daVisit_l0 (x0 : Int) (l : List S58) (hl : l.length ≤ 4611686018427387904) (d : Nat) : ∀ (i : Nat) (now : Int), i + d = l.length → Ev (fun k => spec_daVisit.l0 k x0 l now l (l.length : Int) (i : Int)) (vis x0 now (l.drop i)) := by
  induction d with
  | zero =>
    intro i now hi
    refine Ev.step (f := fun _ => some (now, false, true)) (fun k => ?_) ?_
    · simp only [spec_daVisit.l0]
      rw [if_neg (by omega)]
    · rw [List.drop_of_length_le (by omega)]; exact Ev.now _
  | succ d ih =>
    intro i now hi
    rw [List.drop_eq_getElem_cons (by omega)]
    obtain ⟨x, hx⟩ : ∃ x, x = l[i]'(by omega) := ⟨_, rfl⟩
    obtain ⟨n, hn⟩ : ∃ n, n = wrap64 (now - wrap64 (x.f0 * x.f1)) := ⟨_, rfl⟩
    have hlast := isLast l hl i (by omega)
    unfold vis
    rw [← hx, ← hn]
    refine Ev.step (f := fun k => spec_daVisit.j1 k x0 l n ((l.drop (i + 1)).isEmpty) l (l.length : Int) (i : Int) (decide (n < 0 ∨ n = 1 ∨ (n = 0 ∧ x.f1 ≠ 2)))) (fun k => ?_) ?_
    · simp only [spec_daVisit.l0]
      rw [if_pos (by omega), if_pos (by omega), if_pos (by omega), rd58 l i (by omega), ← hx, ← hn, hlast]
      by_cases h1 : n < 0
      · rw [if_pos h1]; simp [h1]
      · rw [if_neg h1]
        by_cases h2 : n = 1
        · rw [if_pos h2]; simp [h2]
        · rw [if_neg h2]
          by_cases h3 : n = 0
          · rw [if_pos h3]; congr 1; simp [h3, bne]
            by_cases h4 : x.f1 = 2 <;> simp [h4]
          · rw [if_neg h3]; simp [h1, h2, h3]
    · by_cases hb : n < 0 ∨ n = 1 ∨ (n = 0 ∧ x.f1 ≠ 2)
      · rw [if_pos hb, decide_eq_true hb]
        exact Ev.step (f := fun _ => _) (fun k => by simp only [spec_daVisit.j1, if_true]) (Ev.now _)
      · rw [if_neg hb, decide_eq_false hb]
        by_cases h0 : n = 0
        · rw [if_pos h0]
          exact Ev.step (f := fun _ => _) (fun k => by simp only [spec_daVisit.j1, Bool.false_eq_true, if_false, if_pos h0]) (Ev.now _)
        · rw [if_neg h0]
          refine Ev.step (fun k => ?_) (ih (i + 1) n (by omega))
          simp only [spec_daVisit.j1, Bool.false_eq_true, if_false, if_neg h0]
          rw [w64s (by omega) hl]
theorem visitLeaves_l0 (x0 : Int) (l : List S58) (hl : l.length ≤ 4611686018427387904) (d : Nat) : ∀ (i : Nat) (now : Int), i + d = l.length → Ev (fun k => impl_visitLeaves.l0 k x0 l now l (l.length : Int) (i : Int)) (fixed (vis x0 now (l.drop i))) := by
  induction d with
  | zero =>
    intro i now hi
    refine Ev.step (f := fun _ => some (now, false, true)) (fun k => ?_) ?_
    · simp only [impl_visitLeaves.l0]
      rw [if_neg (by omega)]
    · rw [List.drop_of_length_le (by omega)]; exact Ev.now _
  | succ d ih =>
    intro i now hi
    rw [List.drop_eq_getElem_cons (by omega)]
    obtain ⟨x, hx⟩ : ∃ x, x = l[i]'(by omega) := ⟨_, rfl⟩
    obtain ⟨n, hn⟩ : ∃ n, n = wrap64 (now - wrap64 (x.f0 * x.f1)) := ⟨_, rfl⟩
    have hlast : decide ((i : Int) < wrap64 ((l.length : Int) - 1)) = !(l.drop (i + 1)).isEmpty := by
      rw [w64 (by omega) (by omega)]
      by_cases e : i + 1 = l.length
      · rw [List.drop_of_length_le (by omega)]
        simp; omega
      · have h2 : ¬ (l.drop (i + 1)).isEmpty = true := by simp; omega
        rw [Bool.eq_false_iff.2 h2]
        simp; omega
    unfold vis
    rw [← hx, ← hn]
    refine Ev.step (f := fun k => impl_visitLeaves.j2 k x0 l n (i : Int) (decide (n = 0 ∧ x.f1 = 2)) l (l.length : Int) (i : Int)) (fun k => ?_) ?_
    · simp only [impl_visitLeaves.l0]
      rw [if_pos (by omega), if_pos (by omega), if_pos (by omega), rd58 l i (by omega), ← hx]
      simp only [impl_Dart_score.f, Option.bind_some]
      rw [← hn]
      by_cases h3 : n = 0
      · rw [if_pos h3]; congr 1
        by_cases h4 : x.f1 = 2 <;> simp [h3, h4]
      · rw [if_neg h3]; simp [h3]
    · refine Ev.step (f := fun k => impl_visitLeaves.j3 k x0 l n (i : Int) (decide (n = 0 ∧ x.f1 = 2)) (decide (n < 0 ∨ n = 1 ∨ (n = 0 ∧ x.f1 ≠ 2))) l (l.length : Int) (i : Int)) (fun k => ?_) ?_
      · simp only [impl_visitLeaves.j2]
        by_cases h1 : n < 0
        · rw [if_pos h1]; simp [h1]
        · rw [if_neg h1]
          by_cases h2 : n = 1
          · rw [if_pos h2]; simp [h2]
          · rw [if_neg h2]
            by_cases h3 : n = 0
            · rw [if_pos h3]; congr 1
              by_cases h4 : x.f1 = 2 <;> simp [h3, h4]
            · rw [if_neg h3]; simp [h1, h2, h3]
      · refine Ev.step (f := fun k => impl_visitLeaves.j4 k x0 l n (decide (n < 0 ∨ n = 1 ∨ (n = 0 ∧ x.f1 ≠ 2))) l (l.length : Int) (i : Int) (if n < 0 ∨ n = 1 ∨ n = 0 then !(l.drop (i + 1)).isEmpty else false)) (fun k => ?_) ?_
        · simp only [impl_visitLeaves.j3]
          rw [hlast]
          by_cases ho : n = 0 ∧ x.f1 = 2
          · rw [decide_eq_true ho, if_pos rfl, if_pos (.inr (.inr ho.1))]
          · rw [decide_eq_false ho, if_neg (by simp)]
            by_cases hb : n < 0 ∨ n = 1 ∨ (n = 0 ∧ x.f1 ≠ 2)
            · rw [decide_eq_true hb, if_pos rfl, if_pos (hb.imp_right (Or.imp_right And.left))]
            · rw [decide_eq_false hb, if_neg (by simp), if_neg ?_]
              intro h
              rcases h with h | h | h
              · exact hb (.inl h)
              · exact hb (.inr (.inl h))
              · by_cases h4 : x.f1 = 2
                · exact ho ⟨h, h4⟩
                · exact hb (.inr (.inr ⟨h, h4⟩))
        · by_cases hb : n < 0 ∨ n = 1 ∨ (n = 0 ∧ x.f1 ≠ 2)
          · rw [if_pos hb, decide_eq_true hb, if_pos (hb.imp_right (Or.imp_right And.left))]
            cases (l.drop (i + 1)).isEmpty
            · exact Ev.step (f := fun _ => _) (fun k => by simp only [impl_visitLeaves.j4, Bool.not_false, if_true]; rfl) (Ev.now _)
            · exact Ev.step (f := fun _ => _) (fun k => by simp only [impl_visitLeaves.j4, Bool.not_true, Bool.false_eq_true, if_false, if_true]; rfl) (Ev.now _)
          · rw [if_neg hb, decide_eq_false hb]
            by_cases h0 : n = 0
            · rw [if_pos h0, if_pos (.inr (.inr h0))]
              cases he : (l.drop (i + 1)).isEmpty
              · exact Ev.step (f := fun _ => _) (fun k => by simp only [impl_visitLeaves.j4, Bool.not_false, if_true]; rfl) (Ev.now _)
              · have hi2 := ih (i + 1) n (by omega)
                rw [List.isEmpty_iff.1 he] at hi2
                have e2 : fixed (vis x0 n []) = fixed (0, false, true) := by rw [h0]; rfl
                rw [e2] at hi2
                refine Ev.step (fun k => ?_) hi2
                simp only [impl_visitLeaves.j4, Bool.not_true, Bool.false_eq_true, if_false]
                rw [w64s (by omega) hl]
            · rw [if_neg h0, if_neg (fun h => h.elim (fun h => hb (.inl h)) (fun h => h.elim (fun h => hb (.inr (.inl h))) h0))]
              refine Ev.step (fun k => ?_) (ih (i + 1) n (by omega))
              simp only [impl_visitLeaves.j4, Bool.false_eq_true, if_false]
              rw [w64s (by omega) hl]
def asked (a : Int) (l : List S58) : Bool := decide (1 ≤ a ∧ a ≤ 1001) && (decide (1 ≤ (l.length : Int) ∧ (l.length : Int) ≤ 3) && l.all good)
theorem daAsked (a : Int) (l : List S58) (hl : l.length ≤ 4611686018427387904) : Ev (fun k => spec_daAsked.f k a l) (asked a l) := by
  unfold asked
  by_cases h : 1 ≤ a ∧ a ≤ 1001
  · rw [decide_eq_true h, Bool.true_and]
    refine Ev.congr (f := fun k => (spec_daList.f k l 1 3).bind some) (fun k => by unfold spec_daAsked.f; rw [in_eq, decide_eq_true h]; rfl) (Ev.bind (daList l 1 3 hl) (Ev.now _))
  · rw [decide_eq_false h, Bool.false_and]
    exact Ev.congr (f := fun _ => some false) (fun k => by unfold spec_daAsked.f; rw [in_eq, decide_eq_false h]; rfl) (Ev.now _)
theorem daVisit (a : Int) (l : List S58) (hl : l.length ≤ 4611686018427387904) : Ev (fun k => spec_daVisit.f k a l) (vis a a l) := by
  have := daVisit_l0 a l hl l.length 0 a (by omega)
  rw [List.drop_zero] at this
  exact Ev.congr (fun k => rfl) this
theorem visitLeaves (a : Int) (l : List S58) (hl : l.length ≤ 4611686018427387904) : Ev (fun k => impl_visitLeaves.f k a l) (if asked a l = true then fixed (vis a a l) else (0, false, false)) := by
  have hno : Ev (fun k => impl_visitLeaves.j0 k a l true) (0, false, false) := Ev.step (f := fun _ => _) (fun k => by simp only [impl_visitLeaves.j0, if_true]) (Ev.now _)
  unfold asked
  by_cases h : 1 ≤ a ∧ a ≤ 1001
  · rw [decide_eq_true h, Bool.true_and]
    by_cases h2 : 1 ≤ (l.length : Int) ∧ (l.length : Int) ≤ 3
    · rw [decide_eq_true h2, Bool.true_and]
      refine Ev.congr (f := fun k => (impl_areDarts.f k l).bind fun t => impl_visitLeaves.j0 k a l (!t)) (fun k => by unfold impl_visitLeaves.f; rw [within_eq, decide_eq_true h]; simp only [Option.bind_some, if_true]; rw [within_eq, decide_eq_true h2]; simp only [Option.bind_some, if_true]) (Ev.bind (areDarts l hl) ?_)
      cases l.all good
      · simpa using hno
      · refine Ev.step (f := fun k => impl_visitLeaves.l0 k a l a l (l.length : Int) 0) (fun k => by simp only [impl_visitLeaves.j0, Bool.not_true, Bool.false_eq_true, if_false]) ?_
        have := visitLeaves_l0 a l hl l.length 0 a (by omega)
        rw [List.drop_zero] at this
        simpa using this
    · rw [decide_eq_false h2, Bool.false_and]
      exact Ev.congr (f := fun k => impl_visitLeaves.j0 k a l true) (fun k => by unfold impl_visitLeaves.f; rw [within_eq, decide_eq_true h]; simp only [Option.bind_some, if_true]; rw [within_eq, decide_eq_false h2]; simp) hno
  · rw [decide_eq_false h, Bool.false_and]
    exact Ev.congr (f := fun k => impl_visitLeaves.j0 k a l true) (fun k => by unfold impl_visitLeaves.f; rw [within_eq, decide_eq_false h]; simp) hno
def value (a : Int) (l : List S58) : Int × Bool := if asked a l = true then (if (vis a a l).2.2 = true then ((vis a a l).1, true) else (0, false)) else (0, false)
theorem spec_v (a : Int) (l : List S58) (hl : l.length ≤ 4611686018427387904) : Ev (fun k => spec_LeftAfter.f k a l) (value a l) := by
  refine Ev.bind (daAsked a l hl) ?_
  unfold value
  by_cases h : asked a l = true
  · rw [h, if_pos rfl]
    refine Ev.congr (fun k => if_pos rfl) (Ev.bind (daVisit a l hl) ?_)
    split
    · exact Ev.congr (fun k => rfl) (Ev.now _)
    · exact Ev.congr (fun k => rfl) (Ev.now _)
  · rw [Bool.eq_false_iff.2 h]
    exact Ev.congr (fun k => rfl) (Ev.now _)
theorem impl_v (a : Int) (l : List S58) (hl : l.length ≤ 4611686018427387904) : Ev (fun k => impl_LeftAfter.f k a l) (value a l) := by
  refine Ev.bind (visitLeaves a l hl) ?_
  refine Ev.congr (f := fun _ => some (value a l)) (fun k => ?_) (Ev.now _)
  unfold value
  by_cases h : asked a l = true
  · rw [if_pos h, if_pos h]
    unfold fixed
    by_cases h2 : (vis a a l).2.2 = true
    · rw [if_pos h2, if_pos h2]
    · rw [if_neg h2, if_neg h2]
  · rw [if_neg h, if_neg h]
theorem FnExactLeftAfter : ∀ (a0 : Int) (l1 : List (S60)), ((Lit.int .i64 a0).wf = true) → (l1.length ≤ maxLen ∧ ∀ y_l1 ∈ l1, (Lit.int .i64 y_l1.f0).wf = true ∧ (Lit.int .i64 y_l1.f1).wf = true) → (l1.length * 16 ≤ 140737488351232) → ∃ k, laws_FnExactLeftAfter.f k a0 l1 = some true := by
  intro a l ha hl hy
  refine Ev.rounds ?_
  have hl1 : l.length ≤ 8796093022207 := by omega
  refine Ev.bind (f := fun k t => _) (Ev.congr (fun k => sz l (by omega)) (Ev.now _)) ?_
  by_cases h : (l.length : Int) ≤ 1048576
  · rw [if_pos h]
    refine Ev.congr (fun k => if_neg (by omega)) ?_
    have hc : (l.map conv).length ≤ 4611686018427387904 := by rw [List.length_map]; omega
    have hend : Ev (fun k => laws_FnExactLeftAfter.j0 k l (l.map conv) false) true := by
      refine Ev.step (f := fun k => (laws_toDartS.f k l).bind fun t => (laws_eqDartS.f k (l.map conv) t).bind fun t2 => if t2 = true then some true else some false) (fun k => by simp only [laws_FnExactLeftAfter.j0, Bool.false_eq_true, if_false]) (Ev.bind (toDartS l (by omega)) (Ev.bind (eqDartS _ hc) ?_))
      exact Ev.congr (fun k => if_pos rfl) (Ev.now _)
    refine Ev.bind (toDartS l (by omega)) (Ev.bind (spec_v a _ hc) (Ev.bind (toDartS l (by omega)) (Ev.bind (impl_v a _ hc) ?_)))
    generalize value a (l.map conv) = v
    refine Ev.congr (fun k => if_pos rfl) ?_
    rw [bne_self_eq_false]
    exact hend
  · rw [if_neg h]
    exact Ev.congr (fun k => if_pos (by omega)) (Ev.now _)

end Go.Proofs.Ytoaiajgbiaedfaa.Pure
