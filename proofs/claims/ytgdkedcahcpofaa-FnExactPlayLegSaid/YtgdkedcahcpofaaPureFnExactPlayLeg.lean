/- For every number left and all visits, the program's PlayLeg answers what the reference's answers, in its own memory, and the visits stay as they were. (The pure statement behind the row: over numbers and lists alone.) -/
import Derived.Test.YtgdkedcahcpofaaPAx22
import Derived.KernelRfl
import Derived.Laws.Strings
set_option linter.unusedSimpArgs false
set_option linter.unusedVariables false
namespace Go.Proofs.Ytgdkedcahcpofaa.Pure
open Go.RowKit Go.Proofs.Ytgdkedcahcpofaa.PA Go.Proofs.YtgdkedcahcpofaaW.PrintWords Go.Proofs.YtgdkedcahcpofaaW.PrintLast Go.Proofs.YtgdkedcahcpofaaW.PrintMore

theorem w64 {i : Int} (h0 : -9223372036854775808 ≤ i) (h : i ≤ 9223372036854775807) : wrap64 i = i := by unfold wrap64; omega
theorem w64s {i n : Nat} (h : i < n) (hn : n ≤ 4611686018427387904) : wrap64 ((i : Int) + 1) = ((i + 1 : Nat) : Int) := by rw [w64 (by omega) (by omega)]; omega
theorem rd49 (l : List S49) (i : Nat) (h : i < l.length) : rd_T49 l (i : Int) = l[i] := by simp [rd_T49, List.getD, h]

theorem in_eq (a b c : Int) : spec_l1In.f a b c = some (decide (b ≤ a ∧ a ≤ c)) := by
  unfold spec_l1In.f; by_cases h : b ≤ a <;> simp [h]
theorem within_eq (a b c : Int) : impl_within.f a b c = some (decide (b ≤ a ∧ a ≤ c)) := by
  unfold impl_within.f; by_cases h : b ≤ a <;> simp [h]
def conv (x : S51) : S49 := ⟨x.f0, x.f1⟩
theorem rd51 (l : List S51) (i : Nat) (h : i < l.length) : rd_T51 l (i : Int) = l[i] := by simp [rd_T51, List.getD, h]
theorem toDartS_l0 (l : List S51) (hl : l.length ≤ 4611686018427387904) (d : Nat) : ∀ i : Nat, i + d = l.length →
    Ev (fun k => laws_toDartS.l0 k l ((l.take i).map conv ++ List.replicate d z49) (i : Int)) (l.map conv) := by
  induction d with
  | zero =>
    intro i hi
    refine Ev.step (f := fun _ => some (l.map conv)) (fun k => ?_) (Ev.now _)
    simp only [laws_toDartS.l0]
    rw [if_neg (by omega), List.take_of_length_le (by omega)]
    simp
  | succ d ih =>
    intro i hi
    refine Ev.step (f := fun k => laws_toDartS.l0 k l ((l.take (i + 1)).map conv ++ List.replicate d z49) ((i + 1 : Nat) : Int)) (fun k => ?_) (ih (i + 1) (by omega))
    simp only [laws_toDartS.l0]
    rw [if_pos (by omega), if_pos (by omega)]
    simp only [laws_toDart.f, Option.bind_some]
    rw [if_pos (by simp; omega), w64s (by omega) hl]
    congr 1
    rw [Int.toNat_natCast, List.replicate_succ, List.set_append_right _ _ (by simp; omega), List.take_succ_eq_append_getElem (by omega)]
    simp only [List.length_map, List.length_take, List.map_append, List.map_cons, List.map_nil, List.append_assoc, List.cons_append, List.nil_append]
    rw [show i - min i l.length = 0 by omega, List.set_cons_zero, rd51 l i (by omega)]
    rfl
theorem toDartS (l : List S51) (hl : l.length ≤ 17592186044416) : Ev (fun k => laws_toDartS.f k l) (l.map conv) := by
  have h := toDartS_l0 l (by omega) l.length 0 (by omega)
  refine Ev.congr (fun k => ?_) h
  unfold laws_toDartS.f
  rw [if_pos (by omega), if_pos (by simpa using hl)]
  simp
theorem eqDartS_l0 (l : List S49) (hl : l.length ≤ 4611686018427387904) (d : Nat) : ∀ i : Nat, i + d = l.length → Ev (fun k => laws_eqDartS.l0 k l l (i : Int)) true := by
  induction d with
  | zero =>
    intro i hi
    refine Ev.step (f := fun _ => some true) (fun k => ?_) (Ev.now _)
    simp only [laws_eqDartS.l0]
    rw [if_neg (by omega)]
  | succ d ih =>
    intro i hi
    refine Ev.step (f := fun k => laws_eqDartS.l0 k l l ((i + 1 : Nat) : Int)) (fun k => ?_) (ih (i + 1) (by omega))
    simp only [laws_eqDartS.l0]
    rw [if_pos (by omega), if_pos (by omega), if_pos (by omega)]
    simp only [laws_eqDart.f, if_true, Option.bind_some]
    rw [w64s (by omega) hl]
theorem eqDartS (l : List S49) (hl : l.length ≤ 4611686018427387904) : Ev (fun k => laws_eqDartS.f k l l) true := by
  refine Ev.congr (fun k => ?_) (eqDartS_l0 l hl l.length 0 (by omega))
  unfold laws_eqDartS.f
  rw [if_pos rfl]; rfl

/-- A dart, told as the reference tells it. -/
def good (x : S49) : Bool := if x.f0 = 25 then decide (1 ≤ x.f1 ∧ x.f1 ≤ 2) else decide ((1 ≤ x.f0 ∧ x.f0 ≤ 20) ∧ 1 ≤ x.f1 ∧ x.f1 ≤ 3)
theorem daGood (a b : Int) : spec_daGood.f a b = some (good ⟨a, b⟩) := by
  simp only [spec_daGood.f, good, in_eq, Option.bind_some]
  by_cases h : a = 25
  · simp [h]
  · by_cases h1 : 1 ≤ a ∧ a ≤ 20
    · simp [h, h1]
    · simp only [h, h1, if_false, decide_false, Bool.false_eq_true, false_and]
theorem isDart (a b : Int) : impl_IsDart.f a b = some (good ⟨a, b⟩) := by
  simp only [impl_IsDart.f, good, within_eq, Option.bind_some]
  by_cases h : a = 25
  · subst h; simp
  · by_cases h1 : 1 ≤ a ∧ a ≤ 20
    · by_cases h2 : 1 ≤ b ∧ b ≤ 3
      · simp [h, h1, h2]
      · simp [h, h1, h2]
    · simp only [h, h1, if_false, decide_false, Bool.false_eq_true, false_and]
theorem indexFunc_l0 (l : List S49) (hl : l.length ≤ 4611686018427387904) (d : Nat) : ∀ i : Nat, i + d = l.length → ∃ r : Int, Ev (fun k => impl_Dart_33.l0 k l (l.length : Int) (i : Int)) r ∧ (r ≥ 0 ↔ (l.drop i).all good = false) := by
  induction d with
  | zero =>
    intro i hi
    refine ⟨-1, Ev.step (f := fun _ => some (-1)) (fun k => ?_) (Ev.now _), ?_⟩
    · simp only [impl_Dart_33.l0]
      rw [if_neg (by omega)]
    · rw [List.drop_of_length_le (by omega)]; simp
  | succ d ih =>
    intro i hi
    obtain ⟨r, hr, hr2⟩ := ih (i + 1) (by omega)
    have hd : l.drop i = l[i]'(by omega) :: l.drop (i + 1) := List.drop_eq_getElem_cons (by omega)
    have hs : ∀ k, impl_Dart_33.l0 (k + 1) l (l.length : Int) (i : Int) = if good (l[i]'(by omega)) = true then impl_Dart_33.l0 k l (l.length : Int) ((i + 1 : Nat) : Int) else some (i : Int) := by
      intro k
      simp only [impl_Dart_33.l0]
      rw [if_pos (by omega), if_pos (by omega), if_pos (by omega), rd49 l i (by omega), w64s (by omega) hl]
      simp only [impl_areDarts_1.f, isDart, Option.bind_some]
      cases good (l[i]'(by omega)) <;> simp
    by_cases hg : good (l[i]'(by omega)) = true
    · refine ⟨r, Ev.step (fun k => by rw [hs, if_pos hg]) hr, ?_⟩
      rw [hr2, hd, List.all_cons, hg, Bool.true_and]
    · refine ⟨i, Ev.step (fun k => by rw [hs, if_neg hg]) (Ev.now _), ?_⟩
      rw [hd, List.all_cons, Bool.eq_false_iff.2 hg, Bool.false_and]
      simp
theorem areDarts (l : List S49) (hl : l.length ≤ 4611686018427387904) : Ev (fun k => impl_areDarts.f k l) (l.all good) := by
  obtain ⟨r, hr, hr2⟩ := indexFunc_l0 l hl l.length 0 (by omega)
  refine Ev.bind (a := !(l.all good)) ?_ ?_
  · refine Ev.bind (a := r) (Ev.congr (fun k => rfl) hr) ?_
    refine Ev.congr (fun k => ?_) (Ev.now _)
    rw [List.drop_zero] at hr2
    cases h : l.all good <;> simp_all
  · exact Ev.congr (fun k => by simp) (Ev.now _)
theorem daList_l0 (l : List S49) (hl : l.length ≤ 4611686018427387904) (d : Nat) : ∀ i : Nat, i + d = l.length → Ev (fun k => spec_daList.l0 k l (l.length : Int) (i : Int)) ((l.drop i).all good) := by
  induction d with
  | zero =>
    intro i hi
    refine Ev.step (f := fun _ => some ((l.drop i).all good)) (fun k => ?_) (Ev.now _)
    simp only [spec_daList.l0]
    rw [if_neg (by omega), List.drop_of_length_le (by omega)]
    simp
  | succ d ih =>
    intro i hi
    have hd : l.drop i = l[i]'(by omega) :: l.drop (i + 1) := List.drop_eq_getElem_cons (by omega)
    have hs : ∀ k, spec_daList.l0 (k + 1) l (l.length : Int) (i : Int) = if good (l[i]'(by omega)) = true then spec_daList.l0 k l (l.length : Int) ((i + 1 : Nat) : Int) else some false := by
      intro k
      simp only [spec_daList.l0]
      rw [if_pos (by omega), if_pos (by omega), if_pos (by omega), rd49 l i (by omega), w64s (by omega) hl]
      simp only [daGood, Option.bind_some]
    rw [hd, List.all_cons]
    by_cases hg : good (l[i]'(by omega)) = true
    · rw [hg, Bool.true_and]
      exact Ev.step (fun k => by rw [hs, if_pos hg]) (ih (i + 1) (by omega))
    · rw [Bool.eq_false_iff.2 hg, Bool.false_and]
      exact Ev.step (fun k => by rw [hs, if_neg hg]) (Ev.now _)
theorem daList (l : List S49) (lo hi : Int) (hl : l.length ≤ 4611686018427387904) : Ev (fun k => spec_daList.f k l lo hi) (decide (lo ≤ (l.length : Int) ∧ (l.length : Int) ≤ hi) && l.all good) := by
  by_cases h : lo ≤ (l.length : Int) ∧ (l.length : Int) ≤ hi
  · refine Ev.congr (fun k => ?_) (by simpa [h] using daList_l0 l hl l.length 0 (by omega))
    simp [spec_daList.f, in_eq, h]
  · refine Ev.congr (fun k => ?_) (Ev.now _)
    simp [spec_daList.f, in_eq, h]
/-- What a visit leaves, told on the list: what is left, is it bust, is nothing behind its end. -/
def vis (x0 : Int) : Int → List S49 → Int × Bool × Bool
  | now, [] => (now, false, true)
  | now, d :: r => if wrap64 (now - wrap64 (d.f0 * d.f1)) < 0 ∨ wrap64 (now - wrap64 (d.f0 * d.f1)) = 1 ∨ (wrap64 (now - wrap64 (d.f0 * d.f1)) = 0 ∧ d.f1 ≠ 2) then (x0, true, r.isEmpty)
    else if wrap64 (now - wrap64 (d.f0 * d.f1)) = 0 then (0, false, r.isEmpty) else vis x0 (wrap64 (now - wrap64 (d.f0 * d.f1))) r
def fixed (v : Int × Bool × Bool) : Int × Bool × Bool := if v.2.2 = true then (v.1, v.2.1, true) else (0, false, false)
theorem isLast (l : List S49) (hl : l.length ≤ 4611686018427387904) (i : Nat) (h : i < l.length) : ((i : Int) == wrap64 ((l.length : Int) - 1)) = (l.drop (i + 1)).isEmpty := by
  rw [w64 (by omega) (by omega)]
  by_cases e : i + 1 = l.length
  · rw [List.drop_of_length_le (by omega)]
    simp; omega
  · have h2 : ¬ (l.drop (i + 1)).isEmpty = true := by simp; omega
    rw [Bool.eq_false_iff.2 h2]
    simp; omega
theorem daVisit_l0 (x0 : Int) (l : List S49) (hl : l.length ≤ 4611686018427387904) (d : Nat) : ∀ (i : Nat) (now : Int), i + d = l.length → Ev (fun k => spec_daVisit.l0 k x0 l now l (l.length : Int) (i : Int)) (vis x0 now (l.drop i)) := by
  induction d with
  | zero =>
    intro i now hi
    refine Ev.step (f := fun _ => some (now, false, true)) (fun k => ?_) ?_
    · simp only [spec_daVisit.l0]
      rw [if_neg (by omega)]
    · rw [List.drop_of_length_le (by omega)]; exact Ev.now _
  | succ d ih =>
    intro i now hi
    rw [List.drop_eq_getElem_cons (by omega)]
    obtain ⟨x, hx⟩ : ∃ x, x = l[i]'(by omega) := ⟨_, rfl⟩
    obtain ⟨n, hn⟩ : ∃ n, n = wrap64 (now - wrap64 (x.f0 * x.f1)) := ⟨_, rfl⟩
    have hlast := isLast l hl i (by omega)
    unfold vis
    rw [← hx, ← hn]
    refine Ev.step (f := fun k => spec_daVisit.j1 k x0 l n ((l.drop (i + 1)).isEmpty) l (l.length : Int) (i : Int) (decide (n < 0 ∨ n = 1 ∨ (n = 0 ∧ x.f1 ≠ 2)))) (fun k => ?_) ?_
    · simp only [spec_daVisit.l0]
      rw [if_pos (by omega), if_pos (by omega), if_pos (by omega), rd49 l i (by omega), ← hx, ← hn, hlast]
      by_cases h1 : n < 0
      · rw [if_pos h1]; simp [h1]
      · rw [if_neg h1]
        by_cases h2 : n = 1
        · rw [if_pos h2]; simp [h2]
        · rw [if_neg h2]
          by_cases h3 : n = 0
          · rw [if_pos h3]; congr 1; simp [h3, bne]
            by_cases h4 : x.f1 = 2 <;> simp [h4]
          · rw [if_neg h3]; simp [h1, h2, h3]
    · by_cases hb : n < 0 ∨ n = 1 ∨ (n = 0 ∧ x.f1 ≠ 2)
      · rw [if_pos hb, decide_eq_true hb]
        exact Ev.step (f := fun _ => _) (fun k => by simp only [spec_daVisit.j1, if_true]) (Ev.now _)
      · rw [if_neg hb, decide_eq_false hb]
        by_cases h0 : n = 0
        · rw [if_pos h0]
          exact Ev.step (f := fun _ => _) (fun k => by simp only [spec_daVisit.j1, Bool.false_eq_true, if_false, if_pos h0]) (Ev.now _)
        · rw [if_neg h0]
          refine Ev.step (fun k => ?_) (ih (i + 1) n (by omega))
          simp only [spec_daVisit.j1, Bool.false_eq_true, if_false, if_neg h0]
          rw [w64s (by omega) hl]
theorem visitLeaves_l0 (x0 : Int) (l : List S49) (hl : l.length ≤ 4611686018427387904) (d : Nat) : ∀ (i : Nat) (now : Int), i + d = l.length → Ev (fun k => impl_visitLeaves.l0 k x0 l now l (l.length : Int) (i : Int)) (fixed (vis x0 now (l.drop i))) := by
  induction d with
  | zero =>
    intro i now hi
    refine Ev.step (f := fun _ => some (now, false, true)) (fun k => ?_) ?_
    · simp only [impl_visitLeaves.l0]
      rw [if_neg (by omega)]
    · rw [List.drop_of_length_le (by omega)]; exact Ev.now _
  | succ d ih =>
    intro i now hi
    rw [List.drop_eq_getElem_cons (by omega)]
    obtain ⟨x, hx⟩ : ∃ x, x = l[i]'(by omega) := ⟨_, rfl⟩
    obtain ⟨n, hn⟩ : ∃ n, n = wrap64 (now - wrap64 (x.f0 * x.f1)) := ⟨_, rfl⟩
    have hlast : decide ((i : Int) < wrap64 ((l.length : Int) - 1)) = !(l.drop (i + 1)).isEmpty := by
      rw [w64 (by omega) (by omega)]
      by_cases e : i + 1 = l.length
      · rw [List.drop_of_length_le (by omega)]
        simp; omega
      · have h2 : ¬ (l.drop (i + 1)).isEmpty = true := by simp; omega
        rw [Bool.eq_false_iff.2 h2]
        simp; omega
    unfold vis
    rw [← hx, ← hn]
    refine Ev.step (f := fun k => impl_visitLeaves.j2 k x0 l n (i : Int) (decide (n = 0 ∧ x.f1 = 2)) l (l.length : Int) (i : Int)) (fun k => ?_) ?_
    · simp only [impl_visitLeaves.l0]
      rw [if_pos (by omega), if_pos (by omega), if_pos (by omega), rd49 l i (by omega), ← hx]
      simp only [impl_Dart_score.f, Option.bind_some]
      rw [← hn]
      by_cases h3 : n = 0
      · rw [if_pos h3]; congr 1
        by_cases h4 : x.f1 = 2 <;> simp [h3, h4]
      · rw [if_neg h3]; simp [h3]
    · refine Ev.step (f := fun k => impl_visitLeaves.j3 k x0 l n (i : Int) (decide (n = 0 ∧ x.f1 = 2)) (decide (n < 0 ∨ n = 1 ∨ (n = 0 ∧ x.f1 ≠ 2))) l (l.length : Int) (i : Int)) (fun k => ?_) ?_
      · simp only [impl_visitLeaves.j2]
        by_cases h1 : n < 0
        · rw [if_pos h1]; simp [h1]
        · rw [if_neg h1]
          by_cases h2 : n = 1
          · rw [if_pos h2]; simp [h2]
          · rw [if_neg h2]
            by_cases h3 : n = 0
            · rw [if_pos h3]; congr 1
              by_cases h4 : x.f1 = 2 <;> simp [h3, h4]
            · rw [if_neg h3]; simp [h1, h2, h3]
      · refine Ev.step (f := fun k => impl_visitLeaves.j4 k x0 l n (decide (n < 0 ∨ n = 1 ∨ (n = 0 ∧ x.f1 ≠ 2))) l (l.length : Int) (i : Int) (if n < 0 ∨ n = 1 ∨ n = 0 then !(l.drop (i + 1)).isEmpty else false)) (fun k => ?_) ?_
        · simp only [impl_visitLeaves.j3]
          rw [hlast]
          by_cases ho : n = 0 ∧ x.f1 = 2
          · rw [decide_eq_true ho, if_pos rfl, if_pos (.inr (.inr ho.1))]
          · rw [decide_eq_false ho, if_neg (by simp)]
            by_cases hb : n < 0 ∨ n = 1 ∨ (n = 0 ∧ x.f1 ≠ 2)
            · rw [decide_eq_true hb, if_pos rfl, if_pos (hb.imp_right (Or.imp_right And.left))]
            · rw [decide_eq_false hb, if_neg (by simp), if_neg ?_]
              intro h
              rcases h with h | h | h
              · exact hb (.inl h)
              · exact hb (.inr (.inl h))
              · by_cases h4 : x.f1 = 2
                · exact ho ⟨h, h4⟩
                · exact hb (.inr (.inr ⟨h, h4⟩))
        · by_cases hb : n < 0 ∨ n = 1 ∨ (n = 0 ∧ x.f1 ≠ 2)
          · rw [if_pos hb, decide_eq_true hb, if_pos (hb.imp_right (Or.imp_right And.left))]
            cases (l.drop (i + 1)).isEmpty
            · exact Ev.step (f := fun _ => _) (fun k => by simp only [impl_visitLeaves.j4, Bool.not_false, if_true]; rfl) (Ev.now _)
            · exact Ev.step (f := fun _ => _) (fun k => by simp only [impl_visitLeaves.j4, Bool.not_true, Bool.false_eq_true, if_false, if_true]; rfl) (Ev.now _)
          · rw [if_neg hb, decide_eq_false hb]
            by_cases h0 : n = 0
            · rw [if_pos h0, if_pos (.inr (.inr h0))]
              cases he : (l.drop (i + 1)).isEmpty
              · exact Ev.step (f := fun _ => _) (fun k => by simp only [impl_visitLeaves.j4, Bool.not_false, if_true]; rfl) (Ev.now _)
              · have hi2 := ih (i + 1) n (by omega)
                rw [List.isEmpty_iff.1 he] at hi2
                have e2 : fixed (vis x0 n []) = fixed (0, false, true) := by rw [h0]; rfl
                rw [e2] at hi2
                refine Ev.step (fun k => ?_) hi2
                simp only [impl_visitLeaves.j4, Bool.not_true, Bool.false_eq_true, if_false]
                rw [w64s (by omega) hl]
            · rw [if_neg h0, if_neg (fun h => h.elim (fun h => hb (.inl h)) (fun h => h.elim (fun h => hb (.inr (.inl h))) h0))]
              refine Ev.step (fun k => ?_) (ih (i + 1) n (by omega))
              simp only [impl_visitLeaves.j4, Bool.false_eq_true, if_false]
              rw [w64s (by omega) hl]
def asked (a : Int) (l : List S49) : Bool := decide (1 ≤ a ∧ a ≤ 1001) && (decide (1 ≤ (l.length : Int) ∧ (l.length : Int) ≤ 3) && l.all good)
theorem daAsked (a : Int) (l : List S49) (hl : l.length ≤ 4611686018427387904) : Ev (fun k => spec_daAsked.f k a l) (asked a l) := by
  unfold asked
  by_cases h : 1 ≤ a ∧ a ≤ 1001
  · rw [decide_eq_true h, Bool.true_and]
    refine Ev.congr (f := fun k => (spec_daList.f k l 1 3).bind some) (fun k => by unfold spec_daAsked.f; rw [in_eq, decide_eq_true h]; rfl) (Ev.bind (daList l 1 3 hl) (Ev.now _))
  · rw [decide_eq_false h, Bool.false_and]
    exact Ev.congr (f := fun _ => some false) (fun k => by unfold spec_daAsked.f; rw [in_eq, decide_eq_false h]; rfl) (Ev.now _)
theorem daVisit (a : Int) (l : List S49) (hl : l.length ≤ 4611686018427387904) : Ev (fun k => spec_daVisit.f k a l) (vis a a l) := by
  have := daVisit_l0 a l hl l.length 0 a (by omega)
  rw [List.drop_zero] at this
  exact Ev.congr (fun k => rfl) this
theorem visitLeaves (a : Int) (l : List S49) (hl : l.length ≤ 4611686018427387904) : Ev (fun k => impl_visitLeaves.f k a l) (if asked a l = true then fixed (vis a a l) else (0, false, false)) := by
  have hno : Ev (fun k => impl_visitLeaves.j0 k a l true) (0, false, false) := Ev.step (f := fun _ => _) (fun k => by simp only [impl_visitLeaves.j0, if_true]) (Ev.now _)
  unfold asked
  by_cases h : 1 ≤ a ∧ a ≤ 1001
  · rw [decide_eq_true h, Bool.true_and]
    by_cases h2 : 1 ≤ (l.length : Int) ∧ (l.length : Int) ≤ 3
    · rw [decide_eq_true h2, Bool.true_and]
      refine Ev.congr (f := fun k => (impl_areDarts.f k l).bind fun t => impl_visitLeaves.j0 k a l (!t)) (fun k => by unfold impl_visitLeaves.f; rw [within_eq, decide_eq_true h]; simp only [Option.bind_some, if_true]; rw [within_eq, decide_eq_true h2]; simp only [Option.bind_some, if_true]) (Ev.bind (areDarts l hl) ?_)
      cases l.all good
      · simpa using hno
      · refine Ev.step (f := fun k => impl_visitLeaves.l0 k a l a l (l.length : Int) 0) (fun k => by simp only [impl_visitLeaves.j0, Bool.not_true, Bool.false_eq_true, if_false]) ?_
        have := visitLeaves_l0 a l hl l.length 0 a (by omega)
        rw [List.drop_zero] at this
        simpa using this
    · rw [decide_eq_false h2, Bool.false_and]
      exact Ev.congr (f := fun k => impl_visitLeaves.j0 k a l true) (fun k => by unfold impl_visitLeaves.f; rw [within_eq, decide_eq_true h]; simp only [Option.bind_some, if_true]; rw [within_eq, decide_eq_false h2]; simp) hno
  · rw [decide_eq_false h, Bool.false_and]
    exact Ev.congr (f := fun k => impl_visitLeaves.j0 k a l true) (fun k => by unfold impl_visitLeaves.f; rw [within_eq, decide_eq_false h]; simp) hno
def value (a : Int) (l : List S49) : Int × Bool := if asked a l = true then (if (vis a a l).2.2 = true then ((vis a a l).1, true) else (0, false)) else (0, false)
theorem impl_v (a : Int) (l : List S49) (hl : l.length ≤ 4611686018427387904) : Ev (fun k => impl_LeftAfter.f k a l) (value a l) := by
  refine Ev.bind (visitLeaves a l hl) ?_
  refine Ev.congr (f := fun _ => some (value a l)) (fun k => ?_) (Ev.now _)
  unfold value
  by_cases h : asked a l = true
  · rw [if_pos h, if_pos h]
    unfold fixed
    by_cases h2 : (vis a a l).2.2 = true
    · rw [if_pos h2, if_pos h2]
    · rw [if_neg h2, if_neg h2]
  · rw [if_neg h, if_neg h]
def tab (n : Nat) (f : Nat → Int) : List Int := (List.range n).map f
theorem tab_len (n : Nat) (f : Nat → Int) : (tab n f).length = n := by simp [tab]
theorem tab_rd {n : Nat} (f : Nat → Int) {i : Nat} (h : i < n) : rd (tab n f) (i : Int) = f i := by
  unfold rd tab
  rw [Int.toNat_natCast, List.getD_eq_getElem?_getD, List.getElem?_map, List.getElem?_range h]; rfl
theorem tab_congr {n : Nat} {f g : Nat → Int} (h : ∀ j, j < n → f j = g j) : tab n f = tab n g := List.map_congr_left fun j hj => h j (List.mem_range.1 hj)
theorem tab_set (n : Nat) (f : Nat → Int) (i : Nat) (v : Int) : (tab n f).set i v = tab n (fun j => if j = i then v else f j) := by
  apply List.ext_getElem
  · simp [tab]
  · intro j h1 h2
    simp only [tab, List.getElem_set, List.getElem_map, List.getElem_range]
    by_cases h : i = j
    · subst h; simp
    · rw [if_neg h, if_neg (by omega)]
theorem eqIntS_l0 (l : List Int) (hl : l.length ≤ 4611686018427387904) (d : Nat) : ∀ i : Nat, i + d = l.length → Ev (fun k => laws_eqIntS.l0 k l l (i : Int)) true := by
  induction d with
  | zero =>
    intro i hi
    refine Ev.step (f := fun _ => some true) (fun k => ?_) (Ev.now _)
    simp only [laws_eqIntS.l0]
    rw [if_neg (by omega)]
  | succ d ih =>
    intro i hi
    refine Ev.step (f := fun k => laws_eqIntS.l0 k l l ((i + 1 : Nat) : Int)) (fun k => ?_) (ih (i + 1) (by omega))
    simp only [laws_eqIntS.l0]
    rw [if_pos (by omega), if_pos (by omega), if_pos (by omega), if_pos trivial, w64s (by omega) hl]
theorem eqIntS (l : List Int) (hl : l.length ≤ 4611686018427387904) : Ev (fun k => laws_eqIntS.f k l l) true := by
  refine Ev.congr (fun k => ?_) (eqIntS_l0 l hl l.length 0 (by omega))
  unfold laws_eqIntS.f
  rw [if_pos rfl]; rfl
theorem tab_self (l : List Int) : tab l.length (fun j => l.getD j 0) = l := by
  apply List.ext_getElem
  · simp [tab]
  · intro j h1 h2
    simp [tab, List.getD, h2]
def marked (f : Nat → Int) (i : Nat) : Nat → Int := fun j => if j < i then ((j + 1 : Nat) : Int) else f j
theorem marked_set (n : Nat) (f : Nat → Int) (i : Nat) : (tab n (marked f i)).set i ((i + 1 : Nat) : Int) = tab n (marked f (i + 1)) := by
  rw [tab_set]
  refine tab_congr fun j _ => ?_
  unfold marked
  by_cases h : j = i
  · rw [if_pos h, if_pos (by omega), h]
  · rw [if_neg h]
    by_cases h2 : j < i
    · rw [if_pos h2, if_pos (by omega)]
    · rw [if_neg h2, if_neg (by omega)]
theorem mark_l0 (n : Nat) (hn : n ≤ 4000000000000000000) (f : Nat → Int) (d : Nat) : ∀ i : Nat, i + d = n → Ev (fun k => laws_markIntS.l0 k (tab n (marked f i)) ((i + 1 : Nat) : Int) (i : Int)) (((n + 1 : Nat) : Int), tab n (fun j => ((j + 1 : Nat) : Int))) := by
  induction d with
  | zero =>
    intro i hi
    refine Ev.step (f := fun _ => some (((n + 1 : Nat) : Int), tab n (fun j => ((j + 1 : Nat) : Int)))) (fun k => ?_) (Ev.now _)
    simp only [laws_markIntS.l0]
    rw [if_neg (by rw [tab_len]; omega), show i = n by omega]
    congr 2
    exact tab_congr fun j hj => if_pos hj
  | succ d ih =>
    intro i hi
    refine Ev.step (fun k => ?_) (ih (i + 1) (by omega))
    simp only [laws_markIntS.l0]
    rw [if_pos (by rw [tab_len]; omega), if_pos (by omega), Int.toNat_natCast, marked_set, w64s (n := 4611686018427387904) (by omega) (by omega), w64s (n := 4611686018427387904) (by omega) (by omega)]
theorem markIntS (l : List Int) (hl : l.length ≤ 4000000000000000000) : Ev (fun k => laws_markIntS.f k l 1) (((l.length + 1 : Nat) : Int), tab l.length (fun j => ((j + 1 : Nat) : Int))) := by
  have h := mark_l0 l.length hl (fun j => l.getD j 0) l.length 0 (by omega)
  rw [show tab l.length (marked (fun j => l.getD j 0) 0) = l from (tab_congr fun j _ => if_neg (by omega)).trans (tab_self l)] at h
  exact Ev.congr (fun k => rfl) h
theorem held_l0 (n : Nat) (hn : n ≤ 4000000000000000000) (d : Nat) : ∀ i : Nat, i + d = n → Ev (fun k => laws_heldIntS.l0 k (tab n (fun j => ((j + 1 : Nat) : Int))) ((i + 1 : Nat) : Int) (i : Int)) ((n + 1 : Nat) : Int) := by
  induction d with
  | zero =>
    intro i hi
    refine Ev.step (f := fun _ => some ((n + 1 : Nat) : Int)) (fun k => ?_) (Ev.now _)
    simp only [laws_heldIntS.l0]
    rw [if_neg (by rw [tab_len]; omega), show i = n by omega]
  | succ d ih =>
    intro i hi
    refine Ev.step (fun k => ?_) (ih (i + 1) (by omega))
    simp only [laws_heldIntS.l0]
    rw [if_pos (by rw [tab_len]; omega), if_pos (by omega), tab_rd _ (by omega), if_pos rfl, w64s (n := 4611686018427387904) (by omega) (by omega), w64s (n := 4611686018427387904) (by omega) (by omega)]
theorem heldIntS (n : Nat) (hn : n ≤ 4000000000000000000) : Ev (fun k => laws_heldIntS.f k (tab n (fun j => ((j + 1 : Nat) : Int))) 1) ((n + 1 : Nat) : Int) :=
  Ev.congr (fun k => rfl) (held_l0 n hn n 0 (by omega))
/-! ### Rows of darts -/
theorem rdL2 (l : List (List S51)) (i : Nat) (h : i < l.length) : rd_L2 l (i : Int) = l[i] := by simp [rd_L2, List.getD, h]
theorem rdL4 (l : List (List S49)) (i : Nat) (h : i < l.length) : rd_L4 l (i : Int) = l[i] := by simp [rd_L4, List.getD, h]
/-- How many darts the rows hold. -/
def tot {α : Type} : List (List α) → Nat
  | [] => 0
  | y :: r => y.length + tot r
theorem sz_l0 (l : List (List S51)) (hl : l.length ≤ 4611686018427387904) (hr : ∀ y ∈ l, y.length ≤ 9223372036854775807) (d : Nat) : ∀ (i : Nat) (a : Int), i + d = l.length → 0 ≤ a → a ≤ 1048576 →
    ∃ t, Ev (fun k => laws_szDartSS.l0 k l a (i : Int)) t ∧ (t < 0 ∨ (tot (l.drop i) : Int) ≤ a) := by
  induction d with
  | zero =>
    intro i a hi h0 h1
    refine ⟨a, Ev.step (f := fun _ => some a) (fun k => ?_) (Ev.now _), .inr ?_⟩
    · simp only [laws_szDartSS.l0]
      rw [if_neg (by omega)]
    · rw [List.drop_of_length_le (by omega)]; simpa [tot] using h0
  | succ d ih =>
    intro i a hi h0 h1
    have hd : l.drop i = l[i]'(by omega) :: l.drop (i + 1) := List.drop_eq_getElem_cons (by omega)
    have hy : (l[i]'(by omega)).length ≤ 9223372036854775807 := hr _ (List.getElem_mem _)
    have hs : ∀ k, laws_szDartSS.l0 (k + 1) l a (i : Int) = if a - ((l[i]'(by omega)).length : Int) < 0 then some (-1) else laws_szDartSS.l0 k l (a - ((l[i]'(by omega)).length : Int)) ((i + 1 : Nat) : Int) := by
      intro k
      simp only [laws_szDartSS.l0]
      rw [if_pos (by omega), if_pos (by omega), rdL2 l i (by omega), w64s (by omega) hl]
      simp only [laws_szDartS.f]
      rw [w64 (by omega) (by omega)]
      by_cases h : a - ((l[i]'(by omega)).length : Int) < 0
      · rw [if_pos h, if_pos h]; rfl
      · rw [if_neg h, if_neg h, Option.bind_some, if_neg h]
    by_cases h : a - ((l[i]'(by omega)).length : Int) < 0
    · exact ⟨-1, Ev.step (fun k => by rw [hs, if_pos h]) (Ev.now _), .inl (by omega)⟩
    · obtain ⟨t, ht, ht2⟩ := ih (i + 1) (a - ((l[i]'(by omega)).length : Int)) (by omega) (by omega) (by omega)
      refine ⟨t, Ev.step (fun k => by rw [hs, if_neg h]) ht, ht2.imp_right fun h2 => ?_⟩
      rw [hd]
      simp only [tot]
      omega
theorem sz (l : List (List S51)) (hl : l.length ≤ 4611686018427387904) (hr : ∀ y ∈ l, y.length ≤ 9223372036854775807) :
    ∃ t, Ev (fun k => laws_szDartSS.f k l 1048576) t ∧ (t < 0 ∨ ((l.length : Int) ≤ 1048576 ∧ (tot l : Int) ≤ 1048576)) := by
  have hw : wrap64 (1048576 - (l.length : Int)) = 1048576 - (l.length : Int) := w64 (by omega) (by omega)
  by_cases h : 1048576 - (l.length : Int) < 0
  · refine ⟨-1, Ev.congr (fun k => ?_) (Ev.now _), .inl (by omega)⟩
    unfold laws_szDartSS.f
    rw [hw, if_pos h]
  · obtain ⟨t, ht, ht2⟩ := sz_l0 l hl hr l.length 0 (1048576 - (l.length : Int)) (by omega) (by omega) (by omega)
    refine ⟨t, Ev.congr (fun k => ?_) ht, ht2.imp_right fun h2 => ?_⟩
    · unfold laws_szDartSS.f
      rw [hw, if_neg h]; rfl
    · rw [List.drop_zero] at h2
      exact ⟨by omega, by omega⟩
theorem tot_mem {α : Type} {l : List (List α)} {y : List α} (h : y ∈ l) : y.length ≤ tot l := by
  induction l with
  | nil => cases h
  | cons x r ih =>
    simp only [tot]
    rcases List.mem_cons.1 h with rfl | h
    · omega
    · have := ih h; omega
def conv2 (l : List (List S51)) : List (List S49) := l.map fun y => y.map conv
theorem tot_conv2 (l : List (List S51)) : tot (conv2 l) = tot l := by
  induction l with
  | nil => rfl
  | cons x r ih =>
    have : tot (conv2 (x :: r)) = (x.map conv).length + tot (conv2 r) := rfl
    rw [this, ih, List.length_map]; rfl
theorem toDartSS_l0 (l : List (List S51)) (hl : l.length ≤ 4611686018427387904) (hr : ∀ y ∈ l, y.length ≤ 17592186044416) (d : Nat) : ∀ i : Nat, i + d = l.length →
    Ev (fun k => laws_toDartSS.l0 k l (conv2 (l.take i) ++ List.replicate d []) (i : Int)) (conv2 l) := by
  induction d with
  | zero =>
    intro i hi
    refine Ev.step (f := fun _ => some (conv2 l)) (fun k => ?_) (Ev.now _)
    simp only [laws_toDartSS.l0]
    rw [if_neg (by omega), List.take_of_length_le (by omega)]
    simp
  | succ d ih =>
    intro i hi
    refine Ev.step (f := fun k => (laws_toDartS.f k (l[i]'(by omega))).bind fun t => if (i : Int) < ((conv2 (l.take i) ++ List.replicate (d + 1) []).length : Int) then laws_toDartSS.l0 k l ((conv2 (l.take i) ++ List.replicate (d + 1) []).set (i : Int).toNat t) ((i + 1 : Nat) : Int) else none) (fun k => ?_) (Ev.bind (toDartS _ (hr _ (List.getElem_mem _))) ?_)
    · simp only [laws_toDartSS.l0]
      rw [if_pos (by omega), if_pos (by omega), rdL2 l i (by omega), w64s (by omega) hl]
    · refine Ev.congr (f := fun k => laws_toDartSS.l0 k l (conv2 (l.take (i + 1)) ++ List.replicate d []) ((i + 1 : Nat) : Int)) (fun k => ?_) (ih (i + 1) (by omega))
      rw [if_pos (by simp [conv2]; omega)]
      congr 1
      rw [Int.toNat_natCast, List.replicate_succ, List.set_append_right _ _ (by simp [conv2]; omega), List.take_succ_eq_append_getElem (by omega)]
      simp only [conv2, List.length_map, List.length_take, List.map_append, List.map_cons, List.map_nil, List.append_assoc, List.cons_append, List.nil_append]
      rw [show i - min i l.length = 0 by omega, List.set_cons_zero]
theorem toDartSS (l : List (List S51)) (hl : l.length ≤ 11728124029610) (hr : ∀ y ∈ l, y.length ≤ 17592186044416) : Ev (fun k => laws_toDartSS.f k l) (conv2 l) := by
  have h := toDartSS_l0 l (by omega) hr l.length 0 (by omega)
  refine Ev.congr (fun k => ?_) h
  unfold laws_toDartSS.f
  rw [if_pos (by omega), if_pos (by simpa using hl)]
  simp [conv2]
theorem eqDartSS_l0 (l : List (List S49)) (hl : l.length ≤ 4611686018427387904) (hr : ∀ y ∈ l, y.length ≤ 4611686018427387904) (d : Nat) : ∀ i : Nat, i + d = l.length → Ev (fun k => laws_eqDartSS.l0 k l l (i : Int)) true := by
  induction d with
  | zero =>
    intro i hi
    refine Ev.step (f := fun _ => some true) (fun k => ?_) (Ev.now _)
    simp only [laws_eqDartSS.l0]
    rw [if_neg (by omega)]
  | succ d ih =>
    intro i hi
    refine Ev.step (f := fun k => (laws_eqDartS.f k (l[i]'(by omega)) (l[i]'(by omega))).bind fun t => if t = true then laws_eqDartSS.l0 k l l ((i + 1 : Nat) : Int) else some false) (fun k => ?_) (Ev.bind (eqDartS _ (hr _ (List.getElem_mem _))) ?_)
    · simp only [laws_eqDartSS.l0]
      rw [if_pos (by omega), if_pos (by omega), if_pos (by omega), rdL4 l i (by omega), w64s (by omega) hl]
    · exact Ev.congr (fun k => if_pos rfl) (ih (i + 1) (by omega))
theorem eqDartSS (l : List (List S49)) (hl : l.length ≤ 4611686018427387904) (hr : ∀ y ∈ l, y.length ≤ 4611686018427387904) : Ev (fun k => laws_eqDartSS.f k l l) true := by
  refine Ev.congr (fun k => ?_) (eqDartSS_l0 l hl hr l.length 0 (by omega))
  unfold laws_eqDartSS.f
  rw [if_pos rfl]; rfl

/-! ### Marks on rows of darts: the last mark is no negative number -/
theorem markDartS_l0 (d : Nat) : ∀ (i : Nat) (x : List S49) (a : Nat), i + d = x.length → x.length ≤ 1000000000 → a + 2 * d ≤ 1000000000 →
    ∃ ys, Ev (fun k => laws_markDartS.l0 k x (a : Int) (i : Int)) (((a + 2 * d : Nat) : Int), ys) := by
  induction d with
  | zero =>
    intro i x a hi hx ha
    refine ⟨x, Ev.step (f := fun _ => some ((a : Int), x)) (fun k => ?_) (Ev.now _)⟩
    simp only [laws_markDartS.l0]
    rw [if_neg (by omega)]
  | succ d ih =>
    intro i x a hi hx ha
    obtain ⟨ys, h⟩ := ih (i + 1) ((x.set i ⟨(a : Int), (rd_T49 x (i : Int)).f1⟩).set i ⟨(rd_T49 (x.set i ⟨(a : Int), (rd_T49 x (i : Int)).f1⟩) (i : Int)).f0, ((a + 1 : Nat) : Int)⟩) (a + 2) (by simp; omega) (by simpa using hx) (by omega)
    refine ⟨ys, ?_⟩
    rw [show a + 2 * (d + 1) = a + 2 + 2 * d by omega]
    refine Ev.step (fun k => ?_) h
    simp only [laws_markDartS.l0]
    rw [if_pos (by omega), if_pos (by omega), Int.toNat_natCast, Option.bind_some, w64s (n := 4611686018427387904) (by omega) (by omega), w64s (n := 4611686018427387904) (by omega) (by omega), w64s (n := 4611686018427387904) (by omega) (by omega)]
theorem markDartSS_l0 (d : Nat) : ∀ (i : Nat) (x : List (List S49)) (a : Nat), i + d = x.length → x.length ≤ 1000000000 → a + 2 * tot (x.drop i) ≤ 1000000000 →
    ∃ (m : Nat) (ys : List (List S49)), Ev (fun k => laws_markDartSS.l0 k x (a : Int) (i : Int)) ((m : Int), ys) := by
  induction d with
  | zero =>
    intro i x a hi hx ha
    refine ⟨a, x, Ev.step (f := fun _ => some ((a : Int), x)) (fun k => ?_) (Ev.now _)⟩
    simp only [laws_markDartSS.l0]
    rw [if_neg (by omega)]
  | succ d ih =>
    intro i x a hi hx ha
    have hd : x.drop i = x[i]'(by omega) :: x.drop (i + 1) := List.drop_eq_getElem_cons (by omega)
    rw [hd] at ha
    simp only [tot] at ha
    obtain ⟨ys, h⟩ := markDartS_l0 (x[i]'(by omega)).length 0 (x[i]'(by omega)) a (by omega) (by omega) (by omega)
    obtain ⟨m, zs, h2⟩ := ih (i + 1) (x.set i ys) (a + 2 * (x[i]'(by omega)).length) (by simp; omega) (by simpa using hx) (by rw [List.drop_set_of_lt (by omega)]; omega)
    refine ⟨m, zs, Ev.step (f := fun k => (laws_markDartS.f k (x[i]'(by omega)) (a : Int)).bind fun t => laws_markDartSS.l0 k (x.set (i : Int).toNat t.2) t.1 ((i + 1 : Nat) : Int)) (fun k => ?_) (Ev.bind (Ev.congr (fun k => rfl) h) ?_)⟩
    · simp only [laws_markDartSS.l0]
      rw [if_pos (by omega), if_pos (by omega), rdL4 x i (by omega), w64s (n := 4611686018427387904) (by omega) (by omega)]
    · rw [Int.toNat_natCast]
      exact h2
theorem markDartSS (l : List (List S49)) (hl : l.length ≤ 1048576) (ht : tot l ≤ 1048576) : ∃ (m : Nat) (ys : List (List S49)), Ev (fun k => laws_markDartSS.f k l 1) ((m : Int), ys) := by
  obtain ⟨m, ys, h⟩ := markDartSS_l0 l.length 0 l 1 (by omega) (by omega) (by rw [List.drop_zero]; omega)
  exact ⟨m, ys, Ev.congr (fun k => rfl) h⟩

/-! ### The leg -/
/-- What a leg leaves behind each visit. -/
def play : Int → List Int → List (List S49) → List Int × Bool
  | _, out, [] => (out, true)
  | a, out, v :: r => if asked a v = true then (if (vis a a v).2.2 = true then play (vis a a v).1 (out ++ [(vis a a v).1]) r else ([], false)) else ([], false)
theorem play_len (vs : List (List S49)) : ∀ (a : Int) (out : List Int), (play a out vs).1.length ≤ out.length + vs.length := by
  induction vs with
  | nil => intro a out; simp [play]
  | cons v r ih =>
    intro a out
    unfold play
    split
    · split
      · have := ih (vis a a v).1 (out ++ [(vis a a v).1])
        rw [List.length_append] at this
        simp only [List.length_cons, List.length_nil] at this ⊢
        omega
      · simp
    · simp
theorem specLeg_l0 (l : List (List S49)) (hl : l.length ≤ 100) (hr : ∀ y ∈ l, y.length ≤ 4611686018427387904) (d : Nat) : ∀ (i : Nat) (a : Int) (out : List Int), i + d = l.length → out.length ≤ i + 1 →
    Ev (fun k => spec_PlayLeg.l0 k a out l (l.length : Int) (i : Int)) (play a out (l.drop i)) := by
  induction d with
  | zero =>
    intro i a out hi ho
    refine Ev.step (f := fun _ => some (out, true)) (fun k => ?_) ?_
    · simp only [spec_PlayLeg.l0]
      rw [if_neg (by omega)]
    · rw [List.drop_of_length_le (by omega)]; exact Ev.now _
  | succ d ih =>
    intro i a out hi ho
    rw [List.drop_eq_getElem_cons (by omega)]
    have hy : (l[i]'(by omega)).length ≤ 4611686018427387904 := hr _ (List.getElem_mem _)
    obtain ⟨y, hyy⟩ : ∃ y, y = l[i]'(by omega) := ⟨_, rfl⟩
    rw [← hyy] at hy ⊢
    refine Ev.step (f := fun k => (spec_daAsked.f k a y).bind fun t => if t = true then ((spec_daVisit.f k a y).bind fun b => if b.2.2 = true then (if out.length < 17592186044416 then spec_PlayLeg.l0 k b.1 (out ++ [b.1]) l (l.length : Int) ((i + 1 : Nat) : Int) else none) else some (([] : List Int), false)) else some (([] : List Int), false)) (fun k => ?_) (Ev.bind (daAsked a y hy) ?_)
    · simp only [spec_PlayLeg.l0]
      rw [if_pos (by omega), if_pos (by omega), if_pos (by omega), rdL4 l i (by omega), ← hyy, w64s (n := 4611686018427387904) (by omega) (by omega)]
    · unfold play
      by_cases h : asked a y = true
      · rw [if_pos h]
        refine Ev.congr (fun k => if_pos h) (Ev.bind (daVisit a y hy) ?_)
        by_cases h2 : (vis a a y).2.2 = true
        · rw [if_pos h2]
          exact Ev.congr (fun k => by rw [if_pos h2, if_pos (by omega)]) (ih (i + 1) _ _ (by omega) (by simp; omega))
        · rw [if_neg h2]
          exact Ev.congr (fun k => if_neg h2) (Ev.now _)
      · rw [if_neg h]
        exact Ev.congr (fun k => if_neg h) (Ev.now _)
theorem implLeg_l0 (l : List (List S49)) (hl : l.length ≤ 100) (hr : ∀ y ∈ l, y.length ≤ 4611686018427387904) (d : Nat) : ∀ (i : Nat) (a : Int) (out : List Int), i + d = l.length → out.length ≤ i + 1 →
    Ev (fun k => impl_PlayLeg.l0 k a out l (l.length : Int) (i : Int)) (play a out (l.drop i)) := by
  induction d with
  | zero =>
    intro i a out hi ho
    refine Ev.step (f := fun _ => some (out, true)) (fun k => ?_) ?_
    · simp only [impl_PlayLeg.l0]
      rw [if_neg (by omega)]
    · rw [List.drop_of_length_le (by omega)]; exact Ev.now _
  | succ d ih =>
    intro i a out hi ho
    rw [List.drop_eq_getElem_cons (by omega)]
    have hy : (l[i]'(by omega)).length ≤ 4611686018427387904 := hr _ (List.getElem_mem _)
    obtain ⟨y, hyy⟩ : ∃ y, y = l[i]'(by omega) := ⟨_, rfl⟩
    rw [← hyy] at hy ⊢
    refine Ev.step (f := fun k => (impl_LeftAfter.f k a y).bind fun b => if b.2 = true then (if out.length < 17592186044416 then impl_PlayLeg.l0 k b.1 (out ++ [b.1]) l (l.length : Int) ((i + 1 : Nat) : Int) else none) else some (([] : List Int), false)) (fun k => ?_) (Ev.bind (impl_v a y hy) ?_)
    · simp only [impl_PlayLeg.l0]
      rw [if_pos (by omega), if_pos (by omega), if_pos (by omega), rdL4 l i (by omega), ← hyy, w64s (n := 4611686018427387904) (by omega) (by omega)]
    · unfold play value
      by_cases h : asked a y = true
      · rw [if_pos h, if_pos h]
        by_cases h2 : (vis a a y).2.2 = true
        · rw [if_pos h2, if_pos h2]
          exact Ev.congr (fun k => by rw [if_pos rfl, if_pos (by omega)]) (ih (i + 1) _ _ (by omega) (by simp; omega))
        · rw [if_neg h2, if_neg h2]
          exact Ev.congr (fun k => if_neg Bool.false_ne_true) (Ev.now _)
      · rw [if_neg h, if_neg h]
        exact Ev.congr (fun k => if_neg Bool.false_ne_true) (Ev.now _)
def leg (a : Int) (l : List (List S49)) : List Int × Bool := if (0 ≤ a ∧ a ≤ 1001) ∧ l.length ≤ 100 then play a [a] l else ([], false)
theorem leg_len (a : Int) (l : List (List S49)) : (leg a l).1.length ≤ 1 + l.length := by
  unfold leg
  split
  · exact play_len l a [a]
  · simp
theorem specLeg (a : Int) (l : List (List S49)) (hr : ∀ y ∈ l, y.length ≤ 4611686018427387904) : Ev (fun k => spec_PlayLeg.f k a l) (leg a l) := by
  have hno : Ev (fun k => spec_PlayLeg.j0 k a l true) ([], false) := Ev.step (f := fun _ => _) (fun k => by simp only [spec_PlayLeg.j0, if_true]) (Ev.now _)
  unfold leg
  by_cases h : 0 ≤ a ∧ a ≤ 1001
  · by_cases h2 : l.length ≤ 100
    · rw [if_pos ⟨h, h2⟩]
      refine Ev.congr (f := fun k => spec_PlayLeg.j0 k a l false) (fun k => by unfold spec_PlayLeg.f spec_daLeft.f; rw [in_eq, decide_eq_true h]; simp only [Option.bind_some, if_true]; rw [decide_eq_false (by omega)]) ?_
      refine Ev.step (f := fun k => spec_PlayLeg.l0 k a [a] l (l.length : Int) 0) (fun k => by simp only [spec_PlayLeg.j0, Bool.false_eq_true, if_false]) ?_
      have := specLeg_l0 l h2 hr l.length 0 a [a] (by omega) (by simp)
      rw [List.drop_zero] at this
      exact this
    · rw [if_neg (fun hh => h2 hh.2)]
      exact Ev.congr (f := fun k => spec_PlayLeg.j0 k a l true) (fun k => by unfold spec_PlayLeg.f spec_daLeft.f; rw [in_eq, decide_eq_true h]; simp only [Option.bind_some, if_true]; rw [decide_eq_true (by omega)]) hno
  · rw [if_neg (fun hh => h hh.1)]
    exact Ev.congr (f := fun k => spec_PlayLeg.j0 k a l true) (fun k => by unfold spec_PlayLeg.f spec_daLeft.f; rw [in_eq, decide_eq_false h]; simp) hno
theorem implLeg (a : Int) (l : List (List S49)) (hr : ∀ y ∈ l, y.length ≤ 4611686018427387904) : Ev (fun k => impl_PlayLeg.f k a l) (leg a l) := by
  have hno : Ev (fun k => impl_PlayLeg.j0 k a l true) ([], false) := Ev.step (f := fun _ => _) (fun k => by simp only [impl_PlayLeg.j0, if_true]) (Ev.now _)
  unfold leg
  by_cases h : 0 ≤ a ∧ a ≤ 1001
  · by_cases h2 : l.length ≤ 100
    · rw [if_pos ⟨h, h2⟩]
      refine Ev.congr (f := fun k => impl_PlayLeg.j0 k a l false) (fun k => by unfold impl_PlayLeg.f; rw [within_eq, decide_eq_true h]; simp only [Option.bind_some, if_true]; rw [decide_eq_false (by omega)]) ?_
      refine Ev.step (f := fun k => impl_PlayLeg.l0 k a [a] l (l.length : Int) 0) (fun k => by simp only [impl_PlayLeg.j0, Bool.false_eq_true, if_false]) ?_
      have := implLeg_l0 l h2 hr l.length 0 a [a] (by omega) (by simp)
      rw [List.drop_zero] at this
      exact this
    · rw [if_neg (fun hh => h2 hh.2)]
      exact Ev.congr (f := fun k => impl_PlayLeg.j0 k a l true) (fun k => by unfold impl_PlayLeg.f; rw [within_eq, decide_eq_true h]; simp only [Option.bind_some, if_true]; rw [decide_eq_true (by omega)]) hno
  · rw [if_neg (fun hh => h hh.1)]
    exact Ev.congr (f := fun k => impl_PlayLeg.j0 k a l true) (fun k => by unfold impl_PlayLeg.f; rw [within_eq, decide_eq_false h]; simp) hno
theorem FnExactPlayLeg : ∀ (a0 : Int) (l1 : List (List (S51))), ((Lit.int .i64 a0).wf = true) → (l1.length ≤ maxLen ∧ ∀ y_l1 ∈ l1, y_l1.length ≤ maxLen ∧ ∀ y_y_l1 ∈ y_l1, (Lit.int .i64 y_y_l1.f0).wf = true ∧ (Lit.int .i64 y_y_l1.f1).wf = true) → (l1.length * 24 ≤ 140737488351232) → ∃ k, laws_FnExactPlayLeg.f k a0 l1 = some true := by
  intro a l ha hl hy
  refine Ev.rounds ?_
  have hm : maxLen ≤ 9223372036854775807 := by unfold maxLen; omega
  obtain ⟨t, ht, ht2⟩ := sz l (by omega) (fun y hy => Nat.le_trans (hl.2 y hy).1 hm)
  refine Ev.bind (f := fun k t => _) ht ?_
  by_cases h : t < 0
  · exact Ev.congr (fun k => if_pos h) (Ev.now _)
  · refine Ev.congr (fun k => if_neg h) ?_
    obtain ⟨h1, h2⟩ := ht2.resolve_left h
    have hrow : ∀ y ∈ l, y.length ≤ 17592186044416 := fun y hy => by have := tot_mem hy; omega
    obtain ⟨xs, hxs⟩ : ∃ xs, xs = conv2 l := ⟨_, rfl⟩
    have hA := toDartSS l (by omega) hrow
    rw [← hxs] at hA
    have hlen : xs.length = l.length := by rw [hxs]; exact List.length_map ..
    have htot : tot xs ≤ 1048576 := by rw [hxs, tot_conv2]; omega
    have hr : ∀ y ∈ xs, y.length ≤ 4611686018427387904 := fun y hy => by have := tot_mem hy; omega
    obtain ⟨m, ys, hM⟩ := markDartSS xs (by omega) htot
    have hg := leg_len a xs
    refine Ev.bind hA (Ev.bind (specLeg a xs hr) (Ev.bind (implLeg a xs hr) ?_))
    generalize leg a xs = v at hg ⊢
    refine Ev.congr (fun k => if_pos rfl) (Ev.bind (eqIntS v.1 (by omega)) (Ev.bind (eqDartSS xs (by omega) hr) ?_))
    refine Ev.congr (fun k => if_pos ⟨rfl, rfl⟩) (Ev.bind hM (Ev.bind (markIntS v.1 (by omega)) (Ev.bind (heldIntS v.1.length (by omega)) ?_)))
    exact Ev.congr (fun k => if_pos ⟨by omega, by omega, rfl⟩) (Ev.now _)

end Go.Proofs.Ytgdkedcahcpofaa.Pure
