/- Games, and when a set is over. (Plain Lean: no program's memory in sight.) -/
import Derived.Test.YtjnkcgddalbojaaDoorPAx11
import Derived.Test.YtjnkcgddalbojaaDoorPAx1006
import Derived.Test.YtjnkcgddalbojaaDoorPAx1009
import Derived.Test.YtjnkcgddalbojaaDoorPAx16
import Derived.Test.YtjnkcgddalbojaaDoorLibT
import Derived.KernelRfl
import Derived.Laws.Strings
set_option linter.unusedSimpArgs false
set_option linter.unusedVariables false
namespace Go.Proofs.YtjnkcgddalbojaaDoor.Pure
open Go.RowKit Go.Proofs.YtjnkcgddalbojaaDoor.PA Go.Proofs.YtjnkcgddalbojaaDoorW.PrintWords Go.Proofs.YtjnkcgddalbojaaDoorW.PrintLast Go.Proofs.YtjnkcgddalbojaaDoorW.PrintMore

/-! ### Games -/
/-- Whose a set is with so many games. -/
def ov (a b : Int) : Option Bool := if a = 7 ∨ 6 ≤ a ∧ 2 ≤ a - b then some true else if b = 7 ∨ 6 ≤ b ∧ 2 ≤ b - a then some false else none
def inv (a b : Int) : Prop := 0 ≤ a ∧ a ≤ 7 ∧ 0 ≤ b ∧ b ≤ 7 ∧ (a ≤ 6 ∨ b ≤ 6)
theorem setOver (k : Nat) (a b : Int) (h : inv a b) : impl_setOver.f (k + 1) a b = some (wtxt (ov a b)) := by
  obtain ⟨h1, h2, h3, h4, h5⟩ := h
  have e1 : wrap64 (a - b) = a - b := w64 (by omega) (by omega)
  have e2 : wrap64 (b - a) = b - a := w64 (by omega) (by omega)
  unfold impl_setOver.f ov
  simp only [impl_setOver.j0]
  rw [e1, e2]
  by_cases ha : a = 7
  · rw [if_pos ha, if_pos (Or.inl ha)]; rfl
  · rw [if_neg ha]
    by_cases ha6 : a ≥ 6
    · rw [if_pos ha6]
      by_cases hd : a - b ≥ 2
      · rw [decide_eq_true hd, if_pos rfl, if_pos (Or.inr ⟨ha6, hd⟩)]; rfl
      · rw [decide_eq_false hd, if_neg Bool.false_ne_true, if_neg (show ¬ (a = 7 ∨ 6 ≤ a ∧ 2 ≤ a - b) by omega)]
        by_cases hb : b = 7
        · rw [if_pos hb, if_pos (Or.inl hb)]; rfl
        · rw [if_neg hb]
          by_cases hb6 : b ≥ 6
          · rw [if_pos hb6]
            by_cases hd2 : b - a ≥ 2
            · rw [if_pos hd2, if_pos (Or.inr ⟨hb6, hd2⟩)]; rfl
            · rw [if_neg hd2, if_neg (show ¬ (b = 7 ∨ 6 ≤ b ∧ 2 ≤ b - a) by omega)]; rfl
          · rw [if_neg hb6, if_neg (show ¬ (b = 7 ∨ 6 ≤ b ∧ 2 ≤ b - a) by omega)]; rfl
    · rw [if_neg ha6, if_neg Bool.false_ne_true, if_neg (show ¬ (a = 7 ∨ 6 ≤ a ∧ 2 ≤ a - b) by omega)]
      by_cases hb : b = 7
      · rw [if_pos hb, if_pos (Or.inl hb)]; rfl
      · rw [if_neg hb]
        by_cases hb6 : b ≥ 6
        · rw [if_pos hb6]
          by_cases hd2 : b - a ≥ 2
          · rw [if_pos hd2, if_pos (Or.inr ⟨hb6, hd2⟩)]; rfl
          · rw [if_neg hd2, if_neg (show ¬ (b = 7 ∨ 6 ≤ b ∧ 2 ≤ b - a) by omega)]; rfl
        · rw [if_neg hb6, if_neg (show ¬ (b = 7 ∨ 6 ≤ b ∧ 2 ≤ b - a) by omega)]; rfl
theorem ov_none {a b : Int} : ov a b = none ↔ ¬ (a = 7 ∨ 6 ≤ a ∧ 2 ≤ a - b) ∧ ¬ (b = 7 ∨ 6 ≤ b ∧ 2 ≤ b - a) := by
  unfold ov
  by_cases h1 : a = 7 ∨ 6 ≤ a ∧ 2 ≤ a - b
  · rw [if_pos h1]; exact ⟨fun h => (by cases h), fun h => absurd h1 h.1⟩
  · rw [if_neg h1]
    by_cases h2 : b = 7 ∨ 6 ≤ b ∧ 2 ≤ b - a
    · rw [if_pos h2]; exact ⟨fun h => (by cases h), fun h => absurd h2 h.2⟩
    · rw [if_neg h2]; exact ⟨fun _ => ⟨h1, h2⟩, fun _ => rfl⟩
theorem tnOver (a b : Int) (h : inv a b) : spec_tnOver.f a b = some (ov a b).isSome := by
  obtain ⟨h1, h2, h3, h4, h5⟩ := h
  have e4 : wrap64 (a - b) = a - b := w64 (by omega) (by omega)
  unfold spec_tnOver.f
  rw [most, Option.bind_some, e4, abs_eq _ (by omega) (by omega), Option.bind_some, Option.bind_some]
  cases ho : ov a b with
  | none =>
    have h0 := ov_none.1 ho
    by_cases h6 : max a b ≥ 6
    · rw [if_pos h6, if_neg (by omega), beq_eq_false_iff_ne.2 (by omega)]; rfl
    · rw [if_neg h6, beq_eq_false_iff_ne.2 (by omega)]; rfl
  | some x =>
    have h0 : ¬ (¬ (a = 7 ∨ 6 ≤ a ∧ 2 ≤ a - b) ∧ ¬ (b = 7 ∨ 6 ≤ b ∧ 2 ≤ b - a)) := fun h => by rw [ov_none.2 h] at ho; cases ho
    rw [if_pos (by omega)]
    by_cases hd : max (a - b) (-(a - b)) ≥ 2
    · rw [if_pos hd]; rfl
    · rw [if_neg hd, beq_iff_eq.2 (show max a b = 7 by omega)]; rfl
theorem inv_next {a b : Int} (h : inv a b) (ho : ov a b = none) : inv (a + 1) b ∧ inv a (b + 1) := by
  have h0 := ov_none.1 ho
  unfold inv at h ⊢
  omega
/-- How many games among the first n are won by a. -/
def cnt (s : ByteArray) : Nat → Int
  | 0 => 0
  | n + 1 => cnt s n + if bt s (n : Int) = 97 then 1 else 0
theorem cnt_le (s : ByteArray) (n : Nat) : 0 ≤ cnt s n ∧ cnt s n ≤ n := by
  induction n with
  | zero => exact ⟨Int.le_refl _, Int.le_refl _⟩
  | succ n ih =>
    simp only [cnt]
    by_cases h : bt s (n : Int) = 97
    · rw [if_pos h]; omega
    · rw [if_neg h]; omega
theorem won_l0 (s : ByteArray) (hs : s.size ≤ 140737488351232) (d : Nat) : ∀ i : Nat, i + d = s.size → Ev (fun k => spec_tnWon.l0 k s (cnt s i) (i : Int)) (cnt s s.size, (s.size : Int) - cnt s s.size) := by
  induction d with
  | zero =>
    intro i hi
    obtain rfl : i = s.size := by omega
    have hc := cnt_le s s.size
    refine Ev.step (f := fun _ => some (cnt s s.size, (s.size : Int) - cnt s s.size)) (fun k => ?_) (Ev.now _)
    simp only [spec_tnWon.l0]
    rw [if_neg (by omega), w64 (by omega) (by omega)]
  | succ d ih =>
    intro i hi
    have hc := cnt_le s i
    refine Ev.step (fun k => ?_) (ih (i + 1) (by omega))
    simp only [spec_tnWon.l0]
    rw [if_pos (by omega), if_pos (by omega), w64 (i := (i : Int) + 1) (by omega) (by omega)]
    simp only [cnt]
    by_cases h : bt s (i : Int) = 97
    · rw [if_pos h, if_pos h, w64 (by omega) (by omega)]; rfl
    · rw [if_neg h, if_neg h, Int.add_zero]; rfl
theorem won (s : ByteArray) (hs : s.size ≤ 140737488351232) : Ev (fun k => spec_tnWon.f k s) (cnt s s.size, (s.size : Int) - cnt s s.size) := won_l0 s hs s.size 0 (by omega)
theorem bt_extract (s : ByteArray) (i e j : Nat) (hj : i + j < e) (he : e ≤ s.size) : bt (s.extract i e) (j : Int) = bt s ((i + j : Nat) : Int) := by
  have h1 : j < (s.extract i e).size := by rw [ByteArray.size_extract]; omega
  rw [bt_get _ j h1, bt_get s (i + j) (by omega)]
  congr 2
  exact ByteArray.getElem_extract ..
theorem cnt_prefix (s : ByteArray) (e : Nat) (he : e ≤ s.size) (n : Nat) (hn : n ≤ e) : cnt (s.extract 0 e) n = cnt s n := by
  induction n with
  | zero => rfl
  | succ n ih =>
    simp only [cnt]
    rw [ih (by omega), bt_extract s 0 e n (by omega) he, Nat.zero_add]
theorem won_prefix (s : ByteArray) (hs : s.size ≤ 140737488351232) (e : Nat) (he : e ≤ s.size) : Ev (fun k => spec_tnWon.f k (s.extract 0 e)) (cnt s e, (e : Int) - cnt s e) := by
  have hz : (s.extract 0 e).size = e := by rw [ByteArray.size_extract]; omega
  have h := won (s.extract 0 e) (by omega)
  rw [hz, cnt_prefix s e he e (Nat.le_refl _)] at h
  exact h

end Go.Proofs.YtjnkcgddalbojaaDoor.Pure
