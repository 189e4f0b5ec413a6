/- Plain lemmas on the printed functions over lists of darts: toDartS copies, eqDartS of a list with itself is true, areDarts is what daList asks. -/
import Derived.Test.YtoaiajgbiaedfaaPAx10
import Derived.Test.YtoaiajgbiaedfaaPAx4
import Derived.Test.YtoaiajgbiaedfaaPAx6
import Derived.Test.YtoaiajgbiaedfaaPAx2
import Derived.Test.YtoaiajgbiaedfaaPAx3
import Derived.Test.YtoaiajgbiaedfaaPAx8
namespace Go.Proofs.Ytoaiajgbiaedfaa.Lib
open Go.RowKit Go.Proofs.Ytoaiajgbiaedfaa.PA Go.Proofs.YtoaiajgbiaedfaaW.PrintWords Go.Proofs.YtoaiajgbiaedfaaW.PrintLast

theorem w64 {i : Int} (h0 : -9223372036854775808 ≤ i) (h : i ≤ 9223372036854775807) : wrap64 i = i := by unfold wrap64; omega
theorem w64s {i n : Nat} (h : i < n) (hn : n ≤ 4611686018427387904) : wrap64 ((i : Int) + 1) = ((i + 1 : Nat) : Int) := by rw [w64 (by omega) (by omega)]; omega
def conv (x : S60) : S58 := ⟨x.f0, x.f1⟩
theorem rd60 (l : List S60) (i : Nat) (h : i < l.length) : rd_T60 l (i : Int) = l[i] := by simp [rd_T60, List.getD, h]
theorem rd58 (l : List S58) (i : Nat) (h : i < l.length) : rd_T58 l (i : Int) = l[i] := by simp [rd_T58, List.getD, h]

theorem toDartS_l0 (l : List S60) (hl : l.length ≤ 4611686018427387904) (d : Nat) : ∀ i : Nat, i + d = l.length →
    Ev (fun k => laws_toDartS.l0 k l ((l.take i).map conv ++ List.replicate d z58) (i : Int)) (l.map conv) := by
  induction d with
  | zero =>
    intro i hi
    refine Ev.step (f := fun _ => some (l.map conv)) (fun k => ?_) (Ev.now _)
    simp only [laws_toDartS.l0]
    rw [if_neg (by omega), List.take_of_length_le (by omega)]
    simp
  | succ d ih =>
    intro i hi
    refine Ev.step (f := fun k => laws_toDartS.l0 k l ((l.take (i + 1)).map conv ++ List.replicate d z58) ((i + 1 : Nat) : Int)) (fun k => ?_) (ih (i + 1) (by omega))
    simp only [laws_toDartS.l0]
    rw [if_pos (by omega), if_pos (by omega)]
    simp only [laws_toDart.f, Option.bind_some]
    rw [if_pos (by simp; omega), w64s (by omega) hl]
    congr 1
    rw [Int.toNat_natCast, List.replicate_succ, List.set_append_right _ _ (by simp; omega), List.take_succ_eq_append_getElem (by omega)]
    simp only [List.length_map, List.length_take, List.map_append, List.map_cons, List.map_nil, List.append_assoc, List.cons_append, List.nil_append]
    rw [show i - min i l.length = 0 by omega, List.set_cons_zero, rd60 l i (by omega)]
    rfl
theorem toDartS (l : List S60) (hl : l.length ≤ 17592186044416) : Ev (fun k => laws_toDartS.f k l) (l.map conv) := by
  have h := toDartS_l0 l (by omega) l.length 0 (by omega)
  refine Ev.congr (fun k => ?_) h
  unfold laws_toDartS.f
  rw [if_pos (by omega), if_pos (by simpa using hl)]
  simp
theorem eqDartS_l0 (l : List S58) (hl : l.length ≤ 4611686018427387904) (d : Nat) : ∀ i : Nat, i + d = l.length → Ev (fun k => laws_eqDartS.l0 k l l (i : Int)) true := by
  induction d with
  | zero =>
    intro i hi
    refine Ev.step (f := fun _ => some true) (fun k => ?_) (Ev.now _)
    simp only [laws_eqDartS.l0]
    rw [if_neg (by omega)]
  | succ d ih =>
    intro i hi
    refine Ev.step (f := fun k => laws_eqDartS.l0 k l l ((i + 1 : Nat) : Int)) (fun k => ?_) (ih (i + 1) (by omega))
    simp only [laws_eqDartS.l0]
    rw [if_pos (by omega), if_pos (by omega), if_pos (by omega)]
    simp only [laws_eqDart.f, if_true, Option.bind_some]
    rw [w64s (by omega) hl]
theorem eqDartS (l : List S58) (hl : l.length ≤ 4611686018427387904) : Ev (fun k => laws_eqDartS.f k l l) true := by
  refine Ev.congr (fun k => ?_) (eqDartS_l0 l hl l.length 0 (by omega))
  unfold laws_eqDartS.f
  rw [if_pos rfl]; rfl

/-- A dart, told as the reference tells it. -/
def good (x : S58) : Bool := if x.f0 = 25 then decide (1 ≤ x.f1 ∧ x.f1 ≤ 2) else decide ((1 ≤ x.f0 ∧ x.f0 ≤ 20) ∧ 1 ≤ x.f1 ∧ x.f1 ≤ 3)
theorem in_eq (a b c : Int) : spec_l1In.f a b c = some (decide (b ≤ a ∧ a ≤ c)) := by
  unfold spec_l1In.f; by_cases h : b ≤ a <;> simp [h]
theorem within_eq (a b c : Int) : impl_within.f a b c = some (decide (b ≤ a ∧ a ≤ c)) := by
  unfold impl_within.f; by_cases h : b ≤ a <;> simp [h]
theorem daGood (a b : Int) : spec_daGood.f a b = some (good ⟨a, b⟩) := by
  simp only [spec_daGood.f, good, in_eq, Option.bind_some]
  by_cases h : a = 25
  · simp [h]
  · by_cases h1 : 1 ≤ a ∧ a ≤ 20
    · simp [h, h1]
    · simp only [h, h1, if_false, decide_false, Bool.false_eq_true, false_and]
theorem isDart (a b : Int) : impl_IsDart.f a b = some (good ⟨a, b⟩) := by
  simp only [impl_IsDart.f, good, within_eq, Option.bind_some]
  by_cases h : a = 25
  · subst h; simp
  · by_cases h1 : 1 ≤ a ∧ a ≤ 20
    · by_cases h2 : 1 ≤ b ∧ b ≤ 3
      · simp [h, h1, h2]
      · simp [h, h1, h2]
    · simp only [h, h1, if_false, decide_false, Bool.false_eq_true, false_and]
theorem indexFunc_l0 (l : List S58) (hl : l.length ≤ 4611686018427387904) (d : Nat) : ∀ i : Nat, i + d = l.length → ∃ r : Int, Ev (fun k => impl_Dart_83.l0 k l (l.length : Int) (i : Int)) r ∧ (r ≥ 0 ↔ (l.drop i).all good = false) := by
  induction d with
  | zero =>
    intro i hi
    refine ⟨-1, Ev.step (f := fun _ => some (-1)) (fun k => ?_) (Ev.now _), ?_⟩
    · simp only [impl_Dart_83.l0]
      rw [if_neg (by omega)]
    · rw [List.drop_of_length_le (by omega)]; simp
  | succ d ih =>
    intro i hi
    obtain ⟨r, hr, hr2⟩ := ih (i + 1) (by omega)
    have hd : l.drop i = l[i]'(by omega) :: l.drop (i + 1) := List.drop_eq_getElem_cons (by omega)
    have hs : ∀ k, impl_Dart_83.l0 (k + 1) l (l.length : Int) (i : Int) = if good (l[i]'(by omega)) = true then impl_Dart_83.l0 k l (l.length : Int) ((i + 1 : Nat) : Int) else some (i : Int) := by
      intro k
      simp only [impl_Dart_83.l0]
      rw [if_pos (by omega), if_pos (by omega), if_pos (by omega), rd58 l i (by omega), w64s (by omega) hl]
      simp only [impl_areDarts_1.f, isDart, Option.bind_some]
      cases good (l[i]'(by omega)) <;> simp
    by_cases hg : good (l[i]'(by omega)) = true
    · refine ⟨r, Ev.step (fun k => by rw [hs, if_pos hg]) hr, ?_⟩
      rw [hr2, hd, List.all_cons, hg, Bool.true_and]
    · refine ⟨i, Ev.step (fun k => by rw [hs, if_neg hg]) (Ev.now _), ?_⟩
      rw [hd, List.all_cons, Bool.eq_false_iff.2 hg, Bool.false_and]
      simp
theorem areDarts (l : List S58) (hl : l.length ≤ 4611686018427387904) : Ev (fun k => impl_areDarts.f k l) (l.all good) := by
  obtain ⟨r, hr, hr2⟩ := indexFunc_l0 l hl l.length 0 (by omega)
  refine Ev.bind (a := !(l.all good)) ?_ ?_
  · refine Ev.bind (a := r) (Ev.congr (fun k => rfl) hr) ?_
    refine Ev.congr (fun k => ?_) (Ev.now _)
    rw [List.drop_zero] at hr2
    cases h : l.all good <;> simp_all
  · exact Ev.congr (fun k => by simp) (Ev.now _)
theorem daList_l0 (l : List S58) (hl : l.length ≤ 4611686018427387904) (d : Nat) : ∀ i : Nat, i + d = l.length → Ev (fun k => spec_daList.l0 k l (l.length : Int) (i : Int)) ((l.drop i).all good) := by
  induction d with
  | zero =>
    intro i hi
    refine Ev.step (f := fun _ => some ((l.drop i).all good)) (fun k => ?_) (Ev.now _)
    simp only [spec_daList.l0]
    rw [if_neg (by omega), List.drop_of_length_le (by omega)]
    simp
  | succ d ih =>
    intro i hi
    have hd : l.drop i = l[i]'(by omega) :: l.drop (i + 1) := List.drop_eq_getElem_cons (by omega)
    have hs : ∀ k, spec_daList.l0 (k + 1) l (l.length : Int) (i : Int) = if good (l[i]'(by omega)) = true then spec_daList.l0 k l (l.length : Int) ((i + 1 : Nat) : Int) else some false := by
      intro k
      simp only [spec_daList.l0]
      rw [if_pos (by omega), if_pos (by omega), if_pos (by omega), rd58 l i (by omega), w64s (by omega) hl]
      simp only [daGood, Option.bind_some]
    rw [hd, List.all_cons]
    by_cases hg : good (l[i]'(by omega)) = true
    · rw [hg, Bool.true_and]
      exact Ev.step (fun k => by rw [hs, if_pos hg]) (ih (i + 1) (by omega))
    · rw [Bool.eq_false_iff.2 hg, Bool.false_and]
      exact Ev.step (fun k => by rw [hs, if_neg hg]) (Ev.now _)
theorem daList (l : List S58) (lo hi : Int) (hl : l.length ≤ 4611686018427387904) : Ev (fun k => spec_daList.f k l lo hi) (decide (lo ≤ (l.length : Int) ∧ (l.length : Int) ≤ hi) && l.all good) := by
  by_cases h : lo ≤ (l.length : Int) ∧ (l.length : Int) ≤ hi
  · refine Ev.congr (fun k => ?_) (by simpa [h] using daList_l0 l hl l.length 0 (by omega))
    simp [spec_daList.f, in_eq, h]
  · refine Ev.congr (fun k => ?_) (Ev.now _)
    simp [spec_daList.f, in_eq, h]
/-- The size that a law lets by. -/
theorem sz (l : List S60) (hl : l.length ≤ 4611686018427387904) : laws_szDartS.f l 1048576 = some (if (l.length : Int) ≤ 1048576 then 1048576 - (l.length : Int) else -1) := by
  unfold laws_szDartS.f
  rw [w64 (by omega) (by omega)]
  by_cases h : (l.length : Int) ≤ 1048576
  · rw [if_neg (by omega), if_pos h]
  · rw [if_pos (by omega), if_neg h]
end Go.Proofs.Ytoaiajgbiaedfaa.Lib
