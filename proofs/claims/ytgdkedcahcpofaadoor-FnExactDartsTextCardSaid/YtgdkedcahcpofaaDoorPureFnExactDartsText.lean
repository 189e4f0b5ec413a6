/- For all lists of darts, the program's DartsText answers what the reference's answers. (The pure statement behind the row: over numbers and lists alone.) -/
import Derived.Test.YtgdkedcahcpofaaDoorPAx19
import Derived.Test.YtgdkedcahcpofaaDoorPAx6
import Derived.Test.YtgdkedcahcpofaaDoorPAx16
import Derived.Test.YtgdkedcahcpofaaDoorPAx15
import Derived.Test.YtgdkedcahcpofaaDoorPAx5
import Derived.Test.YtgdkedcahcpofaaDoorPAx4
import Derived.Test.YtgdkedcahcpofaaDoorPAx13
import Derived.Test.YtgdkedcahcpofaaDoorPAx7
import Derived.Test.YtgdkedcahcpofaaDoorPAx18
import Derived.Test.YtgdkedcahcpofaaDoorPAx17
import Derived.Test.YtgdkedcahcpofaaDoorPAx1
import Derived.Test.YtgdkedcahcpofaaDoorPAx2
import Derived.Test.YtgdkedcahcpofaaDoorPAx8
import Derived.Test.YtgdkedcahcpofaaDoorPAx9
import Derived.KernelRfl
import Derived.Laws.Strings
import Derived.Lib.Join
set_option linter.unusedSimpArgs false
set_option linter.unusedVariables false
namespace Go.Proofs.YtgdkedcahcpofaaDoor.Pure
open Go.RowKit Go.Proofs.YtgdkedcahcpofaaDoor.PA Go.Proofs.YtgdkedcahcpofaaDoorW.PrintWords Go.Proofs.YtgdkedcahcpofaaDoorW.PrintLast Go.Proofs.YtgdkedcahcpofaaDoorW.PrintMore

theorem w64 {i : Int} (h0 : -9223372036854775808 ≤ i) (h : i ≤ 9223372036854775807) : wrap64 i = i := by unfold wrap64; omega
theorem w64s {i n : Nat} (h : i < n) (hn : n ≤ 4611686018427387904) : wrap64 ((i : Int) + 1) = ((i + 1 : Nat) : Int) := by rw [w64 (by omega) (by omega)]; omega
theorem rd31 (l : List S31) (i : Nat) (h : i < l.length) : rd_T31 l (i : Int) = l[i] := by simp [rd_T31, List.getD, h]
theorem in_eq (a b c : Int) : spec_l1In.f a b c = some (decide (b ≤ a ∧ a ≤ c)) := by
  unfold spec_l1In.f; by_cases h : b ≤ a <;> simp [h]
theorem within_eq (a b c : Int) : impl_within.f a b c = some (decide (b ≤ a ∧ a ≤ c)) := by
  unfold impl_within.f; by_cases h : b ≤ a <;> simp [h]
def conv (x : S42) : S31 := ⟨x.f0, x.f1⟩
theorem rd42 (l : List S42) (i : Nat) (h : i < l.length) : rd_T42 l (i : Int) = l[i] := by simp [rd_T42, List.getD, h]
theorem toDartS_l0 (l : List S42) (hl : l.length ≤ 4611686018427387904) (d : Nat) : ∀ i : Nat, i + d = l.length →
    Ev (fun k => laws_toDartS.l0 k l ((l.take i).map conv ++ List.replicate d z31) (i : Int)) (l.map conv) := by
  induction d with
  | zero =>
    intro i hi
    refine Ev.step (f := fun _ => some (l.map conv)) (fun k => ?_) (Ev.now _)
    simp only [laws_toDartS.l0]
    rw [if_neg (by omega), List.take_of_length_le (by omega)]
    simp
  | succ d ih =>
    intro i hi
    refine Ev.step (f := fun k => laws_toDartS.l0 k l ((l.take (i + 1)).map conv ++ List.replicate d z31) ((i + 1 : Nat) : Int)) (fun k => ?_) (ih (i + 1) (by omega))
    simp only [laws_toDartS.l0]
    rw [if_pos (by omega), if_pos (by omega)]
    simp only [laws_toDart.f, Option.bind_some]
    rw [if_pos (by simp; omega), w64s (by omega) hl]
    congr 1
    rw [Int.toNat_natCast, List.replicate_succ, List.set_append_right _ _ (by simp; omega), List.take_succ_eq_append_getElem (by omega)]
    simp only [List.length_map, List.length_take, List.map_append, List.map_cons, List.map_nil, List.append_assoc, List.cons_append, List.nil_append]
    rw [show i - min i l.length = 0 by omega, List.set_cons_zero, rd42 l i (by omega)]
    rfl
theorem toDartS (l : List S42) (hl : l.length ≤ 17592186044416) : Ev (fun k => laws_toDartS.f k l) (l.map conv) := by
  have h := toDartS_l0 l (by omega) l.length 0 (by omega)
  refine Ev.congr (fun k => ?_) h
  unfold laws_toDartS.f
  rw [if_pos (by omega), if_pos (by simpa using hl)]
  simp
theorem eqDartS_l0 (l : List S31) (hl : l.length ≤ 4611686018427387904) (d : Nat) : ∀ i : Nat, i + d = l.length → Ev (fun k => laws_eqDartS.l0 k l l (i : Int)) true := by
  induction d with
  | zero =>
    intro i hi
    refine Ev.step (f := fun _ => some true) (fun k => ?_) (Ev.now _)
    simp only [laws_eqDartS.l0]
    rw [if_neg (by omega)]
  | succ d ih =>
    intro i hi
    refine Ev.step (f := fun k => laws_eqDartS.l0 k l l ((i + 1 : Nat) : Int)) (fun k => ?_) (ih (i + 1) (by omega))
    simp only [laws_eqDartS.l0]
    rw [if_pos (by omega), if_pos (by omega), if_pos (by omega)]
    simp only [laws_eqDart.f, if_true, Option.bind_some]
    rw [w64s (by omega) hl]
theorem eqDartS (l : List S31) (hl : l.length ≤ 4611686018427387904) : Ev (fun k => laws_eqDartS.f k l l) true := by
  refine Ev.congr (fun k => ?_) (eqDartS_l0 l hl l.length 0 (by omega))
  unfold laws_eqDartS.f
  rw [if_pos rfl]; rfl

/-- A dart, told as the reference tells it. -/
def good (x : S31) : Bool := if x.f0 = 25 then decide (1 ≤ x.f1 ∧ x.f1 ≤ 2) else decide ((1 ≤ x.f0 ∧ x.f0 ≤ 20) ∧ 1 ≤ x.f1 ∧ x.f1 ≤ 3)
theorem daGood (a b : Int) : spec_daGood.f a b = some (good ⟨a, b⟩) := by
  simp only [spec_daGood.f, good, in_eq, Option.bind_some]
  by_cases h : a = 25
  · simp [h]
  · by_cases h1 : 1 ≤ a ∧ a ≤ 20
    · simp [h, h1]
    · simp only [h, h1, if_false, decide_false, Bool.false_eq_true, false_and]
theorem isDart (a b : Int) : impl_IsDart.f a b = some (good ⟨a, b⟩) := by
  simp only [impl_IsDart.f, good, within_eq, Option.bind_some]
  by_cases h : a = 25
  · subst h; simp
  · by_cases h1 : 1 ≤ a ∧ a ≤ 20
    · by_cases h2 : 1 ≤ b ∧ b ≤ 3
      · simp [h, h1, h2]
      · simp [h, h1, h2]
    · simp only [h, h1, if_false, decide_false, Bool.false_eq_true, false_and]
theorem indexFunc_l0 (l : List S31) (hl : l.length ≤ 4611686018427387904) (d : Nat) : ∀ i : Nat, i + d = l.length → ∃ r : Int, Ev (fun k => impl_Dart_45.l0 k l (l.length : Int) (i : Int)) r ∧ (r ≥ 0 ↔ (l.drop i).all good = false) := by
  induction d with
  | zero =>
    intro i hi
    refine ⟨-1, Ev.step (f := fun _ => some (-1)) (fun k => ?_) (Ev.now _), ?_⟩
    · simp only [impl_Dart_45.l0]
      rw [if_neg (by omega)]
    · rw [List.drop_of_length_le (by omega)]; simp
  | succ d ih =>
    intro i hi
    obtain ⟨r, hr, hr2⟩ := ih (i + 1) (by omega)
    have hd : l.drop i = l[i]'(by omega) :: l.drop (i + 1) := List.drop_eq_getElem_cons (by omega)
    have hs : ∀ k, impl_Dart_45.l0 (k + 1) l (l.length : Int) (i : Int) = if good (l[i]'(by omega)) = true then impl_Dart_45.l0 k l (l.length : Int) ((i + 1 : Nat) : Int) else some (i : Int) := by
      intro k
      simp only [impl_Dart_45.l0]
      rw [if_pos (by omega), if_pos (by omega), if_pos (by omega), rd31 l i (by omega), w64s (by omega) hl]
      simp only [impl_areDarts_1.f, isDart, Option.bind_some]
      cases good (l[i]'(by omega)) <;> simp
    by_cases hg : good (l[i]'(by omega)) = true
    · refine ⟨r, Ev.step (fun k => by rw [hs, if_pos hg]) hr, ?_⟩
      rw [hr2, hd, List.all_cons, hg, Bool.true_and]
    · refine ⟨i, Ev.step (fun k => by rw [hs, if_neg hg]) (Ev.now _), ?_⟩
      rw [hd, List.all_cons, Bool.eq_false_iff.2 hg, Bool.false_and]
      simp
theorem areDarts (l : List S31) (hl : l.length ≤ 4611686018427387904) : Ev (fun k => impl_areDarts.f k l) (l.all good) := by
  obtain ⟨r, hr, hr2⟩ := indexFunc_l0 l hl l.length 0 (by omega)
  refine Ev.bind (a := !(l.all good)) ?_ ?_
  · refine Ev.bind (a := r) (Ev.congr (fun k => rfl) hr) ?_
    refine Ev.congr (fun k => ?_) (Ev.now _)
    rw [List.drop_zero] at hr2
    cases h : l.all good <;> simp_all
  · exact Ev.congr (fun k => by simp) (Ev.now _)
theorem daList_l0 (l : List S31) (hl : l.length ≤ 4611686018427387904) (d : Nat) : ∀ i : Nat, i + d = l.length → Ev (fun k => spec_daList.l0 k l (l.length : Int) (i : Int)) ((l.drop i).all good) := by
  induction d with
  | zero =>
    intro i hi
    refine Ev.step (f := fun _ => some ((l.drop i).all good)) (fun k => ?_) (Ev.now _)
    simp only [spec_daList.l0]
    rw [if_neg (by omega), List.drop_of_length_le (by omega)]
    simp
  | succ d ih =>
    intro i hi
    have hd : l.drop i = l[i]'(by omega) :: l.drop (i + 1) := List.drop_eq_getElem_cons (by omega)
    have hs : ∀ k, spec_daList.l0 (k + 1) l (l.length : Int) (i : Int) = if good (l[i]'(by omega)) = true then spec_daList.l0 k l (l.length : Int) ((i + 1 : Nat) : Int) else some false := by
      intro k
      simp only [spec_daList.l0]
      rw [if_pos (by omega), if_pos (by omega), if_pos (by omega), rd31 l i (by omega), w64s (by omega) hl]
      simp only [daGood, Option.bind_some]
    rw [hd, List.all_cons]
    by_cases hg : good (l[i]'(by omega)) = true
    · rw [hg, Bool.true_and]
      exact Ev.step (fun k => by rw [hs, if_pos hg]) (ih (i + 1) (by omega))
    · rw [Bool.eq_false_iff.2 hg, Bool.false_and]
      exact Ev.step (fun k => by rw [hs, if_neg hg]) (Ev.now _)
theorem daList (l : List S31) (lo hi : Int) (hl : l.length ≤ 4611686018427387904) : Ev (fun k => spec_daList.f k l lo hi) (decide (lo ≤ (l.length : Int) ∧ (l.length : Int) ≤ hi) && l.all good) := by
  by_cases h : lo ≤ (l.length : Int) ∧ (l.length : Int) ≤ hi
  · refine Ev.congr (fun k => ?_) (by simpa [h] using daList_l0 l hl l.length 0 (by omega))
    simp [spec_daList.f, in_eq, h]
  · refine Ev.congr (fun k => ?_) (Ev.now _)
    simp [spec_daList.f, in_eq, h]
/-- The size that a law lets by. -/
theorem sz (l : List S42) (hl : l.length ≤ 4611686018427387904) : laws_szDartS.f l 1048576 = some (if (l.length : Int) ≤ 1048576 then 1048576 - (l.length : Int) else -1) := by
  unfold laws_szDartS.f
  rw [w64 (by omega) (by omega)]
  by_cases h : (l.length : Int) ≤ 1048576
  · rw [if_neg (by omega), if_pos h]
  · rw [if_pos (by omega), if_neg h]
/-! ### Texts -/
def gd (a b : Int) : Bool := good ⟨a, b⟩
def txt (i j : Nat) : ByteArray := match spec_daText.f 10 (i : Int) (j : Int) with
  | some x => x
  | none => ByteArray.empty
theorem txt_all : (List.range 26).all (fun i => (List.range 4).all (fun j => !(gd (i : Int) (j : Int)) || (decide (spec_daText.f 10 (i : Int) (j : Int) = some (txt i j)) && decide (impl_DartText.f (i : Int) (j : Int) = some (txt i j, true)) && decide ((txt i j).size ≤ 3)))) = true := by kernel_rfl
theorem good_small {d : S31} (h : good d = true) : ∃ i j : Nat, i < 26 ∧ j < 4 ∧ d.f0 = (i : Int) ∧ d.f1 = (j : Int) := by
  refine ⟨d.f0.toNat, d.f1.toNat, ?_⟩
  unfold good at h
  by_cases h1 : d.f0 = 25
  · rw [if_pos h1] at h
    have := of_decide_eq_true h
    omega
  · rw [if_neg h1] at h
    have := of_decide_eq_true h
    omega
def dtxt (d : S31) : ByteArray := txt d.f0.toNat d.f1.toNat
theorem text (d : S31) (h : good d = true) : Ev (fun k => spec_daText.f k d.f0 d.f1) (dtxt d) ∧ impl_DartText.f d.f0 d.f1 = some (dtxt d, true) ∧ (dtxt d).size ≤ 3 := by
  obtain ⟨i, j, hi, hj, h0, h1⟩ := good_small h
  have hg : gd (i : Int) (j : Int) = true := by unfold gd; rw [← h0, ← h1]; exact h
  have ha := List.all_eq_true.1 (List.all_eq_true.1 txt_all i (List.mem_range.2 hi)) j (List.mem_range.2 hj)
  rw [hg, Bool.not_true, Bool.false_or, Bool.and_eq_true, Bool.and_eq_true] at ha
  have e : dtxt d = txt i j := by unfold dtxt; rw [h0, h1, Int.toNat_natCast, Int.toNat_natCast]
  rw [e, h0, h1]
  exact ⟨Ev.of (fun k => spec_daText.mono _ _ k) (k := 10) (of_decide_eq_true ha.1.1), of_decide_eq_true ha.1.2, of_decide_eq_true ha.2⟩
def J (l : List ByteArray) : ByteArray := ⟨(Lib.join (l.map (·.data.toList)) [45]).toArray⟩
theorem join_snoc (x : List UInt8) (r : List (List UInt8)) (y sep : List UInt8) : Lib.join ((x :: r) ++ [y]) sep = (Lib.join (x :: r) sep ++ sep) ++ y := by
  rw [List.cons_append, Lib.join_cons, Lib.join_cons]
  unfold Lib.joinTail
  rw [List.map_append, List.flatten_append]
  simp
theorem J_one (x : ByteArray) : J [x] = x := by
  unfold J
  rw [List.map_cons, List.map_nil, Lib.join_one]
theorem J_snoc (l : List ByteArray) (y : ByteArray) (h : l ≠ []) : J (l ++ [y]) = (J l ++ ⟨#[45]⟩) ++ y := by
  obtain ⟨x, r, rfl⟩ := List.exists_cons_of_ne_nil h
  apply ByteArray.ext
  rw [ByteArray.data_append, ByteArray.data_append]
  unfold J
  rw [List.map_append, List.map_cons, List.map_cons, List.map_nil, join_snoc]
  simp
theorem J_len (l : List ByteArray) (h : ∀ x ∈ l, x.size ≤ 3) : (J l).size ≤ 4 * l.length := by
  have key : ∀ r : List ByteArray, (∀ x ∈ r, x.size ≤ 3) → (Lib.joinTail [45] (r.map (·.data.toList))).length ≤ 4 * r.length := by
    intro r
    induction r with
    | nil => intro _; simp [Lib.joinTail]
    | cons a r ih =>
      intro hr
      have h1 := ih (fun x hx => hr x (List.mem_cons_of_mem _ hx))
      have h2 : a.data.toList.length ≤ 3 := by have := hr a List.mem_cons_self; rw [Array.length_toList]; exact this
      unfold Lib.joinTail at h1 ⊢
      simp only [List.map_cons, List.flatten_cons, List.length_append, List.length_cons, List.length_nil] at h1 ⊢
      omega
  cases l with
  | nil => exact Nat.le_refl 0
  | cons a r =>
    have h1 := key r (fun x hx => h x (List.mem_cons_of_mem _ hx))
    have h2 : a.data.toList.length ≤ 3 := by have := h a List.mem_cons_self; rw [Array.length_toList]; exact this
    show (Lib.join ((a :: r).map (·.data.toList)) [45]).toArray.size ≤ _
    rw [List.size_toArray, List.map_cons, Lib.join_cons, List.length_append, List.length_cons]
    omega
theorem len_txts (l : List S31) (hg : l.all good = true) : ∀ x ∈ l.map dtxt, x.size ≤ 3 := by
  intro x hx
  obtain ⟨d, hd, rfl⟩ := List.mem_map.1 hx
  exact (text d (List.all_eq_true.1 hg d hd)).2.2
theorem spec_l (l : List S31) (hl : l.length ≤ 9) (hg : l.all good = true) (d : Nat) : ∀ i : Nat, i + d = l.length → Ev (fun k => spec_daTexts.l0 k (J ((l.take i).map dtxt)) l (l.length : Int) (i : Int)) (J (l.map dtxt)) := by
  induction d with
  | zero =>
    intro i hi
    refine Ev.step (f := fun _ => some (J (l.map dtxt))) (fun k => ?_) (Ev.now _)
    simp only [spec_daTexts.l0]
    rw [if_neg (by omega), List.take_of_length_le (by omega)]
  | succ d ih =>
    intro i hi
    obtain ⟨t1, _, t3⟩ := text (l[i]'(by omega)) (List.all_eq_true.1 hg _ (List.getElem_mem _))
    have htake : (l.take (i + 1)).map dtxt = (l.take i).map dtxt ++ [dtxt (l[i]'(by omega))] := by rw [List.take_succ_eq_append_getElem (by omega), List.map_append]; rfl
    have hJ : (J ((l.take i).map dtxt)).size ≤ 4 * 9 := by
      have h1 := J_len ((l.take i).map dtxt) (fun x hx => len_txts l hg x (by obtain ⟨e, he, rfl⟩ := List.mem_map.1 hx; exact List.mem_map.2 ⟨e, List.mem_of_mem_take he, rfl⟩))
      rw [List.length_map, List.length_take] at h1
      omega
    have e1 : wrap64 ((i : Int) + 1) = ((i + 1 : Nat) : Int) := w64s (n := 100) (by omega) (by omega)
    have hn := ih (i + 1) (by omega)
    rw [htake] at hn
    by_cases h0 : i = 0
    · subst h0
      have eJ : J ((l.take 0).map dtxt ++ [dtxt (l[0]'(by omega))]) = J ((l.take 0).map dtxt) ++ dtxt (l[0]'(by omega)) := by
        rw [List.take_zero, List.map_nil, List.nil_append, J_one]
        show _ = (⟨#[]⟩ : ByteArray) ++ _
        apply ByteArray.ext
        rw [ByteArray.data_append]
        simp
      refine Ev.step (f := fun k => (spec_daText.f k (l[0]'(by omega)).f0 (l[0]'(by omega)).f1).bind fun t125 => (if (J ((l.take 0).map dtxt)).size + t125.size ≤ 9223372036854775807 then (spec_daTexts.l0 k (J ((l.take 0).map dtxt) ++ t125) l (l.length : Int) (wrap64 (((0 : Nat) : Int) + 1))) else (none))) (fun k => ?_) (Ev.bind t1 ?_)
      · simp only [spec_daTexts.l0]
        rw [if_pos (by omega), if_pos (by omega), if_pos (by omega), if_neg (by omega), rd31 l 0 (by omega)]
      · refine Ev.congr (fun k => ?_) hn
        rw [if_pos (by omega), e1, eJ]
    · have eJ : J ((l.take i).map dtxt ++ [dtxt (l[i]'(by omega))]) = (J ((l.take i).map dtxt) ++ ⟨#[45]⟩) ++ dtxt (l[i]'(by omega)) := J_snoc _ _ (by
        intro e
        have := congrArg List.length e
        rw [List.length_map, List.length_take, List.length_nil] at this
        omega)
      have hz : (J ((l.take i).map dtxt) ++ (⟨#[45]⟩ : ByteArray)).size = (J ((l.take i).map dtxt)).size + 1 := by rw [ByteArray.size_append]; rfl
      refine Ev.step (f := fun k => (spec_daText.f k (l[i]'(by omega)).f0 (l[i]'(by omega)).f1).bind fun t124 => (if (J ((l.take i).map dtxt) ++ (⟨#[45]⟩ : ByteArray)).size + t124.size ≤ 9223372036854775807 then (spec_daTexts.l0 k ((J ((l.take i).map dtxt) ++ (⟨#[45]⟩ : ByteArray)) ++ t124) l (l.length : Int) (wrap64 ((i : Int) + 1))) else (none))) (fun k => ?_) (Ev.bind t1 ?_)
      · simp only [spec_daTexts.l0]
        rw [if_pos (by omega), if_pos (by omega), if_pos (by omega), if_pos (by omega), if_pos (by omega), rd31 l i (by omega)]
      · refine Ev.congr (fun k => ?_) hn
        rw [if_pos (by rw [hz]; omega), e1, eJ]
theorem impl_l (l : List S31) (hl : l.length ≤ 9) (hg : l.all good = true) (d : Nat) : ∀ i : Nat, i + d = l.length → Ev (fun k => impl_DartsText.l0 k ((l.take i).map dtxt) l (l.length : Int) (i : Int)) (J (l.map dtxt), true) := by
  induction d with
  | zero =>
    intro i hi
    have hJ := J_len (l.map dtxt) (len_txts l hg)
    rw [List.length_map] at hJ
    refine Ev.step (f := fun _ => some (J (l.map dtxt), true)) (fun k => ?_) (Ev.now _)
    simp only [impl_DartsText.l0]
    rw [if_neg (by omega), List.take_of_length_le (by omega)]
    unfold strings_Join.f
    rw [if_pos ⟨by rw [List.length_map]; omega, by
      have e : (Lib.join ((l.map dtxt).map (·.data.toList)) (⟨#[45]⟩ : ByteArray).data.toList).length = (J (l.map dtxt)).size := by
        show _ = (Lib.join ((l.map dtxt).map (·.data.toList)) [45]).toArray.size
        rw [List.size_toArray]
      rw [e]; omega⟩]
    rfl
  | succ d ih =>
    intro i hi
    obtain ⟨_, t2, _⟩ := text (l[i]'(by omega)) (List.all_eq_true.1 hg _ (List.getElem_mem _))
    have htake : (l.take (i + 1)).map dtxt = (l.take i).map dtxt ++ [dtxt (l[i]'(by omega))] := by rw [List.take_succ_eq_append_getElem (by omega), List.map_append]; rfl
    have hn := ih (i + 1) (by omega)
    rw [htake] at hn
    refine Ev.step (fun k => ?_) hn
    simp only [impl_DartsText.l0]
    rw [if_pos (by omega), if_pos (by omega), if_pos (by omega), rd31 l i (by omega), t2, Option.bind_some, if_pos (by rw [List.length_map, List.length_take]; omega), w64s (n := 100) (by omega) (by omega)]
theorem both (l : List S31) (hl : l.length ≤ 4611686018427387904) : ∃ r, Ev (fun k => spec_DartsText.f k l) r ∧ Ev (fun k => impl_DartsText.f k l) r := by
  have hd := daList l 1 9 hl
  have ha := areDarts l hl
  have ib : Ev (fun k => impl_DartsText.j0 k l true) (⟨#[]⟩, false) := Ev.step (f := fun _ => some (⟨#[]⟩, false)) (fun k => by simp only [impl_DartsText.j0]; rw [if_pos trivial]) (Ev.now _)
  by_cases h : 1 ≤ (l.length : Int) ∧ (l.length : Int) ≤ 9
  · rw [decide_eq_true h, Bool.true_and] at hd
    have hw : ∀ k, impl_DartsText.f k l = (impl_areDarts.f k l).bind fun t176 => (impl_DartsText.j0 k l (!t176)) := fun k => by unfold impl_DartsText.f; rw [within_eq, decide_eq_true h, Option.bind_some, if_pos rfl]
    cases hg : l.all good with
    | true =>
      rw [hg] at hd ha
      have hsp : Ev (fun k => spec_daTexts.f k l) (J (l.map dtxt)) := Ev.congr (fun k => rfl) (spec_l l (by omega) hg l.length 0 (by omega))
      refine ⟨(J (l.map dtxt), true), Ev.bind hd (Ev.congr (fun k => by rw [if_pos rfl]) (Ev.bind hsp (Ev.now _))), Ev.congr hw (Ev.bind ha (Ev.step (fun k => ?_) (impl_l l (by omega) hg l.length 0 (by omega))))⟩
      simp only [impl_DartsText.j0]
      rw [if_neg (by simp)]; rfl
    | false =>
      rw [hg] at hd ha
      exact ⟨(⟨#[]⟩, false), Ev.bind hd (Ev.congr (fun k => by rw [if_neg Bool.false_ne_true]) (Ev.now ((⟨#[]⟩ : ByteArray), false))), Ev.congr hw (Ev.bind ha ib)⟩
  · rw [decide_eq_false h, Bool.false_and] at hd
    exact ⟨(⟨#[]⟩, false), Ev.bind hd (Ev.congr (fun k => by rw [if_neg Bool.false_ne_true]) (Ev.now ((⟨#[]⟩ : ByteArray), false))), Ev.congr (fun k => by unfold impl_DartsText.f; rw [within_eq, decide_eq_false h, Option.bind_some, if_neg Bool.false_ne_true]) ib⟩
theorem FnExactDartsText : ∀ (l0 : List (S42)), (l0.length ≤ maxLen ∧ ∀ y_l0 ∈ l0, (Lit.int .i64 y_l0.f0).wf = true ∧ (Lit.int .i64 y_l0.f1).wf = true) → (l0.length * 16 ≤ 140737488351232) → ∃ k, laws_FnExactDartsText.f k l0 = some true := by
  intro l _ hlen
  have hs := sz l (by omega)
  by_cases h : (l.length : Int) ≤ 1048576
  · rw [if_pos h] at hs
    obtain ⟨r, hr1, hr2⟩ := both (l.map conv) (by rw [List.length_map]; omega)
    have ht := toDartS l (by omega)
    refine Ev.rounds (Ev.congr (fun k => by unfold laws_FnExactDartsText.f; rw [hs, Option.bind_some, if_neg (by omega)]) (Ev.bind ht (Ev.bind hr1 (Ev.bind ht (Ev.bind hr2 ?_)))))
    refine Ev.congr (fun k => by rw [if_pos rfl, bne_self_eq_false]) (Ev.step (f := fun k => ((laws_toDartS.f k l).bind fun t204 => ((laws_eqDartS.f k (l.map conv) t204).bind fun t207 => (if t207 = true then (some true) else (some false))))) (fun k => by simp only [laws_FnExactDartsText.j0]; rw [if_neg (by simp)]) (Ev.bind ht (Ev.bind (eqDartS (l.map conv) (by rw [List.length_map]; omega)) (Ev.now true))))
  · rw [if_neg h] at hs
    exact ⟨0, by unfold laws_FnExactDartsText.f; rw [hs, Option.bind_some, if_pos (by omega)]⟩

end Go.Proofs.YtgdkedcahcpofaaDoor.Pure
