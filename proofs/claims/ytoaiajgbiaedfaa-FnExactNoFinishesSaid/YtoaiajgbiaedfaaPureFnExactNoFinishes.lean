/- For all numbers, the program's NoFinishes answers what the reference's answers, and another list each time. (The pure statement behind the row: over numbers and lists alone.) -/
import Derived.Test.YtoaiajgbiaedfaaPAx59
import Derived.Test.YtoaiajgbiaedfaaLibG
import Derived.Test.YtoaiajgbiaedfaaLibH
set_option linter.unusedSimpArgs false
namespace Go.Proofs.Ytoaiajgbiaedfaa.Pure
open Go.RowKit Go.Proofs.Ytoaiajgbiaedfaa.PA Go.Proofs.Ytoaiajgbiaedfaa.Lib Go.Proofs.YtoaiajgbiaedfaaW.PrintWords Go.Proofs.YtoaiajgbiaedfaaW.PrintLast

/-! ### The program's -/
def can (b s : Nat) : Bool := decide (0 < lG s ∧ lG s ≤ (b : Int))
def rest (b : Nat) : Nat → Nat → List Int
  | _, 0 => []
  | i, d + 1 => if can b i = true then rest b (i + 1) d else (i : Int) :: rest b (i + 1) d
theorem rest_len (b : Nat) : ∀ d i, (rest b i d).length ≤ d
  | 0, _ => Nat.le_refl _
  | d + 1, i => by
    have := rest_len b d (i + 1)
    unfold rest
    by_cases h : can b i = true
    · rw [if_pos h]; omega
    · rw [if_neg h, List.length_cons]; omega
theorem impl_l0 (m b : Nat) (hm : m ≤ 1001) (d : Nat) : ∀ (i : Nat) (o : List Int), 1 ≤ i → (i = m + 1 ∨ i + d = m + 1 ∨ (d = 0 ∧ m < i)) → i + d = max i (m + 1) → o.length ≤ i → Ev (fun k => impl_NoFinishes.l0 k (m : Int) (b : Int) (tab 1002 lG) o (i : Int)) (o ++ rest b i d, true) := by
  induction d with
  | zero =>
    intro i o h1 _ hi ho
    refine Ev.step (f := fun _ => some (o ++ rest b i 0, true)) (fun k => ?_) (Ev.now _)
    simp only [impl_NoFinishes.l0]
    rw [if_neg (by omega)]
    show some (o, true) = some (o ++ [], true)
    rw [List.append_nil]
  | succ d ih =>
    intro i o h1 _ hi ho
    have hs : ∀ k, impl_NoFinishes.l0 (k + 1) (m : Int) (b : Int) (tab 1002 lG) o (i : Int) = if can b i = true then impl_NoFinishes.l0 k (m : Int) (b : Int) (tab 1002 lG) o ((i + 1 : Nat) : Int) else impl_NoFinishes.l0 k (m : Int) (b : Int) (tab 1002 lG) (o ++ [(i : Int)]) ((i + 1 : Nat) : Int) := by
      intro k
      simp only [impl_NoFinishes.l0]
      rw [if_pos (by omega), if_pos (by omega), if_pos (by rw [tab_len]; omega), tab_rd _ (by omega), within_eq, Option.bind_some, w64s (n := 2000) (by omega) (by omega), if_pos (show o.length < 17592186044416 by omega)]
      rfl
    by_cases h : can b i = true
    · rw [show rest b i (d + 1) = rest b (i + 1) d from if_pos h]
      exact Ev.step (fun k => by rw [hs, if_pos h]) (ih (i + 1) o (by omega) (by omega) (by omega) (by omega))
    · rw [show rest b i (d + 1) = (i : Int) :: rest b (i + 1) d from if_neg h, show o ++ (i : Int) :: rest b (i + 1) d = (o ++ [(i : Int)]) ++ rest b (i + 1) d by rw [List.append_assoc]; rfl]
      exact Ev.step (fun k => by rw [hs, if_neg h]) (ih (i + 1) (o ++ [(i : Int)]) (by omega) (by omega) (by omega) (by rw [List.length_append, List.length_singleton]; omega))
/-! ### The reference's -/
def tabB (n : Nat) (f : Nat → Bool) : List Bool := (List.range n).map f
theorem tabB_len (n : Nat) (f : Nat → Bool) : (tabB n f).length = n := by simp [tabB]
theorem tabB_rd {n : Nat} (f : Nat → Bool) {i : Nat} (h : i < n) : rdOf false (tabB n f) (i : Int) = f i := by
  unfold rdOf tabB
  rw [Int.toNat_natCast, List.getD_eq_getElem?_getD, List.getElem?_map, List.getElem?_range h]; rfl
theorem tabB_congr {n : Nat} {f g : Nat → Bool} (h : ∀ j, j < n → f j = g j) : tabB n f = tabB n g := List.map_congr_left fun j hj => h j (List.mem_range.1 hj)
theorem tabB_set (n : Nat) (f : Nat → Bool) (i : Nat) (v : Bool) : (tabB n f).set i v = tabB n (fun j => if j = i then v else f j) := by
  apply List.ext_getElem
  · simp [tabB]
  · intro j h1 h2
    simp only [tabB, List.getElem_set, List.getElem_map, List.getElem_range]
    by_cases h : i = j
    · subst h; simp
    · rw [if_neg h, if_neg (by omega)]
theorem tabB_none (n : Nat) : tabB n (fun _ => false) = List.replicate n false := by
  apply List.ext_getElem
  · simp [tabB]
  · intro j h1 h2; simp [tabB]
/-- The scores up to i have been told of one more number of darts. -/
def orB (f : Nat → Bool) (g : Nat → Int) (i : Nat) : Nat → Bool := fun j => if j < i then f j || decide (g j > 0) else f j
theorem orB_set (f : Nat → Bool) (g : Nat → Int) (i : Nat) : (tabB 1002 (orB f g i)).set i (f i || decide (g i > 0)) = tabB 1002 (orB f g (i + 1)) := by
  rw [tabB_set]
  refine tabB_congr fun j _ => ?_
  unfold orB
  by_cases h : j = i
  · rw [if_pos h, if_pos (by omega), h]
  · rw [if_neg h]
    by_cases h2 : j < i
    · rw [if_pos h2, if_pos (by omega)]
    · rw [if_neg h2, if_neg (by omega)]
theorem spec_l1 (m : Nat) (hm : m ≤ 1001) (x1 x7 : Int) (f : Nat → Bool) (g : Nat → Int) (r : List Int × Bool) (hr : Ev (fun k => spec_NoFinishes.l0 k (m : Int) x1 (tabB 1002 (orB f g (m + 1))) (wrap64 (x7 + 1))) r) (d : Nat) : ∀ i : Nat, i + d = m + 1 →
    Ev (fun k => spec_NoFinishes.l1 k (m : Int) x1 (tabB 1002 (orB f g i)) x7 (tab (m + 1) g) ((m + 1 : Nat) : Int) (i : Int)) r := by
  induction d with
  | zero =>
    intro i hi
    refine Ev.step (fun k => ?_) hr
    simp only [spec_NoFinishes.l1]
    rw [if_neg (by omega), show i = m + 1 by omega]
  | succ d ih =>
    intro i hi
    refine Ev.step (fun k => ?_) (ih (i + 1) (by omega))
    simp only [spec_NoFinishes.l1]
    have e : orB f g i i = f i := if_neg (by omega)
    rw [if_pos (by omega), if_pos (by omega), if_pos (by rw [tab_len]; omega), if_pos (by rw [tabB_len]; omega), tabB_rd _ (by omega), tab_rd _ (by omega), e, w64s (n := 2000) (by omega) (by omega), Int.toNat_natCast, ← orB_set]
    by_cases h : f i = true
    · rw [if_pos h, h, Bool.true_or]
    · rw [if_neg h, Bool.eq_false_iff.2 h, Bool.false_or]
def cf : Nat → Nat → Bool
  | 0, _ => false
  | n + 1, j => cf n j || decide (cntE n j > 0)
theorem cf_can : ∀ (b j : Nat), b ≤ 3 → j < 1002 → cf b j = can b j
  | 0, j, _, _ => by
    show false = can 0 j
    unfold can
    rw [decide_eq_false (by omega)]
  | n + 1, j, hb, hj => by
    show (cf n j || decide (cntE n j > 0)) = can (n + 1) j
    rw [cf_can n j (by omega) hj]
    unfold can
    by_cases h : 0 < lG j ∧ lG j ≤ ((n + 1 : Nat) : Int)
    · rw [decide_eq_true h]
      by_cases h2 : lG j ≤ (n : Int)
      · rw [decide_eq_true ⟨h.1, h2⟩, Bool.true_or]
      · rw [decide_eq_true (p := cntE n j > 0) (ends_at n j (by omega) hj (by omega)), Bool.or_true]
    · rw [decide_eq_false h, decide_eq_false (fun hx => h ⟨hx.1, by omega⟩), decide_eq_false (fun hx => h (ends_of n j (by omega) hj hx)), Bool.or_false]
theorem spec_l2 (m b : Nat) (hm : m ≤ 1001) (d : Nat) : ∀ (i : Nat) (o : List Int), 1 ≤ i → i + d = max i (m + 1) → o.length ≤ i → Ev (fun k => spec_NoFinishes.l2 k (m : Int) (tabB 1002 (can b)) o (i : Int)) (o ++ rest b i d, true) := by
  induction d with
  | zero =>
    intro i o h1 hi ho
    refine Ev.step (f := fun _ => some (o ++ rest b i 0, true)) (fun k => ?_) (Ev.now _)
    simp only [spec_NoFinishes.l2]
    rw [if_neg (by omega)]
    show some (o, true) = some (o ++ [], true)
    rw [List.append_nil]
  | succ d ih =>
    intro i o h1 hi ho
    have hs : ∀ k, spec_NoFinishes.l2 (k + 1) (m : Int) (tabB 1002 (can b)) o (i : Int) = if can b i = true then spec_NoFinishes.l2 k (m : Int) (tabB 1002 (can b)) o ((i + 1 : Nat) : Int) else spec_NoFinishes.l2 k (m : Int) (tabB 1002 (can b)) (o ++ [(i : Int)]) ((i + 1 : Nat) : Int) := by
      intro k
      simp only [spec_NoFinishes.l2]
      rw [if_pos (by omega), if_pos (by omega), if_pos (by rw [tabB_len]; omega), tabB_rd _ (by omega), w64s (n := 2000) (by omega) (by omega), if_pos (show o.length < 17592186044416 by omega)]
    by_cases h : can b i = true
    · rw [show rest b i (d + 1) = rest b (i + 1) d from if_pos h]
      exact Ev.step (fun k => by rw [hs, if_pos h]) (ih (i + 1) o (by omega) (by omega) (by omega))
    · rw [show rest b i (d + 1) = (i : Int) :: rest b (i + 1) d from if_neg h, show o ++ (i : Int) :: rest b (i + 1) d = (o ++ [(i : Int)]) ++ rest b (i + 1) d by rw [List.append_assoc]; rfl]
      exact Ev.step (fun k => by rw [hs, if_neg h]) (ih (i + 1) (o ++ [(i : Int)]) (by omega) (by omega) (by rw [List.length_append, List.length_singleton]; omega))
def cfm (m n : Nat) : Nat → Bool := fun j => if j < m + 1 then cf n j else false
theorem cfm_or (m n : Nat) : tabB 1002 (orB (cfm m n) (cntE n) (m + 1)) = tabB 1002 (cfm m (n + 1)) := by
  refine tabB_congr fun j _ => ?_
  unfold orB cfm
  by_cases h : j < m + 1
  · rw [if_pos h, if_pos h, if_pos h]; rfl
  · rw [if_neg h, if_neg h, if_neg h]
theorem spec_l2m (m b : Nat) (hm : m ≤ 1001) (hb : b ≤ 3) (d : Nat) : ∀ (i : Nat) (o : List Int), 1 ≤ i → i + d = max i (m + 1) → o.length ≤ i → Ev (fun k => spec_NoFinishes.l2 k (m : Int) (tabB 1002 (cfm m b)) o (i : Int)) (o ++ rest b i d, true) := by
  induction d with
  | zero =>
    intro i o h1 hi ho
    refine Ev.step (f := fun _ => some (o ++ rest b i 0, true)) (fun k => ?_) (Ev.now _)
    simp only [spec_NoFinishes.l2]
    rw [if_neg (by omega)]
    show some (o, true) = some (o ++ [], true)
    rw [List.append_nil]
  | succ d ih =>
    intro i o h1 hi ho
    have hs : ∀ k, spec_NoFinishes.l2 (k + 1) (m : Int) (tabB 1002 (cfm m b)) o (i : Int) = if can b i = true then spec_NoFinishes.l2 k (m : Int) (tabB 1002 (cfm m b)) o ((i + 1 : Nat) : Int) else spec_NoFinishes.l2 k (m : Int) (tabB 1002 (cfm m b)) (o ++ [(i : Int)]) ((i + 1 : Nat) : Int) := by
      intro k
      simp only [spec_NoFinishes.l2]
      rw [if_pos (by omega), if_pos (by omega), if_pos (by rw [tabB_len]; omega), tabB_rd _ (by omega), w64s (n := 2000) (by omega) (by omega), if_pos (show o.length < 17592186044416 by omega), show cfm m b i = can b i from (if_pos (by omega)).trans (cf_can b i hb (by omega))]
    by_cases h : can b i = true
    · rw [show rest b i (d + 1) = rest b (i + 1) d from if_pos h]
      exact Ev.step (fun k => by rw [hs, if_pos h]) (ih (i + 1) o (by omega) (by omega) (by omega))
    · rw [show rest b i (d + 1) = (i : Int) :: rest b (i + 1) d from if_neg h, show o ++ (i : Int) :: rest b (i + 1) d = (o ++ [(i : Int)]) ++ rest b (i + 1) d by rw [List.append_assoc]; rfl]
      exact Ev.step (fun k => by rw [hs, if_neg h]) (ih (i + 1) (o ++ [(i : Int)]) (by omega) (by omega) (by rw [List.length_append, List.length_singleton]; omega))
theorem spec_l0 (m b : Nat) (hm : m ≤ 1001) (hb : b ≤ 3) (d : Nat) : ∀ n : Nat, n + d = b → Ev (fun k => spec_NoFinishes.l0 k (m : Int) (b : Int) (tabB 1002 (cfm m n)) ((n + 1 : Nat) : Int)) (rest b 2 (m - 1), true) := by
  induction d with
  | zero =>
    intro n hn
    have h := spec_l2m m b hm hb (m - 1) 2 [] (by omega) (by omega) (by simp)
    refine Ev.step (fun k => ?_) h
    simp only [spec_NoFinishes.l0]
    rw [if_neg (by omega), show n = b by omega]; rfl
  | succ d ih =>
    intro n hn
    have h := ih (n + 1) (by omega)
    rw [← cfm_or] at h
    have h2 := spec_l1 m hm (b : Int) ((n + 1 : Nat) : Int) (cfm m n) (cntE n) _ (by rw [w64s (n := 1000) (by omega) (by omega)]; exact h) (m + 1) 0 (by omega)
    refine Ev.step (f := fun k => (spec_daCount.f k ((n + 1 : Nat) : Int) (m : Int) true).bind fun t => spec_NoFinishes.l1 k (m : Int) (b : Int) (tabB 1002 (cfm m n)) ((n + 1 : Nat) : Int) t (t.length : Int) 0) (fun k => ?_) (Ev.bind (daCount_ends n m (by omega) hm) ?_)
    · simp only [spec_NoFinishes.l0]
      rw [if_pos (by omega)]
    · rw [tab_len]
      rw [show tabB 1002 (orB (cfm m n) (cntE n) 0) = tabB 1002 (cfm m n) from tabB_congr fun j _ => if_neg (by omega)] at h2
      exact h2
def noV (a b : Int) : List Int × Bool := if (0 ≤ a ∧ a ≤ 1001) ∧ (1 ≤ b ∧ b ≤ 3) then (rest b.toNat 2 (a.toNat - 1), true) else ([], false)
theorem noV_no {a b : Int} (h : ¬ ((0 ≤ a ∧ a ≤ 1001) ∧ (1 ≤ b ∧ b ≤ 3))) : noV a b = ([], false) := if_neg h
theorem noV_yes (m b : Nat) (hm : m ≤ 1001) (hb : 1 ≤ b ∧ b ≤ 3) : noV (m : Int) (b : Int) = (rest b 2 (m - 1), true) := by
  unfold noV
  rw [if_pos (by omega), Int.toNat_natCast, Int.toNat_natCast]
theorem noV_len (a b : Int) : (noV a b).1.length ≤ 2000 := by
  unfold noV
  by_cases h : (0 ≤ a ∧ a ≤ 1001) ∧ (1 ≤ b ∧ b ≤ 3)
  · rw [if_pos h]; have := rest_len b.toNat (a.toNat - 1) 2; show (rest b.toNat 2 (a.toNat - 1)).length ≤ 2000; omega
  · rw [if_neg h]; simp
theorem spec_v (a b : Int) : Ev (fun k => spec_NoFinishes.f k a b) (noV a b) := by
  have hno : Ev (fun k => spec_NoFinishes.j0 k a b true) ([], false) := Ev.step (f := fun _ => some ([], false)) (fun k => by simp only [spec_NoFinishes.j0]; rw [if_pos trivial]) (Ev.now _)
  by_cases ha : 0 ≤ a ∧ a ≤ 1001
  · by_cases hb : 1 ≤ b ∧ b ≤ 3
    · refine Ev.congr (f := fun k => spec_NoFinishes.j0 k a b false) (fun k => by unfold spec_NoFinishes.f; rw [daLeft, decide_eq_true ha, Option.bind_some, if_pos rfl, daDarts, decide_eq_true hb, Option.bind_some]; rfl) ?_
      obtain ⟨m, hm, rfl⟩ : ∃ m : Nat, m ≤ 1001 ∧ a = (m : Int) := ⟨a.toNat, by omega, by omega⟩
      obtain ⟨n, hn, rfl⟩ : ∃ n : Nat, (1 ≤ n ∧ n ≤ 3) ∧ b = (n : Int) := ⟨b.toNat, by omega, by omega⟩
      rw [noV_yes m n hm hn]
      have h := spec_l0 m n hm hn.2 n 0 (by omega)
      rw [show tabB 1002 (cfm m 0) = List.replicate 1002 false from (tabB_congr (g := fun _ => false) fun j _ => ite_self false).trans (tabB_none 1002)] at h
      refine Ev.step (fun k => ?_) h
      simp only [spec_NoFinishes.j0]
      rw [if_neg Bool.false_ne_true, if_pos (by omega)]; rfl
    · rw [noV_no (fun h => hb h.2)]
      exact Ev.congr (fun k => by unfold spec_NoFinishes.f; rw [daLeft, decide_eq_true ha, Option.bind_some, if_pos rfl, daDarts, decide_eq_false hb, Option.bind_some]; rfl) hno
  · rw [noV_no (fun h => ha h.1)]
    exact Ev.congr (fun k => by unfold spec_NoFinishes.f; rw [daLeft, decide_eq_false ha, Option.bind_some, if_neg Bool.false_ne_true]) hno
theorem impl_v (a b : Int) : Ev (fun k => impl_NoFinishes.f k a b) (noV a b) := by
  have hno : Ev (fun k => impl_NoFinishes.j0 k a b true) ([], false) := Ev.step (f := fun _ => some ([], false)) (fun k => by simp only [impl_NoFinishes.j0]; rw [if_pos trivial]) (Ev.now _)
  by_cases ha : 0 ≤ a ∧ a ≤ 1001
  · by_cases hb : 1 ≤ b ∧ b ≤ 3
    · refine Ev.congr (f := fun k => impl_NoFinishes.j0 k a b false) (fun k => by unfold impl_NoFinishes.f; rw [within_eq, decide_eq_true ha, Option.bind_some, if_pos rfl, isFew, decide_eq_true hb, Option.bind_some]; rfl) ?_
      obtain ⟨m, hm, rfl⟩ : ∃ m : Nat, m ≤ 1001 ∧ a = (m : Int) := ⟨a.toNat, by omega, by omega⟩
      obtain ⟨n, hn, rfl⟩ : ∃ n : Nat, (1 ≤ n ∧ n ≤ 3) ∧ b = (n : Int) := ⟨b.toNat, by omega, by omega⟩
      rw [noV_yes m n hm hn]
      have h := impl_l0 m n hm (m - 1) 2 [] (by omega) (by omega) (by omega) (by simp)
      refine Ev.step (f := fun k => (impl_fewest.f k true).bind fun t => impl_NoFinishes.l0 k (m : Int) (n : Int) t [] 2) (fun k => ?_) (Ev.bind fewest h)
      simp only [impl_NoFinishes.j0]
      rw [if_neg Bool.false_ne_true]
    · rw [noV_no (fun h => hb h.2)]
      exact Ev.congr (fun k => by unfold impl_NoFinishes.f; rw [within_eq, decide_eq_true ha, Option.bind_some, if_pos rfl, isFew, decide_eq_false hb, Option.bind_some]; rfl) hno
  · rw [noV_no (fun h => ha h.1)]
    exact Ev.congr (fun k => by unfold impl_NoFinishes.f; rw [within_eq, decide_eq_false ha, Option.bind_some, if_neg Bool.false_ne_true]) hno
theorem FnExactNoFinishes : ∀ (a0 : Int) (a1 : Int), ((Lit.int .i64 a0).wf = true) → ((Lit.int .i64 a1).wf = true) → ∃ k, laws_FnExactNoFinishes.f k a0 a1 = some true := by
  intro a b _ _
  have hl := noV_len a b
  have hj1 : Ev (fun k => laws_FnExactNoFinishes.j1 k (tab (noV a b).1.length (fun j => ((j + 1 : Nat) : Int))) (((noV a b).1.length + 1 : Nat) : Int) false) true := by
    refine Ev.step (fun k => by simp only [laws_FnExactNoFinishes.j1]; rw [if_neg Bool.false_ne_true]) (Ev.bind (heldIntS (noV a b).1.length (by omega)) ?_)
    exact Ev.congr (fun k => by rw [if_neg (by omega), if_pos rfl]) (Ev.now _)
  have hj0 : Ev (fun k => laws_FnExactNoFinishes.j0 k a b (noV a b).1 (noV a b).2 (noV a b).1 false) true := by
    refine Ev.step (fun k => by simp only [laws_FnExactNoFinishes.j0]; rw [if_neg Bool.false_ne_true]) (Ev.bind (markIntS (noV a b).1 (by omega)) (Ev.bind (heldIntS (noV a b).1.length (by omega)) ?_))
    refine Ev.congr (fun k => by rw [if_neg (by omega), if_pos rfl]) (Ev.bind (impl_v a b) (Ev.bind (eqIntS (noV a b).1 (by omega)) ?_))
    exact Ev.congr (fun k => by rw [if_pos rfl, bne_self_eq_false]) hj1
  refine Ev.rounds (Ev.bind (spec_v a b) (Ev.bind (impl_v a b) (Ev.bind (eqIntS (noV a b).1 (by omega)) ?_)))
  exact Ev.congr (fun k => by rw [if_pos rfl, bne_self_eq_false]) hj0

end Go.Proofs.Ytoaiajgbiaedfaa.Pure
