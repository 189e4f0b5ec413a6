/- Plain lemmas on the printed functions over lists of darts: eqDartS of a list with itself is true; what markDartS wrote heldDartS finds. -/
import Derived.Test.YtoaiajgbiaedfaaLibB
import Derived.Test.YtoaiajgbiaedfaaPAx10
import Derived.Test.YtoaiajgbiaedfaaPAx26
import Derived.Test.YtoaiajgbiaedfaaPAx63
set_option linter.unusedSimpArgs false
namespace Go.Proofs.Ytoaiajgbiaedfaa.Lib
open Go.RowKit Go.Proofs.Ytoaiajgbiaedfaa.PA Go.Proofs.YtoaiajgbiaedfaaW.PrintWords Go.Proofs.YtoaiajgbiaedfaaW.PrintLast Go.Proofs.YtoaiajgbiaedfaaW.PrintMore
theorem eqDs_l0 (l : List S58) (hl : l.length ≤ 4611686018427387904) (d : Nat) : ∀ i : Nat, i + d = l.length → Ev (fun k => laws_eqDartS.l0 k l l (i : Int)) true := by
  induction d with
  | zero =>
    intro i hi
    refine Ev.step (f := fun _ => some true) (fun k => ?_) (Ev.now _)
    simp only [laws_eqDartS.l0]
    rw [if_neg (by omega)]
  | succ d ih =>
    intro i hi
    refine Ev.step (f := fun k => laws_eqDartS.l0 k l l ((i + 1 : Nat) : Int)) (fun k => ?_) (ih (i + 1) (by omega))
    simp only [laws_eqDartS.l0]
    rw [if_pos (by omega), if_pos (by omega), if_pos (by omega)]
    simp only [laws_eqDart.f, if_true, Option.bind_some]
    rw [w64s (by omega) hl]
theorem eqDs (l : List S58) (hl : l.length ≤ 4611686018427387904) : Ev (fun k => laws_eqDartS.f k l l) true := by
  refine Ev.congr (fun k => ?_) (eqDs_l0 l hl l.length 0 (by omega))
  unfold laws_eqDartS.f
  rw [if_pos rfl]; rfl
def tabD (n : Nat) (f : Nat → S58) : List S58 := (List.range n).map f
theorem tabD_len (n : Nat) (f : Nat → S58) : (tabD n f).length = n := by simp [tabD]
theorem tabD_rd {n : Nat} (f : Nat → S58) {i : Nat} (h : i < n) : rd_T58 (tabD n f) (i : Int) = f i := by
  rw [rd58 _ i (by rw [tabD_len]; exact h)]
  simp [tabD]
theorem tabD_congr {n : Nat} {f g : Nat → S58} (h : ∀ j, j < n → f j = g j) : tabD n f = tabD n g := List.map_congr_left fun j hj => h j (List.mem_range.1 hj)
theorem tabD_set (n : Nat) (f : Nat → S58) (i : Nat) (v : S58) : (tabD n f).set i v = tabD n (fun j => if j = i then v else f j) := by
  apply List.ext_getElem
  · simp [tabD]
  · intro j h1 h2
    simp only [tabD, List.getElem_set, List.getElem_map, List.getElem_range]
    by_cases h : i = j
    · subst h; simp
    · rw [if_neg h, if_neg (by omega)]
theorem tabD_self (l : List S58) : tabD l.length (fun j => l.getD j z58) = l := by
  apply List.ext_getElem
  · simp [tabD]
  · intro j h1 h2
    simp [tabD, List.getD, h2]
def mk2 (j : Nat) : S58 := ⟨((2 * j + 1 : Nat) : Int), ((2 * j + 2 : Nat) : Int)⟩
def markD (f : Nat → S58) (i : Nat) : Nat → S58 := fun j => if j < i then mk2 j else f j
theorem markD_set (n : Nat) (f : Nat → S58) (i : Nat) (v : S58) : ((tabD n (markD f i)).set i v).set i (mk2 i) = tabD n (markD f (i + 1)) := by
  rw [tabD_set, tabD_set]
  refine tabD_congr fun j _ => ?_
  unfold markD
  by_cases h : j = i
  · rw [if_pos h, if_pos (by omega), h]
  · rw [if_neg h, if_neg h]
    by_cases h2 : j < i
    · rw [if_pos h2, if_pos (by omega)]
    · rw [if_neg h2, if_neg (by omega)]
theorem set_rd (n : Nat) (f : Nat → S58) (i : Nat) (h : i < n) (v : S58) : rd_T58 ((tabD n f).set i v) (i : Int) = v := by
  rw [tabD_set, tabD_rd _ h, if_pos rfl]
theorem markDs_l0 (n : Nat) (hn : n ≤ 1000000000000000000) (f : Nat → S58) (d : Nat) : ∀ i : Nat, i + d = n → Ev (fun k => laws_markDartS.l0 k (tabD n (markD f i)) ((2 * i + 1 : Nat) : Int) (i : Int)) (((2 * n + 1 : Nat) : Int), tabD n mk2) := by
  induction d with
  | zero =>
    intro i hi
    refine Ev.step (f := fun _ => some (((2 * n + 1 : Nat) : Int), tabD n mk2)) (fun k => ?_) (Ev.now _)
    simp only [laws_markDartS.l0]
    rw [if_neg (by rw [tabD_len]; omega), show i = n by omega]
    congr 2
    exact tabD_congr fun j hj => if_pos hj
  | succ d ih =>
    intro i hi
    refine Ev.step (fun k => ?_) (ih (i + 1) (by omega))
    simp only [laws_markDartS.l0]
    rw [if_pos (by rw [tabD_len]; omega), if_pos (by omega), Int.toNat_natCast, Option.bind_some, set_rd n _ i (by omega), tabD_rd _ (by omega), w64s (n := 4611686018427387904) (by omega) (by omega), w64s (n := 4611686018427387904) (by omega) (by omega), w64s (n := 4611686018427387904) (by omega) (by omega)]
    congr 1
    exact markD_set n f i _
theorem markDs (l : List S58) (hl : l.length ≤ 1000000000000000000) : Ev (fun k => laws_markDartS.f k l 1) (((2 * l.length + 1 : Nat) : Int), tabD l.length mk2) := by
  have h := markDs_l0 l.length hl (fun j => l.getD j z58) l.length 0 (by omega)
  rw [show tabD l.length (markD (fun j => l.getD j z58) 0) = l from (tabD_congr fun j _ => if_neg (by omega)).trans (tabD_self l)] at h
  exact Ev.congr (fun k => rfl) h
theorem heldDs_l0 (n : Nat) (hn : n ≤ 1000000000000000000) (d : Nat) : ∀ i : Nat, i + d = n → Ev (fun k => laws_heldDartS.l0 k (tabD n mk2) ((2 * i + 1 : Nat) : Int) (i : Int)) ((2 * n + 1 : Nat) : Int) := by
  induction d with
  | zero =>
    intro i hi
    refine Ev.step (f := fun _ => some ((2 * n + 1 : Nat) : Int)) (fun k => ?_) (Ev.now _)
    simp only [laws_heldDartS.l0]
    rw [if_neg (by rw [tabD_len]; omega), show i = n by omega]
  | succ d ih =>
    intro i hi
    refine Ev.step (fun k => ?_) (ih (i + 1) (by omega))
    simp only [laws_heldDartS.l0]
    rw [if_pos (by rw [tabD_len]; omega), if_pos (by omega), tabD_rd _ (by omega), w64s (n := 4611686018427387904) (by omega) (by omega), if_pos (show (mk2 i).f0 = ((2 * i + 1 : Nat) : Int) from rfl), if_pos (show (mk2 i).f1 = ((2 * i + 1 + 1 : Nat) : Int) from rfl), w64s (n := 4611686018427387904) (by omega) (by omega), w64s (n := 4611686018427387904) (by omega) (by omega)]
    rfl
theorem heldDs (n : Nat) (hn : n ≤ 1000000000000000000) : Ev (fun k => laws_heldDartS.f k (tabD n mk2) 1) ((2 * n + 1 : Nat) : Int) :=
  Ev.congr (fun k => rfl) (heldDs_l0 n hn n 0 (by omega))
end Go.Proofs.Ytoaiajgbiaedfaa.Lib
