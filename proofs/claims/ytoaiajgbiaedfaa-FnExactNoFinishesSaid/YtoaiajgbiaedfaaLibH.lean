/- Plain lemmas on the printed functions over lists of numbers: eqIntS of a list with itself is true; what markIntS wrote heldIntS finds. -/
import Derived.Test.YtoaiajgbiaedfaaLibB
import Derived.Test.YtoaiajgbiaedfaaPAx24
import Derived.Test.YtoaiajgbiaedfaaPAx27
import Derived.Test.YtoaiajgbiaedfaaPAx28
set_option linter.unusedSimpArgs false
namespace Go.Proofs.Ytoaiajgbiaedfaa.Lib
open Go.RowKit Go.Proofs.Ytoaiajgbiaedfaa.PA Go.Proofs.YtoaiajgbiaedfaaW.PrintWords Go.Proofs.YtoaiajgbiaedfaaW.PrintLast Go.Proofs.YtoaiajgbiaedfaaW.PrintMore
theorem eqIntS_l0 (l : List Int) (hl : l.length ≤ 4611686018427387904) (d : Nat) : ∀ i : Nat, i + d = l.length → Ev (fun k => laws_eqIntS.l0 k l l (i : Int)) true := by
  induction d with
  | zero =>
    intro i hi
    refine Ev.step (f := fun _ => some true) (fun k => ?_) (Ev.now _)
    simp only [laws_eqIntS.l0]
    rw [if_neg (by omega)]
  | succ d ih =>
    intro i hi
    refine Ev.step (f := fun k => laws_eqIntS.l0 k l l ((i + 1 : Nat) : Int)) (fun k => ?_) (ih (i + 1) (by omega))
    simp only [laws_eqIntS.l0]
    rw [if_pos (by omega), if_pos (by omega), if_pos (by omega), if_pos trivial, w64s (by omega) hl]
theorem eqIntS (l : List Int) (hl : l.length ≤ 4611686018427387904) : Ev (fun k => laws_eqIntS.f k l l) true := by
  refine Ev.congr (fun k => ?_) (eqIntS_l0 l hl l.length 0 (by omega))
  unfold laws_eqIntS.f
  rw [if_pos rfl]; rfl
theorem tab_self (l : List Int) : tab l.length (fun j => l.getD j 0) = l := by
  apply List.ext_getElem
  · simp [tab]
  · intro j h1 h2
    simp [tab, List.getD, h2]
def marked (f : Nat → Int) (i : Nat) : Nat → Int := fun j => if j < i then ((j + 1 : Nat) : Int) else f j
theorem marked_set (n : Nat) (f : Nat → Int) (i : Nat) : (tab n (marked f i)).set i ((i + 1 : Nat) : Int) = tab n (marked f (i + 1)) := by
  rw [tab_set]
  refine tab_congr fun j _ => ?_
  unfold marked
  by_cases h : j = i
  · rw [if_pos h, if_pos (by omega), h]
  · rw [if_neg h]
    by_cases h2 : j < i
    · rw [if_pos h2, if_pos (by omega)]
    · rw [if_neg h2, if_neg (by omega)]
theorem mark_l0 (n : Nat) (hn : n ≤ 4000000000000000000) (f : Nat → Int) (d : Nat) : ∀ i : Nat, i + d = n → Ev (fun k => laws_markIntS.l0 k (tab n (marked f i)) ((i + 1 : Nat) : Int) (i : Int)) (((n + 1 : Nat) : Int), tab n (fun j => ((j + 1 : Nat) : Int))) := by
  induction d with
  | zero =>
    intro i hi
    refine Ev.step (f := fun _ => some (((n + 1 : Nat) : Int), tab n (fun j => ((j + 1 : Nat) : Int)))) (fun k => ?_) (Ev.now _)
    simp only [laws_markIntS.l0]
    rw [if_neg (by rw [tab_len]; omega), show i = n by omega]
    congr 2
    exact tab_congr fun j hj => if_pos hj
  | succ d ih =>
    intro i hi
    refine Ev.step (fun k => ?_) (ih (i + 1) (by omega))
    simp only [laws_markIntS.l0]
    rw [if_pos (by rw [tab_len]; omega), if_pos (by omega), Int.toNat_natCast, marked_set, w64s (n := 4611686018427387904) (by omega) (by omega), w64s (n := 4611686018427387904) (by omega) (by omega)]
theorem markIntS (l : List Int) (hl : l.length ≤ 4000000000000000000) : Ev (fun k => laws_markIntS.f k l 1) (((l.length + 1 : Nat) : Int), tab l.length (fun j => ((j + 1 : Nat) : Int))) := by
  have h := mark_l0 l.length hl (fun j => l.getD j 0) l.length 0 (by omega)
  rw [show tab l.length (marked (fun j => l.getD j 0) 0) = l from (tab_congr fun j _ => if_neg (by omega)).trans (tab_self l)] at h
  exact Ev.congr (fun k => rfl) h
theorem held_l0 (n : Nat) (hn : n ≤ 4000000000000000000) (d : Nat) : ∀ i : Nat, i + d = n → Ev (fun k => laws_heldIntS.l0 k (tab n (fun j => ((j + 1 : Nat) : Int))) ((i + 1 : Nat) : Int) (i : Int)) ((n + 1 : Nat) : Int) := by
  induction d with
  | zero =>
    intro i hi
    refine Ev.step (f := fun _ => some ((n + 1 : Nat) : Int)) (fun k => ?_) (Ev.now _)
    simp only [laws_heldIntS.l0]
    rw [if_neg (by rw [tab_len]; omega), show i = n by omega]
  | succ d ih =>
    intro i hi
    refine Ev.step (fun k => ?_) (ih (i + 1) (by omega))
    simp only [laws_heldIntS.l0]
    rw [if_pos (by rw [tab_len]; omega), if_pos (by omega), tab_rd _ (by omega), if_pos rfl, w64s (n := 4611686018427387904) (by omega) (by omega), w64s (n := 4611686018427387904) (by omega) (by omega)]
theorem heldIntS (n : Nat) (hn : n ≤ 4000000000000000000) : Ev (fun k => laws_heldIntS.f k (tab n (fun j => ((j + 1 : Nat) : Int))) 1) ((n + 1 : Nat) : Int) :=
  Ev.congr (fun k => rfl) (held_l0 n hn n 0 (by omega))
end Go.Proofs.Ytoaiajgbiaedfaa.Lib
