/- Game orders, as the program and the reference tell them. (Plain Lean: no program's memory in sight.) -/
import Derived.Test.YtjnkcgddalbojaaDoorPAx33
import Derived.Test.YtjnkcgddalbojaaDoorPAx31
import Derived.Test.YtjnkcgddalbojaaDoorLibT
import Derived.Test.YtjnkcgddalbojaaDoorLibF
import Derived.Test.YtjnkcgddalbojaaDoorLibW
import Derived.KernelRfl
import Derived.Laws.Strings
set_option linter.unusedSimpArgs false
set_option linter.unusedVariables false
namespace Go.Proofs.YtjnkcgddalbojaaDoor.Pure
open Go.RowKit Go.Proofs.YtjnkcgddalbojaaDoor.PA Go.Proofs.YtjnkcgddalbojaaDoorW.PrintWords Go.Proofs.YtjnkcgddalbojaaDoorW.PrintLast Go.Proofs.YtjnkcgddalbojaaDoorW.PrintMore

/-! ### Game orders -/
def ord (s : ByteArray) (i : Nat) : Nat → Bool
  | 0 => true
  | d + 1 => (ov (cnt s i) ((i : Int) - cnt s i)).isNone && ord s (i + 1) d
theorem next_inv (s : ByteArray) (i : Nat) (h : inv (cnt s i) ((i : Int) - cnt s i)) (ho : ov (cnt s i) ((i : Int) - cnt s i) = none) : inv (cnt s (i + 1)) (((i + 1 : Nat) : Int) - cnt s (i + 1)) := by
  obtain ⟨h1, h2⟩ := inv_next h ho
  simp only [cnt]
  by_cases h97 : bt s (i : Int) = 97
  · rw [if_pos h97]
    have e : ((i + 1 : Nat) : Int) - (cnt s i + 1) = (i : Int) - cnt s i := by omega
    rw [e]; exact h1
  · rw [if_neg h97]
    have e : ((i + 1 : Nat) : Int) - (cnt s i + 0) = (i : Int) - cnt s i + 1 := by omega
    rw [e, Int.add_zero]; exact h2
theorem impl_ord (s : ByteArray) (hp : pts s) (d : Nat) : ∀ (i k : Nat), i + d = s.size → d < k → inv (cnt s i) ((i : Int) - cnt s i) → impl_IsGameOrder.l0 k s i (cnt s i) ((i : Int) - cnt s i) = some (ord s i d) := by
  induction d with
  | zero =>
    intro i k hi hk hv
    obtain ⟨k, rfl⟩ : ∃ m, k = m + 1 := ⟨k - 1, by omega⟩
    simp only [impl_IsGameOrder.l0]
    rw [if_neg (by omega)]; rfl
  | succ d ih =>
    intro i k hi hk hv
    obtain ⟨k, rfl⟩ : ∃ m, k = m + 1 := ⟨k - 1, by omega⟩
    obtain ⟨e1, e2⟩ := decode_pt s i (by omega) (hp i (by omega))
    have hc := cnt_le s i
    have hv' := hv
    unfold inv at hv'
    simp only [impl_IsGameOrder.l0, ord]
    rw [if_pos (by omega), setOver 1 _ _ hv, Option.bind_some]
    cases ho : ov (cnt s i) ((i : Int) - cnt s i) with
    | none =>
      have hn := ih (i + 1) k (by omega) (by omega) (next_inv s i hv ho)
      rw [if_pos (show (wtxt none).toList = [45] from toList_mk [45]), e1, e2]
      by_cases h97 : bt s (i : Int) = 97
      · have c1 : cnt s (i + 1) = cnt s i + 1 := by simp only [cnt]; rw [if_pos h97]
        have c2 : ((i + 1 : Nat) : Int) - cnt s (i + 1) = (i : Int) - cnt s i := by omega
        rw [if_pos h97, w64 (by omega) (by omega), ← c1, ← c2, hn]
        simp
      · have c1 : cnt s (i + 1) = cnt s i := by simp only [cnt]; rw [if_neg h97]; omega
        have c2 : ((i + 1 : Nat) : Int) - cnt s (i + 1) = (i : Int) - cnt s i + 1 := by omega
        rw [if_neg h97, w64 (by omega) (by omega), ← c2, ← c1, hn]
        simp
    | some x =>
      have hne : ¬ (wtxt (some x)).toList = [45] := by
        cases x
        · rw [show (wtxt (some false)).toList = [98] from toList_mk [98]]; decide
        · rw [show (wtxt (some true)).toList = [97] from toList_mk [97]]; decide
      rw [if_neg hne]
      simp
theorem spec_ord (s : ByteArray) (hs : s.size ≤ 140737488351232) (d : Nat) : ∀ (i : Nat), i + d = s.size → inv (cnt s i) ((i : Int) - cnt s i) → Ev (fun k => spec_tnOrder.l0 k s (i : Int)) (ord s i d) := by
  induction d with
  | zero =>
    intro i hi hv
    refine Ev.step (f := fun _ => some true) (fun k => ?_) (Ev.now _)
    simp only [spec_tnOrder.l0]
    rw [if_neg (by omega)]
  | succ d ih =>
    intro i hi hv
    have hw := won_prefix s hs i (by omega)
    refine Ev.step (f := fun k => (spec_tnWon.f k (s.extract 0 i)).bind fun bt265 => ((spec_tnOver.f bt265.1 bt265.2).bind fun t267 => (if t267 = true then (some false) else (spec_tnOrder.l0 k s ((i + 1 : Nat) : Int))))) (fun k => ?_) (Ev.bind hw ?_)
    · simp only [spec_tnOrder.l0]
      rw [if_pos (by omega), if_pos (by omega), if_pos (by omega), w64 (i := (i : Int) + 1) (by omega) (by omega)]
      rfl
    · cases ho : ov (cnt s i) ((i : Int) - cnt s i) with
      | none =>
        have hn := ih (i + 1) (by omega) (next_inv s i hv ho)
        simp only [ord, ho, Option.isNone_none, Bool.true_and]
        exact Ev.congr (fun k => by rw [tnOver _ _ hv, ho, Option.bind_some, if_neg (by simp)]) hn
      | some x =>
        simp only [ord, ho, Option.isNone_some, Bool.false_and]
        exact Ev.congr (f := fun _ => some false) (fun k => by rw [tnOver _ _ hv, ho, Option.bind_some, if_pos (by simp)]) (Ev.now _)
theorem inv0 : inv 0 0 := by unfold inv; omega
def order (s : ByteArray) : Bool := ptsB 13 s && ord s 0 s.size
theorem impl_order (s : ByteArray) (hs : s.size ≤ 140737488351232) : impl_IsGameOrder.f s = some (order s) := by
  unfold impl_IsGameOrder.f order
  rw [isPoints s hs, Option.bind_some]
  by_cases h : ptsB 13 s = true
  · rw [h, if_pos rfl, Bool.true_and]
    exact impl_ord s (of_decide_eq_true h).2 s.size 0 (s.size + 1) (by omega) (by omega) inv0
  · rw [Bool.not_eq_true] at h
    rw [h, if_neg Bool.false_ne_true, Bool.false_and]
theorem spec_order (s : ByteArray) (hs : s.size ≤ 140737488351232) : Ev (fun k => spec_tnOrder.f k s) (order s) := by
  unfold order
  by_cases h13 : (s.size : Int) > 13
  · rw [show ptsB 13 s = false from decide_eq_false (fun h => by have := h.1; omega), Bool.false_and]
    refine Ev.congr (f := fun k => spec_tnOrder.j0 k s true) (fun k => by unfold spec_tnOrder.f; rw [if_pos h13]) (Ev.step (f := fun _ => some false) (fun k => ?_) (Ev.now _))
    simp only [spec_tnOrder.j0]; rw [if_pos trivial]
  · have e : ptsB 300 s = ptsB 13 s := by
      unfold ptsB
      exact decide_eq_decide.2 ⟨fun h => ⟨by omega, h.2⟩, fun h => ⟨by omega, h.2⟩⟩
    refine Ev.congr (f := fun k => (spec_tnPoints.f k s).bind fun t264 => (spec_tnOrder.j0 k s (!t264))) (fun k => by unfold spec_tnOrder.f; rw [if_neg h13]) (Ev.bind (points s hs) ?_)
    rw [e]
    cases ptsB 13 s
    · exact Ev.step (f := fun _ => some false) (fun k => by simp only [spec_tnOrder.j0]; rw [if_pos (by simp)]) (Ev.now _)
    · rw [Bool.true_and]
      refine Ev.step (fun k => ?_) (spec_ord s hs s.size 0 (by omega) inv0)
      simp only [spec_tnOrder.j0]; rw [if_neg (by simp)]; rfl

end Go.Proofs.YtjnkcgddalbojaaDoor.Pure
