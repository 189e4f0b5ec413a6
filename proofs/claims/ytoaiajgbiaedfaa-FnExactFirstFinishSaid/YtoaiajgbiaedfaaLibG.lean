/- Plain lemmas: up to three darts, a finish is where the table of the fewest says so. -/
import Derived.Test.YtoaiajgbiaedfaaLibE
import Derived.Test.YtoaiajgbiaedfaaPAx1052
set_option linter.unusedSimpArgs false
namespace Go.Proofs.Ytoaiajgbiaedfaa.Lib
open Go.RowKit Go.Proofs.Ytoaiajgbiaedfaa.PA Go.Proofs.YtoaiajgbiaedfaaW.PrintWords Go.Proofs.YtoaiajgbiaedfaaW.PrintLast Go.Proofs.YtoaiajgbiaedfaaW.PrintMore
def chkN (n s : Nat) : Bool := (!(Nat.beq (dG s) (Nat.succ (Nat.succ n))) || Nat.blt 0 (eD n s)) && (!(Nat.blt 0 (eD n s)) || (Nat.ble 2 (dG s) && Nat.ble (dG s) (Nat.succ (Nat.succ n))))
theorem chkN_all : upTo (fun s => chkN 0 s && (chkN 1 s && chkN 2 s)) 1002 = true := by kernel_rfl
theorem chkN_of (n s : Nat) (hn : n < 3) (hs : s < 1002) : chkN n s = true := by
  have h := upTo_of chkN_all s hs
  simp only [Bool.and_eq_true] at h
  rcases (by omega : n = 0 ∨ n = 1 ∨ n = 2) with rfl | rfl | rfl
  · exact h.1
  · exact h.2.1
  · exact h.2.2
theorem cntE_small (n s : Nat) (hn : n < 3) : cntE n s = (eD n s : Int) := by
  rw [cntE_cE, eD_eq n s (by omega)]
  have h1 := cE_le n s
  have h2 : 62 ^ (n + 1) ≤ 62 ^ 3 := Nat.pow_le_pow_right (by omega) (by omega)
  have h3 : (62 : Nat) ^ 3 = 238328 := by decide
  exact w64 (by omega) (by omega)
theorem blt0 (x : Nat) : (Nat.blt 0 x = true) ↔ 0 < x := by
  cases x with
  | zero => exact ⟨fun h => absurd h (by decide), fun h => absurd h (by omega)⟩
  | succ x => exact ⟨fun _ => by omega, fun _ => by show Nat.ble 1 (x + 1) = true; exact Nat.ble_eq_true_of_le (by omega)⟩
/-- So many darts are the fewest: then they do. -/
theorem ends_at (n s : Nat) (hn : n < 3) (hs : s < 1002) (h : lG s = ((n + 1 : Nat) : Int)) : cntE n s > 0 := by
  have hc := chkN_of n s hn hs
  unfold chkN at hc
  rw [Bool.and_eq_true, Bool.or_eq_true] at hc
  have hd : dG s = n + 2 := by unfold lG at h; omega
  rw [cntE_small n s hn]
  rcases hc.1 with h1 | h1
  · rw [hd] at h1
    exact absurd h1 (by rw [show Nat.succ (Nat.succ n) = n + 2 from rfl, show Nat.beq (n + 2) (n + 2) = true from Nat.beq_refl (n + 2)]; decide)
  · have := (blt0 _).1 h1; omega
/-- So many darts do: then the fewest are no more. -/
theorem ends_of (n s : Nat) (hn : n < 3) (hs : s < 1002) (h : cntE n s > 0) : 0 < lG s ∧ lG s ≤ ((n + 1 : Nat) : Int) := by
  have hc := chkN_of n s hn hs
  unfold chkN at hc
  rw [cntE_small n s hn] at h
  rw [Bool.and_eq_true, Bool.or_eq_true, Bool.or_eq_true, Bool.and_eq_true] at hc
  rcases hc.2 with h1 | h1
  · rw [(blt0 _).2 (by omega)] at h1
    exact absurd h1 (by decide)
  · have h2 := Nat.le_of_ble_eq_true h1.1
    have h3 := Nat.le_of_ble_eq_true h1.2
    unfold lG; omega
theorem daCan_l0 (s b : Nat) (hs : s < 1002) (hb : b ≤ 3) (d : Nat) : ∀ n : Nat, n + d = b → ¬ (0 < lG s ∧ lG s ≤ (n : Int)) → Ev (fun k => spec_daCan.l0 k (s : Int) (b : Int) ((n + 1 : Nat) : Int)) (decide (0 < lG s ∧ lG s ≤ (b : Int))) := by
  induction d with
  | zero =>
    intro n hn hno
    refine Ev.step (f := fun _ => some (decide (0 < lG s ∧ lG s ≤ (b : Int)))) (fun k => ?_) (Ev.now _)
    simp only [spec_daCan.l0]
    rw [if_neg (by omega), decide_eq_false (by rw [← hn]; exact hno)]
  | succ d ih =>
    intro n hn hno
    refine Ev.step (f := fun k => (spec_daFinishes.f k (s : Int) ((n + 1 : Nat) : Int)).bind fun t => (if t > 0 then (some true) else (spec_daCan.l0 k (s : Int) (b : Int) (wrap64 (((n + 1 : Nat) : Int) + 1))))) (fun k => ?_) (Ev.bind (daFinishes n s (by omega) (by omega)) ?_)
    · simp only [spec_daCan.l0]
      rw [if_pos (by omega)]
    · by_cases h : cntE n s > 0
      · have h2 := ends_of n s (by omega) hs h
        rw [decide_eq_true (by omega)]
        exact Ev.congr (fun k => by rw [if_pos h]) (Ev.now _)
      · refine Ev.congr (fun k => by rw [if_neg h, w64s (n := 1000) (by omega) (by omega)]) (ih (n + 1) (by omega) ?_)
        intro hx
        apply h
        exact ends_at n s (by omega) hs (by omega)
theorem daCan (s b : Nat) (hs : s < 1002) (hb : b ≤ 3) : Ev (fun k => spec_daCan.f k (s : Int) (b : Int)) (decide (0 < lG s ∧ lG s ≤ (b : Int))) :=
  daCan_l0 s b hs hb b 0 (by omega) (by omega)
end Go.Proofs.Ytoaiajgbiaedfaa.Lib
