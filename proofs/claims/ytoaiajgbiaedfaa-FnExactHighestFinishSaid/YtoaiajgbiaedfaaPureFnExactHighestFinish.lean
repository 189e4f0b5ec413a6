/- For every number of darts, the program's HighestFinish answers what the reference's answers. (The pure statement behind the row: over numbers and lists alone.) -/
import Derived.Test.YtoaiajgbiaedfaaPAx56
import Derived.Test.YtoaiajgbiaedfaaLibG
set_option linter.unusedSimpArgs false
namespace Go.Proofs.Ytoaiajgbiaedfaa.Pure
open Go.RowKit Go.Proofs.Ytoaiajgbiaedfaa.PA Go.Proofs.Ytoaiajgbiaedfaa.Lib Go.Proofs.YtoaiajgbiaedfaaW.PrintWords Go.Proofs.YtoaiajgbiaedfaaW.PrintLast

def top (b : Nat) : Nat := match b with | 1 => 50 | 2 => 110 | _ => 170
def chkH (b s : Nat) : Bool := !(Nat.ble 2 (dG s) && Nat.ble (dG s) (Nat.succ b)) || Nat.ble s (top b)
theorem chkH_all : upTo (fun s => chkH 1 s && (chkH 2 s && chkH 3 s)) 1002 = true := by kernel_rfl
theorem top_lt (b : Nat) : 1 ≤ top b ∧ top b ≤ 170 := by
  unfold top; split <;> omega
theorem top_ok (b : Nat) (h1 : 1 ≤ b) (h3 : b ≤ 3) : 0 < lG (top b) ∧ lG (top b) ≤ (b : Int) := by
  rcases (by omega : b = 1 ∨ b = 2 ∨ b = 3) with rfl | rfl | rfl
  · have : dG 50 = 2 := by kernel_rfl
    unfold lG; show 0 < ((dG 50 : Nat) : Int) - 1 ∧ ((dG 50 : Nat) : Int) - 1 ≤ _; rw [this]; omega
  · have : dG 110 = 3 := by kernel_rfl
    unfold lG; show 0 < ((dG 110 : Nat) : Int) - 1 ∧ ((dG 110 : Nat) : Int) - 1 ≤ _; rw [this]; omega
  · have : dG 170 = 4 := by kernel_rfl
    unfold lG; show 0 < ((dG 170 : Nat) : Int) - 1 ∧ ((dG 170 : Nat) : Int) - 1 ≤ _; rw [this]; omega
theorem top_hi (b s : Nat) (h1 : 1 ≤ b) (h3 : b ≤ 3) (hs : s < 1002) (ht : top b < s) : ¬ (0 < lG s ∧ lG s ≤ (b : Int)) := by
  intro h
  have hc : chkH b s = true := by
    have hh := upTo_of chkH_all s hs
    simp only [Bool.and_eq_true] at hh
    rcases (by omega : b = 1 ∨ b = 2 ∨ b = 3) with rfl | rfl | rfl
    · exact hh.1
    · exact hh.2.1
    · exact hh.2.2
  unfold chkH at hc
  unfold lG at h
  rw [Nat.ble_eq_true_of_le (show 2 ≤ dG s by omega), Nat.ble_eq_true_of_le (show dG s ≤ Nat.succ b by omega), Bool.or_eq_true] at hc
  rcases hc with hc | hc
  · exact absurd hc (by decide)
  · have := Nat.le_of_ble_eq_true hc; omega
theorem spec_l0 (b : Nat) (h1 : 1 ≤ b) (h3 : b ≤ 3) (d : Nat) : top b + d ≤ 1001 → Ev (fun k => spec_HighestFinish.l0 k (b : Int) ((top b + d : Nat) : Int)) ((top b : Int), true) := by
  induction d with
  | zero =>
    intro hd
    have h := top_ok b h1 h3
    refine Ev.step (f := fun k => (spec_daCan.f k ((top b + 0 : Nat) : Int) (b : Int)).bind fun t => (if t = true then (some (((top b + 0 : Nat) : Int), true)) else (spec_HighestFinish.l0 k (b : Int) (wrap64 (((top b + 0 : Nat) : Int) - 1))))) (fun k => by simp only [spec_HighestFinish.l0]) (Ev.bind (daCan (top b + 0) b (by omega) h3) ?_)
    exact Ev.congr (fun k => by rw [Nat.add_zero, decide_eq_true h, if_pos rfl]) (Ev.now _)
  | succ d ih =>
    intro hd
    have h := top_hi b (top b + (d + 1)) h1 h3 (by omega) (by omega)
    refine Ev.step (f := fun k => (spec_daCan.f k ((top b + (d + 1) : Nat) : Int) (b : Int)).bind fun t => (if t = true then (some (((top b + (d + 1) : Nat) : Int), true)) else (spec_HighestFinish.l0 k (b : Int) (wrap64 (((top b + (d + 1) : Nat) : Int) - 1))))) (fun k => by simp only [spec_HighestFinish.l0]) (Ev.bind (daCan (top b + (d + 1)) b (by omega) h3) ?_)
    refine Ev.congr (fun k => ?_) (ih (by omega))
    rw [decide_eq_false h, if_neg Bool.false_ne_true, w64 (by omega) (by omega)]
    congr 1; omega
theorem impl_l0 (b : Nat) (h1 : 1 ≤ b) (h3 : b ≤ 3) (d : Nat) : top b + d ≤ 1001 → Ev (fun k => impl_HighestFinish.l0 k (b : Int) (tab 1002 lG) ((top b + d : Nat) : Int)) ((top b : Int), true) := by
  have ht := top_lt b
  induction d with
  | zero =>
    intro hd
    have h := top_ok b h1 h3
    refine Ev.step (f := fun _ => some ((top b : Int), true)) (fun k => ?_) (Ev.now _)
    simp only [impl_HighestFinish.l0]
    rw [Nat.add_zero, if_pos (by omega), if_pos (by omega), if_pos (by rw [tab_len]; omega), tab_rd _ (by omega), within_eq, decide_eq_true (by omega), Option.bind_some, if_pos rfl]
  | succ d ih =>
    intro hd
    have h := top_hi b (top b + (d + 1)) h1 h3 (by omega) (by omega)
    refine Ev.step (fun k => ?_) (ih (by omega))
    simp only [impl_HighestFinish.l0]
    rw [if_pos (by omega), if_pos (by omega), if_pos (by rw [tab_len]; omega), tab_rd _ (by omega), within_eq, decide_eq_false (by omega), Option.bind_some, if_neg Bool.false_ne_true, w64 (by omega) (by omega)]
    congr 1; omega
theorem FnExactHighestFinish : ∀ (a0 : Int), ((Lit.int .i64 a0).wf = true) → ∃ k, laws_FnExactHighestFinish.f k a0 = some true := by
  intro b _
  refine Ev.rounds ?_
  by_cases hb : 1 ≤ b ∧ b ≤ 3
  · obtain ⟨n, hn, rfl⟩ : ∃ n : Nat, (1 ≤ n ∧ n ≤ 3) ∧ b = (n : Int) := ⟨b.toNat, by omega, by omega⟩
    have ht := top_lt n
    have h1 := spec_l0 n hn.1 hn.2 (180 - top n) (by omega)
    have h2 := impl_l0 n hn.1 hn.2 (1001 - top n) (by omega)
    rw [show top n + (180 - top n) = 180 by omega] at h1
    rw [show top n + (1001 - top n) = 1001 by omega] at h2
    have hs : Ev (fun k => spec_HighestFinish.f k (n : Int)) ((top n : Int), true) := Ev.congr (fun k => by unfold spec_HighestFinish.f; rw [daDarts, decide_eq_true hb, Option.bind_some, if_pos rfl]; rfl) h1
    have hi : Ev (fun k => impl_HighestFinish.f k (n : Int)) ((top n : Int), true) := Ev.congr (f := fun k => (impl_fewest.f k true).bind fun t => impl_HighestFinish.l0 k (n : Int) t 1001) (fun k => by unfold impl_HighestFinish.f; rw [isFew, decide_eq_true hb, Option.bind_some, if_pos rfl]) (Ev.bind fewest h2)
    exact Ev.bind hs (Ev.bind hi (Ev.congr (fun k => by rw [if_pos rfl, bne_self_eq_false, if_neg Bool.false_ne_true]) (Ev.now _)))
  · have hs : Ev (fun k => spec_HighestFinish.f k b) (0, false) := Ev.congr (fun k => by unfold spec_HighestFinish.f; rw [daDarts, decide_eq_false hb, Option.bind_some, if_neg Bool.false_ne_true]) (Ev.now _)
    have hi : Ev (fun k => impl_HighestFinish.f k b) (0, false) := Ev.congr (fun k => by unfold impl_HighestFinish.f; rw [isFew, decide_eq_false hb, Option.bind_some, if_neg Bool.false_ne_true]) (Ev.now _)
    exact Ev.bind hs (Ev.bind hi (Ev.congr (fun k => by rw [if_pos rfl, bne_self_eq_false, if_neg Bool.false_ne_true]) (Ev.now _)))

end Go.Proofs.Ytoaiajgbiaedfaa.Pure
