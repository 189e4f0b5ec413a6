/- Printed by this session's drive.py (the kit's print.py with hooks): functions of the seat as plain Lean functions, and the proofs that the calls do what these say. -/
import Derived.Test.YtgdkedcahcpofaaDoorPAx0
namespace Go.Proofs.YtgdkedcahcpofaaDoor.PA
open Go.RowKit Go.Proofs.YtgdkedcahcpofaaDoorW.PrintWords Go.Proofs.YtgdkedcahcpofaaDoorW.PrintLast Go.Proofs.YtgdkedcahcpofaaDoorW.PrintMore
open Go.Proofs.YtgdkedcahcpofaaDoorH
attribute [local go_sem] max2_int min2_int max_two min_two max_three min_three max_four min_four   -- for this text's walks alone
set_option linter.unusedVariables false
set_option linter.unusedSimpArgs false

/-! ### strings_Join: function 24 -/
-- by hand
def strings_Join.f (l0 : List (ByteArray)) (a1 : ByteArray) : Option (ByteArray) := if l0.length ≤ 140737488355328 ∧ (Lib.join (l0.map (·.data.toList)) a1.data.toList).length ≤ 140737488355328 then some (⟨(Lib.join (l0.map (·.data.toList)) a1.data.toList).toArray⟩ : ByteArray) else none
theorem strings_Join.calls (A0 : Option Addr) (c0 : Nat) (l0 : List (ByteArray)) (a1 : ByteArray) (r : ByteArray) (w : World) (hr0 : Kd.C Kd.string w A0 l0.length l0) (hc0 : l0.length ≤ c0) (h : strings_Join.f l0 a1 = some r) :
    Calls Tryd.prog 24 #[.slice A0 l0.length c0, .string a1] w fun e w' => e = .returned (.string r) ∧ Below w.heap.size w w' := by
  unfold strings_Join.f at h
  by_cases h0 : l0.length ≤ 140737488355328 ∧ (Lib.join (l0.map (·.data.toList)) a1.data.toList).length ≤ 140737488355328
  · rw [if_pos h0] at h
    cases h
    obtain ⟨_, _, hcell⟩ := hr0
    rcases Nat.eq_zero_or_pos l0.length with hz | hp
    · obtain rfl := List.eq_nil_of_length_eq_zero hz
      exact (Tryd.strings_Join_none A0 c0 a1 w).mono fun e w' ⟨he, hw⟩ => ⟨he, hw ▸ Below.refl _ _⟩
    · obtain ⟨⟨bk, o, sp⟩, rfl, hc⟩ := hcell hp
      have hcs : ∀ (j : Nat) x, l0[j]? = some x → w.cell? (Addr.add ⟨bk, o, sp⟩ j) = some (.string x) := by
        intro j x hj
        obtain ⟨c, hs, hR, hcc⟩ := hc j x hj
        have hR' : c = [Value.string x] := hR
        subst hR'
        have h2 := hcc 0 _ rfl
        rw [show j * Kd.string.sz + 0 = j from by show j * 1 + 0 = j; omega] at h2
        exact h2
      obtain rfl : sp = none := by
        have h1 := hcs 0 _ (List.getElem?_eq_getElem hp)
        simpa [Addr.add] using World.cell?_spot h1
      have hcs2 : ∀ (j : Nat) x, l0[j]? = some x → w.cell? ⟨bk, o + j, none⟩ = some (.string x) := by
        intro j x hj
        have h2 := hcs j x hj
        by_cases hj0 : j = 0
        · subst hj0; exact h2
        · unfold Addr.add at h2
          rw [if_neg hj0] at h2
          exact h2
      exact Tryd.strings_Join bk o c0 l0 a1 w hcs2 (World.block_lt_of_cell? _ _ (hcs2 0 _ (List.getElem?_eq_getElem hp))) h0.1 hc0 h0.2
  · rw [if_neg h0] at h; cases h

end Go.Proofs.YtgdkedcahcpofaaDoor.PA
