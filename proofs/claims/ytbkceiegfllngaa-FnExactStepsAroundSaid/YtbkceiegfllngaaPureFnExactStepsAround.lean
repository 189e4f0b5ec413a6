/- For all whole numbers a and b, the program's StepsAround answers what the reference's answers. (The pure statement behind the row: over numbers and lists alone.) -/
import Derived.Test.YtbkceiegfllngaaPFnExactStepsAroundx1
namespace Go.Proofs.Ytbkceiegfllngaa.Pure
open Go.RowKit Go.Proofs.Ytbkceiegfllngaa.PFnExactStepsAround Go.Proofs.YtbkceiegfllngaaW.PrintWords Go.Proofs.YtbkceiegfllngaaW.PrintLast

theorem ring_cases {a : Int} (h : 1 ≤ a) (h' : a ≤ 20) : a = 1 ∨ a = 2 ∨ a = 3 ∨ a = 4 ∨ a = 5 ∨ a = 6 ∨ a = 7 ∨ a = 8 ∨ a = 9 ∨ a = 10 ∨ a = 11 ∨ a = 12 ∨ a = 13 ∨ a = 14 ∨ a = 15 ∨ a = 16 ∨ a = 17 ∨ a = 18 ∨ a = 19 ∨ a = 20 := by omega
theorem index_none {a : Int} (h : ¬ (1 ≤ a ∧ a ≤ 20)) : slices_Index_int_int.f 21 [20, 1, 18, 4, 13, 6, 10, 15, 2, 17, 3, 19, 7, 16, 8, 11, 14, 9, 12, 5] a = some (-1) := by
  have n1 : ¬ a = 1 := by omega
  have n2 : ¬ a = 2 := by omega
  have n3 : ¬ a = 3 := by omega
  have n4 : ¬ a = 4 := by omega
  have n5 : ¬ a = 5 := by omega
  have n6 : ¬ a = 6 := by omega
  have n7 : ¬ a = 7 := by omega
  have n8 : ¬ a = 8 := by omega
  have n9 : ¬ a = 9 := by omega
  have n10 : ¬ a = 10 := by omega
  have n11 : ¬ a = 11 := by omega
  have n12 : ¬ a = 12 := by omega
  have n13 : ¬ a = 13 := by omega
  have n14 : ¬ a = 14 := by omega
  have n15 : ¬ a = 15 := by omega
  have n16 : ¬ a = 16 := by omega
  have n17 : ¬ a = 17 := by omega
  have n18 : ¬ a = 18 := by omega
  have n19 : ¬ a = 19 := by omega
  have n20 : ¬ a = 20 := by omega
  simp [slices_Index_int_int.f, slices_Index_int_int.l0, rd, wrap64, *]
/-- Where a number stands: both sides tell the same place. -/
theorem place (a : Int) (h : 1 ≤ a ∧ a ≤ 20) : ∃ i : Int, 0 ≤ i ∧ i < 20 ∧ slices_Index_int_int.f 21 [20, 1, 18, 4, 13, 6, 10, 15, 2, 17, 3, 19, 7, 16, 8, 11, 14, 9, 12, 5] a = some i ∧ spec_daPlace.f 21 a = some i := by
  rcases ring_cases h.1 h.2 with h | h | h | h | h | h | h | h | h | h | h | h | h | h | h | h | h | h | h | h <;> subst h
  · exact ⟨1, by decide +kernel⟩
  · exact ⟨8, by decide +kernel⟩
  · exact ⟨10, by decide +kernel⟩
  · exact ⟨3, by decide +kernel⟩
  · exact ⟨19, by decide +kernel⟩
  · exact ⟨5, by decide +kernel⟩
  · exact ⟨12, by decide +kernel⟩
  · exact ⟨14, by decide +kernel⟩
  · exact ⟨17, by decide +kernel⟩
  · exact ⟨6, by decide +kernel⟩
  · exact ⟨15, by decide +kernel⟩
  · exact ⟨18, by decide +kernel⟩
  · exact ⟨4, by decide +kernel⟩
  · exact ⟨16, by decide +kernel⟩
  · exact ⟨7, by decide +kernel⟩
  · exact ⟨13, by decide +kernel⟩
  · exact ⟨9, by decide +kernel⟩
  · exact ⟨2, by decide +kernel⟩
  · exact ⟨11, by decide +kernel⟩
  · exact ⟨0, by decide +kernel⟩
theorem in_true {a : Int} (h : 1 ≤ a ∧ a ≤ 20) : spec_l1In.f a 1 20 = some true := by
  unfold spec_l1In.f; rw [if_pos h.1, decide_eq_true h.2]
theorem in_false {a : Int} (h : ¬ (1 ≤ a ∧ a ≤ 20)) : spec_l1In.f a 1 20 = some false := by
  unfold spec_l1In.f; by_cases h1 : 1 ≤ a
  · rw [if_pos h1]; congr 1; exact decide_eq_false (by omega)
  · rw [if_neg h1]
theorem arith : ∀ i : Fin 20, ∀ k : Fin 20, (spec_l1Abs.f (wrap64 ((i.val : Int) - k.val))).bind (fun t => spec_l1Least.f t (wrap64 (20 - t))) = some (mn (Int.tmod (wrap64 ((wrap64 ((i.val : Int) - k.val)) + 20)) 20) (wrap64 (20 - (Int.tmod (wrap64 ((wrap64 ((i.val : Int) - k.val)) + 20)) 20)))) := by decide +kernel
theorem arith' (i k : Int) (hi : 0 ≤ i) (hi' : i < 20) (hk : 0 ≤ k) (hk' : k < 20) : ∃ t, spec_l1Abs.f (wrap64 (i - k)) = some t ∧ spec_l1Least.f t (wrap64 (20 - t)) = some (mn (Int.tmod (wrap64 ((wrap64 (i - k)) + 20)) 20) (wrap64 (20 - (Int.tmod (wrap64 ((wrap64 (i - k)) + 20)) 20)))) := by
  have h := arith ⟨i.toNat, by omega⟩ ⟨k.toNat, by omega⟩
  rw [show ((i.toNat : Nat) : Int) = i by omega, show ((k.toNat : Nat) : Int) = k by omega] at h
  obtain ⟨t, ht, h2⟩ := Option.bind_eq_some_iff.mp h
  exact ⟨t, ht, h2⟩
theorem FnExactStepsAround : laws_FnExactStepsAround.Pure := by
  intro a b _ _
  refine ⟨22, ?_⟩
  have mi : ∀ c r, slices_Index_int_int.f 21 [20, 1, 18, 4, 13, 6, 10, 15, 2, 17, 3, 19, 7, 16, 8, 11, 14, 9, 12, 5] c = some r → slices_Index_int_int.f 22 [20, 1, 18, 4, 13, 6, 10, 15, 2, 17, 3, 19, 7, 16, 8, 11, 14, 9, 12, 5] c = some r := fun c r h => slices_Index_int_int.mono _ _ 21 r h
  unfold laws_FnExactStepsAround.f spec_StepsAround.f impl_StepsAround.f impl_ring.f
  by_cases ha : 1 ≤ a ∧ a ≤ 20
  · obtain ⟨i, i0, i1, hi, hi'⟩ := place a ha
    by_cases hb : 1 ≤ b ∧ b ≤ 20
    · obtain ⟨k, k0, k1, hk, hk'⟩ := place b hb
      obtain ⟨t, ht, ht'⟩ := arith' i k i0 i1 k0 k1
      rw [in_true ha, in_true hb]
      simp only [Option.bind_some, if_true, Bool.not_true, spec_StepsAround.j0, Bool.false_eq_true, if_false, hi', hk', ht, ht', mi a i hi, mi b k hk]
      rw [if_neg (by omega), if_neg (by omega)]
      simp
    · rw [in_true ha, in_false hb]
      simp only [Option.bind_some, if_true, Bool.not_false, spec_StepsAround.j0, mi a i hi, mi b _ (index_none hb)]
      rw [if_neg (by omega), if_pos (by omega)]
      simp
  · rw [in_false ha]
    by_cases hb : 1 ≤ b ∧ b ≤ 20
    · obtain ⟨k, k0, k1, hk, hk'⟩ := place b hb
      simp [spec_StepsAround.j0, mi a _ (index_none ha), mi b k hk]
    · simp [spec_StepsAround.j0, mi a _ (index_none ha), mi b _ (index_none hb)]

end Go.Proofs.Ytbkceiegfllngaa.Pure
