/- Printed by this session's drive.py (the kit's print.py with hooks): functions of the seat as plain Lean functions, and the proofs that the calls do what these say. -/
import Derived.Test.YtoaiajgbiaedfaaPAx0
import Derived.Test.YtoaiajgbiaedfaaPAx7
import Derived.Test.YtoaiajgbiaedfaaPAx39
namespace Go.Proofs.Ytoaiajgbiaedfaa.PA
open Go.RowKit Go.Proofs.YtoaiajgbiaedfaaW.PrintWords Go.Proofs.YtoaiajgbiaedfaaW.PrintLast Go.Proofs.YtoaiajgbiaedfaaW.PrintMore
open Go.Proofs.YtoaiajgbiaedfaaH
attribute [local go_sem] max2_int min2_int max_two min_two max_three min_three max_four min_four   -- for this text's walks alone
set_option linter.unusedVariables false
set_option linter.unusedSimpArgs false

/-! ### impl_fewest: function 72 -/
mutual
def impl_fewest.l0 : Nat → Bool → List Int → Int → Option (List Int)
  | 0, _, _, _ => none
  | k + 1, x0, x3, x4 => if x4 ≤ 1001 then (if 0 ≤ x4 then (if x4 < (x3.length : Int) then ((impl_board.f k).bind fun t422 => (impl_fewest.l1 k x0 (x3.set (x4 : Int).toNat (-1)) x4 t422 (t422.length : Int) 0)) else (none)) else (none)) else (if x0 = true then (if 1002 ≤ 35184372088832 then ((some (List.replicate 1002 0 : List Int)).bind fun y437 => (impl_fewest.l2 k x3 y437 (y437.length : Int) 0)) else (none)) else (some x3))
def impl_fewest.l1 : Nat → Bool → List Int → Int → List (S58) → Int → Int → Option (List Int)
  | 0, _, _, _, _, _, _ => none
  | k + 1, x0, x3, x4, x19, x20, x21 => if x21 < x20 then (if 0 ≤ x21 then (if x21 < (x19.length : Int) then ((impl_Dart_score.f ((rd_T58 x19 x21).f0) ((rd_T58 x19 x21).f1)).bind fun t427 => (if t427 ≤ x4 then ((impl_Dart_score.f ((rd_T58 x19 x21).f0) ((rd_T58 x19 x21).f1)).bind fun t428 => (if 0 ≤ (wrap64 (x4 - t428)) then (if (wrap64 (x4 - t428)) < (x3.length : Int) then (if (rd x3 (wrap64 (x4 - t428))) ≥ 0 then (if 0 ≤ x4 then (if x4 < (x3.length : Int) then (if (rd x3 x4) < 0 then (impl_fewest.j2 k x0 x3 x4 x19 x20 x21 true ((rd_T58 x19 x21).f0) ((rd_T58 x19 x21).f1)) else ((impl_Dart_score.f ((rd_T58 x19 x21).f0) ((rd_T58 x19 x21).f1)).bind fun t431 => (if 0 ≤ (wrap64 (x4 - t431)) then (if (wrap64 (x4 - t431)) < (x3.length : Int) then (impl_fewest.j2 k x0 x3 x4 x19 x20 x21 (decide ((wrap64 ((rd x3 (wrap64 (x4 - t431))) + 1)) < (rd x3 x4))) ((rd_T58 x19 x21).f0) ((rd_T58 x19 x21).f1)) else (none)) else (none)))) else (none)) else (none)) else (impl_fewest.j2 k x0 x3 x4 x19 x20 x21 false ((rd_T58 x19 x21).f0) ((rd_T58 x19 x21).f1))) else (none)) else (none))) else (impl_fewest.j2 k x0 x3 x4 x19 x20 x21 false ((rd_T58 x19 x21).f0) ((rd_T58 x19 x21).f1)))) else (none)) else (none)) else (impl_fewest.l0 k x0 x3 (wrap64 (x4 + 1)))
def impl_fewest.j2 : Nat → Bool → List Int → Int → List (S58) → Int → Int → Bool → Int → Int → Option (List Int)
  | 0, _, _, _, _, _, _, _, _, _ => none
  | k + 1, x0, x3, x4, x19, x20, x21, x60, x427000, x427001 => if x60 = true then ((impl_Dart_score.f x427000 x427001).bind fun t434 => (if 0 ≤ (wrap64 (x4 - t434)) then (if (wrap64 (x4 - t434)) < (x3.length : Int) then (if 0 ≤ x4 then (if x4 < (x3.length : Int) then (impl_fewest.l1 k x0 (x3.set (x4 : Int).toNat (wrap64 ((rd x3 (wrap64 (x4 - t434))) + 1))) x4 x19 x20 (wrap64 (x21 + 1))) else (none)) else (none)) else (none)) else (none))) else (impl_fewest.l1 k x0 x3 x4 x19 x20 (wrap64 (x21 + 1)))
def impl_fewest.l2 : Nat → List Int → List Int → Int → Int → Option (List Int)
  | 0, _, _, _, _ => none
  | k + 1, x3, x7, x78, x79 => if x79 < x78 then (if 0 ≤ x79 then (if x79 < (x7.length : Int) then ((impl_board.f k).bind fun t441 => (impl_fewest.l3 k x3 (x7.set (x79 : Int).toNat (-1)) x79 x78 x79 t441 (t441.length : Int) 0)) else (none)) else (none)) else (some x7)
def impl_fewest.l3 : Nat → List Int → List Int → Int → Int → Int → List (S58) → Int → Int → Option (List Int)
  | 0, _, _, _, _, _, _, _, _ => none
  | k + 1, x3, x7, x8, x78, x79, x85, x86, x87 => if x87 < x86 then (if 0 ≤ x87 then (if x87 < (x85.length : Int) then (if ((rd_T58 x85 x87).f1) = 2 then ((impl_Dart_score.f ((rd_T58 x85 x87).f0) ((rd_T58 x85 x87).f1)).bind fun t446 => (if t446 ≤ x8 then (if 0 ≤ x8 then (if x8 < (x7.length : Int) then (if (rd x7 x8) < 0 then (impl_fewest.j5 k x3 x7 x8 x78 x79 x85 x86 x87 true ((rd_T58 x85 x87).f0) ((rd_T58 x85 x87).f1)) else ((impl_Dart_score.f ((rd_T58 x85 x87).f0) ((rd_T58 x85 x87).f1)).bind fun t448 => (if 0 ≤ (wrap64 (x8 - t448)) then (if (wrap64 (x8 - t448)) < (x3.length : Int) then (impl_fewest.j5 k x3 x7 x8 x78 x79 x85 x86 x87 (decide ((wrap64 ((rd x3 (wrap64 (x8 - t448))) + 1)) < (rd x7 x8))) ((rd_T58 x85 x87).f0) ((rd_T58 x85 x87).f1)) else (none)) else (none)))) else (none)) else (none)) else (impl_fewest.j5 k x3 x7 x8 x78 x79 x85 x86 x87 false ((rd_T58 x85 x87).f0) ((rd_T58 x85 x87).f1)))) else (impl_fewest.j5 k x3 x7 x8 x78 x79 x85 x86 x87 false ((rd_T58 x85 x87).f0) ((rd_T58 x85 x87).f1))) else (none)) else (none)) else (impl_fewest.l2 k x3 x7 x78 (wrap64 (x79 + 1)))
def impl_fewest.j5 : Nat → List Int → List Int → Int → Int → Int → List (S58) → Int → Int → Bool → Int → Int → Option (List Int)
  | 0, _, _, _, _, _, _, _, _, _, _, _ => none
  | k + 1, x3, x7, x8, x78, x79, x85, x86, x87, x121, x446000, x446001 => if x121 = true then ((impl_Dart_score.f x446000 x446001).bind fun t451 => (if 0 ≤ (wrap64 (x8 - t451)) then (if (wrap64 (x8 - t451)) < (x3.length : Int) then (if 0 ≤ x8 then (if x8 < (x7.length : Int) then (impl_fewest.l3 k x3 (x7.set (x8 : Int).toNat (wrap64 ((rd x3 (wrap64 (x8 - t451))) + 1))) x8 x78 x79 x85 x86 (wrap64 (x87 + 1))) else (none)) else (none)) else (none)) else (none))) else (impl_fewest.l3 k x3 x7 x8 x78 x79 x85 x86 (wrap64 (x87 + 1)))
end
def impl_fewest.f (k : Nat) (a0 : Bool) : Option (List Int) := if 1002 ≤ 35184372088832 then (impl_fewest.l0 k a0 (List.replicate 1002 0) 1) else (none)
theorem impl_fewest.mono_l : ∀ k, (∀ y0 y1 y2, LeO (impl_fewest.l0 k y0 y1 y2) (impl_fewest.l0 (k + 1) y0 y1 y2)) ∧ (∀ y0 y1 y2 y3 y4 y5, LeO (impl_fewest.l1 k y0 y1 y2 y3 y4 y5) (impl_fewest.l1 (k + 1) y0 y1 y2 y3 y4 y5)) ∧ (∀ y0 y1 y2 y3 y4 y5 y6 y7 y8, LeO (impl_fewest.j2 k y0 y1 y2 y3 y4 y5 y6 y7 y8) (impl_fewest.j2 (k + 1) y0 y1 y2 y3 y4 y5 y6 y7 y8)) ∧ (∀ y0 y1 y2 y3, LeO (impl_fewest.l2 k y0 y1 y2 y3) (impl_fewest.l2 (k + 1) y0 y1 y2 y3)) ∧ (∀ y0 y1 y2 y3 y4 y5 y6 y7, LeO (impl_fewest.l3 k y0 y1 y2 y3 y4 y5 y6 y7) (impl_fewest.l3 (k + 1) y0 y1 y2 y3 y4 y5 y6 y7)) ∧ (∀ y0 y1 y2 y3 y4 y5 y6 y7 y8 y9 y10, LeO (impl_fewest.j5 k y0 y1 y2 y3 y4 y5 y6 y7 y8 y9 y10) (impl_fewest.j5 (k + 1) y0 y1 y2 y3 y4 y5 y6 y7 y8 y9 y10))
  | 0 => ⟨fun _ _ _ r h => by simp [impl_fewest.l0] at h, fun _ _ _ _ _ _ r h => by simp [impl_fewest.l1] at h, fun _ _ _ _ _ _ _ _ _ r h => by simp [impl_fewest.j2] at h, fun _ _ _ _ r h => by simp [impl_fewest.l2] at h, fun _ _ _ _ _ _ _ _ r h => by simp [impl_fewest.l3] at h, fun _ _ _ _ _ _ _ _ _ _ _ r h => by simp [impl_fewest.j5] at h⟩
  | k + 1 => by
    obtain ⟨ih0, ih1, ih2, ih3, ih4, ih5⟩ := impl_fewest.mono_l k
    refine ⟨?_, ?_, ?_, ?_, ?_, ?_⟩
    · intro y0 y1 y2
      unfold impl_fewest.l0
      repeat' first
      | (with_reducible exact ih0 _ _ _)
      | (with_reducible exact ih1 _ _ _ _ _ _)
      | (with_reducible exact ih2 _ _ _ _ _ _ _ _ _)
      | (with_reducible exact ih3 _ _ _ _)
      | (with_reducible exact ih4 _ _ _ _ _ _ _ _)
      | (with_reducible exact ih5 _ _ _ _ _ _ _ _ _ _ _)
      | (with_reducible exact impl_board.mono _)
      | (with_reducible exact LeO.refl _)
      | (with_reducible exact LeO.none _)
      | (with_reducible refine LeO.ite ?_ ?_)
      | (with_reducible refine LeO.bind ?_ (fun _ => ?_))
      | exact ih0 _ _ _
      | exact ih1 _ _ _ _ _ _
      | exact ih2 _ _ _ _ _ _ _ _ _
      | exact ih3 _ _ _ _
      | exact ih4 _ _ _ _ _ _ _ _
      | exact ih5 _ _ _ _ _ _ _ _ _ _ _
      | exact impl_board.mono _
      | exact LeO.none _
      | refine LeO.ite ?_ ?_
      | refine LeO.bind ?_ (fun _ => ?_)
    · intro y0 y1 y2 y3 y4 y5
      unfold impl_fewest.l1
      repeat' first
      | (with_reducible exact ih0 _ _ _)
      | (with_reducible exact ih1 _ _ _ _ _ _)
      | (with_reducible exact ih2 _ _ _ _ _ _ _ _ _)
      | (with_reducible exact ih3 _ _ _ _)
      | (with_reducible exact ih4 _ _ _ _ _ _ _ _)
      | (with_reducible exact ih5 _ _ _ _ _ _ _ _ _ _ _)
      | (with_reducible exact impl_board.mono _)
      | (with_reducible exact LeO.refl _)
      | (with_reducible exact LeO.none _)
      | (with_reducible refine LeO.ite ?_ ?_)
      | (with_reducible refine LeO.bind ?_ (fun _ => ?_))
      | exact ih0 _ _ _
      | exact ih1 _ _ _ _ _ _
      | exact ih2 _ _ _ _ _ _ _ _ _
      | exact ih3 _ _ _ _
      | exact ih4 _ _ _ _ _ _ _ _
      | exact ih5 _ _ _ _ _ _ _ _ _ _ _
      | exact impl_board.mono _
      | exact LeO.none _
      | refine LeO.ite ?_ ?_
      | refine LeO.bind ?_ (fun _ => ?_)
    · intro y0 y1 y2 y3 y4 y5 y6 y7 y8
      unfold impl_fewest.j2
      repeat' first
      | (with_reducible exact ih0 _ _ _)
      | (with_reducible exact ih1 _ _ _ _ _ _)
      | (with_reducible exact ih2 _ _ _ _ _ _ _ _ _)
      | (with_reducible exact ih3 _ _ _ _)
      | (with_reducible exact ih4 _ _ _ _ _ _ _ _)
      | (with_reducible exact ih5 _ _ _ _ _ _ _ _ _ _ _)
      | (with_reducible exact impl_board.mono _)
      | (with_reducible exact LeO.refl _)
      | (with_reducible exact LeO.none _)
      | (with_reducible refine LeO.ite ?_ ?_)
      | (with_reducible refine LeO.bind ?_ (fun _ => ?_))
      | exact ih0 _ _ _
      | exact ih1 _ _ _ _ _ _
      | exact ih2 _ _ _ _ _ _ _ _ _
      | exact ih3 _ _ _ _
      | exact ih4 _ _ _ _ _ _ _ _
      | exact ih5 _ _ _ _ _ _ _ _ _ _ _
      | exact impl_board.mono _
      | exact LeO.none _
      | refine LeO.ite ?_ ?_
      | refine LeO.bind ?_ (fun _ => ?_)
    · intro y0 y1 y2 y3
      unfold impl_fewest.l2
      repeat' first
      | (with_reducible exact ih0 _ _ _)
      | (with_reducible exact ih1 _ _ _ _ _ _)
      | (with_reducible exact ih2 _ _ _ _ _ _ _ _ _)
      | (with_reducible exact ih3 _ _ _ _)
      | (with_reducible exact ih4 _ _ _ _ _ _ _ _)
      | (with_reducible exact ih5 _ _ _ _ _ _ _ _ _ _ _)
      | (with_reducible exact impl_board.mono _)
      | (with_reducible exact LeO.refl _)
      | (with_reducible exact LeO.none _)
      | (with_reducible refine LeO.ite ?_ ?_)
      | (with_reducible refine LeO.bind ?_ (fun _ => ?_))
      | exact ih0 _ _ _
      | exact ih1 _ _ _ _ _ _
      | exact ih2 _ _ _ _ _ _ _ _ _
      | exact ih3 _ _ _ _
      | exact ih4 _ _ _ _ _ _ _ _
      | exact ih5 _ _ _ _ _ _ _ _ _ _ _
      | exact impl_board.mono _
      | exact LeO.none _
      | refine LeO.ite ?_ ?_
      | refine LeO.bind ?_ (fun _ => ?_)
    · intro y0 y1 y2 y3 y4 y5 y6 y7
      unfold impl_fewest.l3
      repeat' first
      | (with_reducible exact ih0 _ _ _)
      | (with_reducible exact ih1 _ _ _ _ _ _)
      | (with_reducible exact ih2 _ _ _ _ _ _ _ _ _)
      | (with_reducible exact ih3 _ _ _ _)
      | (with_reducible exact ih4 _ _ _ _ _ _ _ _)
      | (with_reducible exact ih5 _ _ _ _ _ _ _ _ _ _ _)
      | (with_reducible exact impl_board.mono _)
      | (with_reducible exact LeO.refl _)
      | (with_reducible exact LeO.none _)
      | (with_reducible refine LeO.ite ?_ ?_)
      | (with_reducible refine LeO.bind ?_ (fun _ => ?_))
      | exact ih0 _ _ _
      | exact ih1 _ _ _ _ _ _
      | exact ih2 _ _ _ _ _ _ _ _ _
      | exact ih3 _ _ _ _
      | exact ih4 _ _ _ _ _ _ _ _
      | exact ih5 _ _ _ _ _ _ _ _ _ _ _
      | exact impl_board.mono _
      | exact LeO.none _
      | refine LeO.ite ?_ ?_
      | refine LeO.bind ?_ (fun _ => ?_)
    · intro y0 y1 y2 y3 y4 y5 y6 y7 y8 y9 y10
      unfold impl_fewest.j5
      repeat' first
      | (with_reducible exact ih0 _ _ _)
      | (with_reducible exact ih1 _ _ _ _ _ _)
      | (with_reducible exact ih2 _ _ _ _ _ _ _ _ _)
      | (with_reducible exact ih3 _ _ _ _)
      | (with_reducible exact ih4 _ _ _ _ _ _ _ _)
      | (with_reducible exact ih5 _ _ _ _ _ _ _ _ _ _ _)
      | (with_reducible exact impl_board.mono _)
      | (with_reducible exact LeO.refl _)
      | (with_reducible exact LeO.none _)
      | (with_reducible refine LeO.ite ?_ ?_)
      | (with_reducible refine LeO.bind ?_ (fun _ => ?_))
      | exact ih0 _ _ _
      | exact ih1 _ _ _ _ _ _
      | exact ih2 _ _ _ _ _ _ _ _ _
      | exact ih3 _ _ _ _
      | exact ih4 _ _ _ _ _ _ _ _
      | exact ih5 _ _ _ _ _ _ _ _ _ _ _
      | exact impl_board.mono _
      | exact LeO.none _
      | refine LeO.ite ?_ ?_
      | refine LeO.bind ?_ (fun _ => ?_)
theorem impl_fewest.mono : ∀ a0 k, LeO (impl_fewest.f k a0) (impl_fewest.f (k + 1) a0) := by
  intro a0 k
  obtain ⟨ih0, ih1, ih2, ih3, ih4, ih5⟩ := impl_fewest.mono_l k
  unfold impl_fewest.f
  repeat' first
      | (with_reducible exact ih0 _ _ _)
      | (with_reducible exact ih1 _ _ _ _ _ _)
      | (with_reducible exact ih2 _ _ _ _ _ _ _ _ _)
      | (with_reducible exact ih3 _ _ _ _)
      | (with_reducible exact ih4 _ _ _ _ _ _ _ _)
      | (with_reducible exact ih5 _ _ _ _ _ _ _ _ _ _ _)
      | (with_reducible exact impl_board.mono _)
      | (with_reducible exact LeO.refl _)
      | (with_reducible exact LeO.none _)
      | (with_reducible refine LeO.ite ?_ ?_)
      | (with_reducible refine LeO.bind ?_ (fun _ => ?_))
      | exact ih0 _ _ _
      | exact ih1 _ _ _ _ _ _
      | exact ih2 _ _ _ _ _ _ _ _ _
      | exact ih3 _ _ _ _
      | exact ih4 _ _ _ _ _ _ _ _
      | exact ih5 _ _ _ _ _ _ _ _ _ _ _
      | exact impl_board.mono _
      | exact LeO.none _
      | refine LeO.ite ?_ ?_
      | refine LeO.bind ?_ (fun _ => ?_)
def impl_fewest.T9 : Bool × List (List Nat × List Nat) := (true, [([], []), ([0], [0]), ([], []), ([1, 2], [1, 2]), ([3, 1], [3]), ([4], [4]), ([4], [4]), ([4], [4]), ([7, 4, 4], [4, 7]), ([6, 8, 4], [4, 6, 8]), ([5, 9, 4], [4, 5, 9]), ([10, 4], [4, 10]), ([11, 4], [4, 11]), ([4, 12], [4, 12]), ([13, 8], [13]), ([14], [14]), ([14], [14]), ([15, 16, 14], [14, 15, 16]), ([17, 14], [14, 17]), ([18, 14], [14, 18]), ([19, 14, 14], [14, 19]), ([20], [20]), ([20], [20]), ([20], [20]), ([23, 20, 20], [20, 23]), ([22, 24, 20], [20, 22, 24]), ([21, 25, 20], [20, 21, 25]), ([26, 20], [20, 26]), ([27, 20], [20, 27]), ([20], [20]), ([20], [20]), ([29, 30, 20], [20, 29, 30]), ([31, 20], [20, 31]), ([28, 32, 20], [20, 28, 32]), ([20, 33, 14], [14, 20, 33]), ([14, 34], [14, 34])])
def impl_fewest.B9 : List Nat := [0, 1, 0, 7, 15, 31, 31, 31, 159, 479, 1023, 2047, 4095, 8191, 16383, 32767, 32767, 131071, 262143, 524287, 1048575, 2097151, 2097151, 2097151, 10485759, 31457279, 67108863, 134217727, 268435455, 2097151, 2097151, 1612709887, 3760193535, 8589934591, 17179869183, 34359738367]
theorem impl_fewest.tab9 : rtab .any (opsOf Try.f72 9) = impl_fewest.T9 := by kernel_rfl
theorem impl_fewest.bits9 : waitsOk impl_fewest.T9.2 impl_fewest.B9 = true := by kernel_rfl
def impl_fewest.T22 : Bool × List (List Nat × List Nat) := (true, [([], []), ([0], [0]), ([1], [1]), ([2], [2]), ([3], [3]), ([4, 3, 3], [3, 4]), ([3], [3]), ([5, 6, 3], [3, 5, 6]), ([3, 7], [3, 7]), ([8, 5], [8]), ([9], [9]), ([9], [9]), ([10, 11, 9], [9, 10, 11]), ([12, 9], [9, 12]), ([13, 9], [9, 13]), ([14, 9, 9], [9, 14]), ([15], [15]), ([15], [15]), ([15], [15]), ([18, 15, 15], [15, 18]), ([17, 19, 15], [15, 17, 19]), ([16, 20, 15], [15, 16, 20]), ([21, 15], [15, 21]), ([22, 15], [15, 22]), ([15], [15]), ([15], [15]), ([24, 25, 15], [15, 24, 25]), ([26, 15], [15, 26]), ([23, 27, 15], [15, 23, 27]), ([15, 28, 9], [9, 15, 28]), ([9, 29], [9, 29])])
def impl_fewest.B22 : List Nat := [0, 1, 3, 7, 15, 31, 15, 127, 255, 511, 1023, 1023, 4095, 8191, 16383, 32767, 65535, 65535, 65535, 327679, 983039, 2097151, 4194303, 8388607, 65535, 65535, 50397183, 117506047, 268435455, 536870911, 1073741823]
theorem impl_fewest.tab22 : rtab .any (opsOf Try.f72 22) = impl_fewest.T22 := by kernel_rfl
theorem impl_fewest.bits22 : waitsOk impl_fewest.T22.2 impl_fewest.B22 = true := by kernel_rfl
abbrev impl_fewest.b0 : Array Bool := #[false, false, false, false, false, false, false, false, false, false, false, false, false, false, false, false, false, false, false, false, false, false, false, false, false, false, false, false, false, false, false, false, false, false, false, false]
abbrev impl_fewest.b1 : Array Bool := #[false, false, true, false, false, false, false, false, false, false, false, false, false, false, false, false, false, false, false, false, false, false, false, false, false, false, false, false, false, false, false, false, false, false, false, false]
abbrev impl_fewest.b2 : Array Bool := #[true, false, true, false, false, false, false, false, false, false, false, false, false, false, false, false, false, false, false, false, false, false, false, false, false, false, false, false, false, false, false, false, false, false, false, false]
abbrev impl_fewest.b3 : Array Bool := #[true, true, true, false, false, false, false, false, false, false, false, false, false, false, false, false, false, false, false, false, false, false, false, false, false, false, false, false, false, false, false, false, false, false, false, false]
abbrev impl_fewest.b4 : Array Bool := #[true, true, true, true, false, false, false, false, false, false, false, false, false, false, false, false, false, false, false, false, false, false, false, false, false, false, false, false, false, false, false, false, false, false, false, false]
abbrev impl_fewest.b5 : Array Bool := #[true, true, true, true, true, false, false, false, false, false, false, false, false, false, false, false, false, false, false, false, false, false, false, false, false, false, false, false, false, false, false, false, false, false, false, false]
abbrev impl_fewest.b6 : Array Bool := #[true, true, true, true, true, true, false, false, false, false, false, false, false, false, false, false, false, false, false, false, false, false, false, false, false, false, false, false, false, false, false, false, false, false, false, false]
abbrev impl_fewest.b7 : Array Bool := #[true, true, true, true, true, true, true, false, false, false, false, false, false, false, false, false, false, false, false, false, false, false, false, false, false, false, false, false, false, false, false, false, false, false, false, false]
abbrev impl_fewest.b8 : Array Bool := #[true, true, true, true, true, true, true, true, false, false, false, false, false, false, false, false, false, false, false, false, false, false, false, false, false, false, false, false, false, false, false, false, false, false, false, false]
abbrev impl_fewest.b9 : Array Bool := #[true, true, true, true, true, true, true, true, true, false, false, false, false, false, false, false, false, false, false, false, false, false, false, false, false, false, false, false, false, false, false, false, false, false, false, false]
abbrev impl_fewest.b10 : Array Bool := #[true, true, true, true, true, true, true, true, true, true, false, false, false, false, false, false, false, false, false, false, false, false, false, false, false, false, false, false, false, false, false, false, false, false, false, false]
abbrev impl_fewest.b11 : Array Bool := #[true, true, true, true, true, true, true, true, true, true, true, false, false, false, false, false, false, false, false, false, false, false, false, false, false, false, false, false, false, false, false, false, false, false, false, false]
abbrev impl_fewest.b12 : Array Bool := #[true, true, true, true, true, true, true, true, true, true, true, true, false, false, false, false, false, false, false, false, false, false, false, false, false, false, false, false, false, false, false, false, false, false, false, false]
abbrev impl_fewest.b13 : Array Bool := #[true, true, true, true, true, true, true, true, true, true, true, true, true, false, false, false, false, false, false, false, false, false, false, false, false, false, false, false, false, false, false, false, false, false, false, false]
abbrev impl_fewest.b14 : Array Bool := #[true, true, true, true, true, true, true, true, true, true, true, true, true, true, false, false, false, false, false, false, false, false, false, false, false, false, false, false, false, false, false, false, false, false, false, false]
abbrev impl_fewest.b15 : Array Bool := #[true, true, true, true, true, true, true, true, true, true, true, true, true, true, true, false, false, false, false, false, false, false, false, false, false, false, false, false, false, false, false, false, false, false, false, false]
abbrev impl_fewest.b16 : Array Bool := #[true, true, true, true, true, true, true, true, true, true, true, true, true, true, true, true, false, false, false, false, false, false, false, false, false, false, false, false, false, false, false, false, false, false, false, false]
abbrev impl_fewest.b17 : Array Bool := #[true, true, true, true, true, true, true, true, true, true, true, true, true, true, true, true, true, false, false, false, false, false, false, false, false, false, false, false, false, false, false, false, false, false, false, false]
abbrev impl_fewest.b18 : Array Bool := #[true, true, true, true, true, true, true, true, true, true, true, true, true, true, true, true, true, true, false, false, false, false, false, false, false, false, false, false, false, false, false, false, false, false, false, false]
abbrev impl_fewest.b19 : Array Bool := #[true, true, true, true, true, true, true, true, true, true, true, true, true, true, true, true, true, true, true, false, false, false, false, false, false, false, false, false, false, false, false, false, false, false, false, false]
abbrev impl_fewest.b20 : Array Bool := #[true, true, true, true, true, true, true, true, true, true, true, true, true, true, true, true, true, true, true, true, false, false, false, false, false, false, false, false, false, false, false, false, false, false, false, false]
abbrev impl_fewest.b21 : Array Bool := #[true, true, true, true, true, true, true, true, true, true, true, true, true, true, true, true, true, true, true, true, true, false, false, false, false, false, false, false, false, false, false, false, false, false, false, false]
abbrev impl_fewest.b22 : Array Bool := #[true, true, true, true, true, true, true, true, true, true, true, true, true, true, true, true, true, true, true, true, true, true, false, false, false, false, false, false, false, false, false, false, false, false, false, false]
abbrev impl_fewest.b23 : Array Bool := #[true, true, true, true, true, true, true, true, true, true, true, true, true, true, true, true, true, true, true, true, true, true, true, false, false, false, false, false, false, false, false, false, false, false, false, false]
abbrev impl_fewest.b24 : Array Bool := #[true, true, true, true, true, true, true, true, true, true, true, true, true, true, true, true, true, true, true, true, true, true, true, true, false, false, false, false, false, false, false, false, false, false, false, false]
abbrev impl_fewest.b25 : Array Bool := #[true, true, true, true, true, true, true, true, true, true, true, true, true, true, true, true, true, true, true, true, true, true, true, true, true, false, false, false, false, false, false, false, false, false, false, false]
abbrev impl_fewest.b26 : Array Bool := #[true, true, true, true, true, true, true, true, true, true, true, true, true, true, true, true, true, true, true, true, true, true, true, true, true, true, false, false, false, false, false, false, false, false, false, false]
abbrev impl_fewest.b27 : Array Bool := #[true, true, true, true, true, true, true, true, true, true, true, true, true, true, true, true, true, true, true, true, true, true, true, true, true, true, true, false, false, false, false, false, false, false, false, false]
abbrev impl_fewest.b28 : Array Bool := #[true, true, true, true, true, true, true, true, true, true, true, true, true, true, true, true, true, true, true, true, true, true, true, true, true, true, true, true, false, false, false, false, false, false, false, false]
abbrev impl_fewest.b29 : Array Bool := #[true, true, true, true, true, true, true, true, true, true, true, true, true, true, true, true, true, true, true, true, true, true, true, true, true, true, true, true, true, false, false, false, false, false, false, false]
abbrev impl_fewest.b30 : Array Bool := #[true, true, true, true, true, true, true, true, true, true, true, true, true, true, true, true, true, true, true, true, true, true, true, true, true, true, true, true, true, true, false, false, false, false, false, false]
abbrev impl_fewest.b31 : Array Bool := #[true, true, true, true, true, true, true, true, true, true, true, true, true, true, true, true, true, true, true, true, true, true, true, true, true, true, true, true, true, true, true, false, false, false, false, false]
abbrev impl_fewest.b32 : Array Bool := #[true, true, true, true, true, true, true, true, true, true, true, true, true, true, true, true, true, true, true, true, true, true, true, true, true, true, true, true, true, true, true, true, false, false, false, false]
abbrev impl_fewest.b33 : Array Bool := #[true, true, true, true, true, true, true, true, true, true, true, true, true, true, true, true, true, true, true, true, true, true, true, true, true, true, true, true, true, true, true, true, true, false, false, false]
abbrev impl_fewest.b34 : Array Bool := #[true, true, true, true, true, true, true, true, true, true, true, true, true, true, true, true, true, true, true, true, true, true, true, true, true, true, true, true, true, true, true, true, true, true, false, false]
abbrev impl_fewest.b35 : Array Bool := #[true, true, true, true, true, true, true, true, true, true, true, true, true, true, true, true, true, true, true, true, true, true, true, true, true, true, true, true, true, true, true, true, true, true, true, false]
abbrev impl_fewest.b36 : Array Bool := #[true, true, true, true, true, true, true, true, true, true, true, true, true, true, true, true, true, true, true, true, true, true, true, true, true, true, true, true, true, true, true, true, true, true, true, true]
abbrev impl_fewest.b37 : Array Bool := #[true, true, true, true, true, true, true, true, true, true, true, true, true, true, true, true, true, true, true, true, true, true, true, false, false, false, false, false, false, true, false, false, false, false, false, false]
abbrev impl_fewest.b38 : Array Bool := #[true, true, true, true, true, true, true, true, true, true, true, true, true, true, true, true, true, true, true, true, true, true, true, false, false, false, false, false, false, true, true, false, false, false, false, false]
abbrev impl_fewest.b39 : Array Bool := #[true, true, true, true, true, true, true, true, true, true, true, true, true, true, true, true, true, true, true, true, true, true, true, false, false, false, false, false, false, true, true, true, false, false, false, false]
abbrev impl_fewest.b40 : Array Bool := #[true, true, true, true, true, true, true, true, true, true, true, true, true, true, true, true, true, true, true, true, true, true, true, true, false, false, false, false, false, true, true, true, false, false, false, false]
abbrev impl_fewest.b41 : Array Bool := #[true, true, true, true, true, true, true, true, true, true, true, true, true, true, true, true, true, true, true, true, true, true, true, true, false, false, false, false, false, true, true, true, true, false, false, false]
abbrev impl_fewest.b42 : Array Bool := #[true, true, true, true, true, true, true, true, true, true, true, true, true, true, true, true, true, true, true, true, true, true, true, true, true, false, false, false, false, true, true, true, true, false, false, false]
abbrev impl_fewest.b43 : Array Bool := #[true, true, true, true, true, true, true, true, true, true, true, true, true, true, true, true, true, true, true, true, true, true, true, true, true, true, false, false, false, true, true, true, true, false, false, false]
abbrev impl_fewest.b44 : Array Bool := #[true, true, true, true, true, true, true, true, true, true, true, true, true, true, true, true, true, true, true, true, true, true, true, true, true, true, true, false, false, true, true, true, true, false, false, false]
abbrev impl_fewest.b45 : Array Bool := #[true, true, true, true, true, true, true, true, true, true, true, true, true, true, true, true, true, true, true, true, true, true, true, true, true, true, true, true, false, true, true, true, true, false, false, false]
abbrev impl_fewest.b46 : Array Bool := #[false, false, false, false, false, false, false, false, false, false, false, false, false, false, false, false, false, false, false, false, false, false, false, false, false, false, false, false, false, false, false]
abbrev impl_fewest.b47 : Array Bool := #[true, false, false, false, false, false, false, false, false, false, false, false, false, false, false, false, false, false, false, false, false, false, false, false, false, false, false, false, false, false, false]
abbrev impl_fewest.b48 : Array Bool := #[true, true, false, false, false, false, false, false, false, false, false, false, false, false, false, false, false, false, false, false, false, false, false, false, false, false, false, false, false, false, false]
abbrev impl_fewest.b49 : Array Bool := #[true, true, true, false, false, false, false, false, false, false, false, false, false, false, false, false, false, false, false, false, false, false, false, false, false, false, false, false, false, false, false]
abbrev impl_fewest.b50 : Array Bool := #[true, true, true, true, false, false, false, false, false, false, false, false, false, false, false, false, false, false, false, false, false, false, false, false, false, false, false, false, false, false, false]
abbrev impl_fewest.b51 : Array Bool := #[true, true, true, true, false, false, true, false, false, false, false, false, false, false, false, false, false, false, false, false, false, false, false, false, false, false, false, false, false, false, false]
abbrev impl_fewest.b52 : Array Bool := #[true, true, true, true, true, false, true, false, false, false, false, false, false, false, false, false, false, false, false, false, false, false, false, false, false, false, false, false, false, false, false]
abbrev impl_fewest.b53 : Array Bool := #[true, true, true, true, true, true, true, false, false, false, false, false, false, false, false, false, false, false, false, false, false, false, false, false, false, false, false, false, false, false, false]
abbrev impl_fewest.b54 : Array Bool := #[true, true, true, true, true, true, true, true, false, false, false, false, false, false, false, false, false, false, false, false, false, false, false, false, false, false, false, false, false, false, false]
abbrev impl_fewest.b55 : Array Bool := #[true, true, true, true, true, true, true, true, true, false, false, false, false, false, false, false, false, false, false, false, false, false, false, false, false, false, false, false, false, false, false]
abbrev impl_fewest.b56 : Array Bool := #[true, true, true, true, true, true, true, true, true, true, false, false, false, false, false, false, false, false, false, false, false, false, false, false, false, false, false, false, false, false, false]
abbrev impl_fewest.b57 : Array Bool := #[true, true, true, true, true, true, true, true, true, true, true, false, false, false, false, false, false, false, false, false, false, false, false, false, false, false, false, false, false, false, false]
abbrev impl_fewest.b58 : Array Bool := #[true, true, true, true, true, true, true, true, true, true, true, true, false, false, false, false, false, false, false, false, false, false, false, false, false, false, false, false, false, false, false]
abbrev impl_fewest.b59 : Array Bool := #[true, true, true, true, true, true, true, true, true, true, true, true, true, false, false, false, false, false, false, false, false, false, false, false, false, false, false, false, false, false, false]
abbrev impl_fewest.b60 : Array Bool := #[true, true, true, true, true, true, true, true, true, true, true, true, true, true, false, false, false, false, false, false, false, false, false, false, false, false, false, false, false, false, false]
abbrev impl_fewest.b61 : Array Bool := #[true, true, true, true, true, true, true, true, true, true, true, true, true, true, true, false, false, false, false, false, false, false, false, false, false, false, false, false, false, false, false]
abbrev impl_fewest.b62 : Array Bool := #[true, true, true, true, true, true, true, true, true, true, true, true, true, true, true, true, false, false, false, false, false, false, false, false, false, false, false, false, false, false, false]
abbrev impl_fewest.b63 : Array Bool := #[true, true, true, true, true, true, true, true, true, true, true, true, true, true, true, true, true, false, false, false, false, false, false, false, false, false, false, false, false, false, false]
abbrev impl_fewest.b64 : Array Bool := #[true, true, true, true, true, true, true, true, true, true, true, true, true, true, true, true, true, true, false, false, false, false, false, false, false, false, false, false, false, false, false]
abbrev impl_fewest.b65 : Array Bool := #[true, true, true, true, true, true, true, true, true, true, true, true, true, true, true, true, true, true, true, false, false, false, false, false, false, false, false, false, false, false, false]
abbrev impl_fewest.b66 : Array Bool := #[true, true, true, true, true, true, true, true, true, true, true, true, true, true, true, true, true, true, true, true, false, false, false, false, false, false, false, false, false, false, false]
abbrev impl_fewest.b67 : Array Bool := #[true, true, true, true, true, true, true, true, true, true, true, true, true, true, true, true, true, true, true, true, true, false, false, false, false, false, false, false, false, false, false]
abbrev impl_fewest.b68 : Array Bool := #[true, true, true, true, true, true, true, true, true, true, true, true, true, true, true, true, true, true, true, true, true, true, false, false, false, false, false, false, false, false, false]
abbrev impl_fewest.b69 : Array Bool := #[true, true, true, true, true, true, true, true, true, true, true, true, true, true, true, true, true, true, true, true, true, true, true, false, false, false, false, false, false, false, false]
abbrev impl_fewest.b70 : Array Bool := #[true, true, true, true, true, true, true, true, true, true, true, true, true, true, true, true, true, true, true, true, true, true, true, true, false, false, false, false, false, false, false]
abbrev impl_fewest.b71 : Array Bool := #[true, true, true, true, true, true, true, true, true, true, true, true, true, true, true, true, true, true, true, true, true, true, true, true, true, false, false, false, false, false, false]
abbrev impl_fewest.b72 : Array Bool := #[true, true, true, true, true, true, true, true, true, true, true, true, true, true, true, true, true, true, true, true, true, true, true, true, true, true, false, false, false, false, false]
abbrev impl_fewest.b73 : Array Bool := #[true, true, true, true, true, true, true, true, true, true, true, true, true, true, true, true, true, true, true, true, true, true, true, true, true, true, true, false, false, false, false]
abbrev impl_fewest.b74 : Array Bool := #[true, true, true, true, true, true, true, true, true, true, true, true, true, true, true, true, true, true, true, true, true, true, true, true, true, true, true, true, false, false, false]
abbrev impl_fewest.b75 : Array Bool := #[true, true, true, true, true, true, true, true, true, true, true, true, true, true, true, true, true, true, true, true, true, true, true, true, true, true, true, true, true, false, false]
abbrev impl_fewest.b76 : Array Bool := #[true, true, true, true, true, true, true, true, true, true, true, true, true, true, true, true, true, true, true, true, true, true, true, true, true, true, true, true, true, true, false]
abbrev impl_fewest.b77 : Array Bool := #[true, true, true, true, true, true, true, true, true, true, true, true, true, true, true, true, true, true, true, true, true, true, true, true, true, true, true, true, true, true, true]
abbrev impl_fewest.b78 : Array Bool := #[true, true, true, true, true, true, true, true, true, true, true, true, true, true, true, true, true, true, false, false, false, false, false, false, true, false, false, false, false, false, false]
abbrev impl_fewest.b79 : Array Bool := #[true, true, true, true, true, true, true, true, true, true, true, true, true, true, true, true, true, true, false, false, false, false, false, false, true, true, false, false, false, false, false]
abbrev impl_fewest.b80 : Array Bool := #[true, true, true, true, true, true, true, true, true, true, true, true, true, true, true, true, true, true, false, false, false, false, false, false, true, true, true, false, false, false, false]
abbrev impl_fewest.b81 : Array Bool := #[true, true, true, true, true, true, true, true, true, true, true, true, true, true, true, true, true, true, true, false, false, false, false, false, true, true, true, false, false, false, false]
abbrev impl_fewest.b82 : Array Bool := #[true, true, true, true, true, true, true, true, true, true, true, true, true, true, true, true, true, true, true, false, false, false, false, false, true, true, true, true, false, false, false]
abbrev impl_fewest.b83 : Array Bool := #[true, true, true, true, true, true, true, true, true, true, true, true, true, true, true, true, true, true, true, true, false, false, false, false, true, true, true, true, false, false, false]
abbrev impl_fewest.b84 : Array Bool := #[true, true, true, true, true, true, true, true, true, true, true, true, true, true, true, true, true, true, true, true, true, false, false, false, true, true, true, true, false, false, false]
abbrev impl_fewest.b85 : Array Bool := #[true, true, true, true, true, true, true, true, true, true, true, true, true, true, true, true, true, true, true, true, true, true, false, false, true, true, true, true, false, false, false]
abbrev impl_fewest.b86 : Array Bool := #[true, true, true, true, true, true, true, true, true, true, true, true, true, true, true, true, true, true, true, true, true, true, true, false, true, true, true, true, false, false, false]
abbrev impl_fewest.b87 : Array Bool := #[true, true, true, true, true, false, false, false, false, false, false, false, false, false, false, false, false, false, false, false, false, false, false, false, false, false, false, false, false, false, false]
abbrev impl_fewest.b88 : Array Bool := #[true, true, true, true, true, true, false, false, false, false, false, false, false, false, false, false, false, false, false, false, false, false, false, false, false, false, false, false, false, false, false]
set_option maxHeartbeats 8000000 in
set_option maxRecDepth 100000 in
theorem impl_fewest.calls (k : Nat) (a0 : Bool) (r : List Int) (w : World) (h : impl_fewest.f k a0 = some r) :
  Calls Try.prog 72 #[.bool a0] w fun e w' => ∃ v0_ : Value, e = .returned (v0_) ∧ Kd.R (Kd.int .i64) 3 w' w.heap.size (fun _ => True) v0_ r ∧ Below w.heap.size w w' := by
 have hu58 := Try.underlying58
 have HB := Aside0.mk (Below.refl w.heap.size w)
 have H : (if 1002 ≤ 35184372088832 then (impl_fewest.l0 k a0 (List.replicate 1002 0) 1) else (none)) = some r := h
 clear h
 by_cases c2 : 1002 ≤ 35184372088832
 ·
  rw [if_pos c2] at H
  have c2b0 := eq_true c2
  have c2b1 : decide (1002 ≤ 35184372088832) = true := decide_eq_true c2
  clear c2
  obtain ⟨y418, hy418⟩ : ∃ y_ : List Int, y_ = (List.replicate 1002 0) := ⟨_, rfl⟩
  replace H : (impl_fewest.l0 k a0 y418 1) = some r := by first | (rw [hy418]; with_reducible exact H) | (have H2_ := (Option.bind_some _ _).symm.trans H; rw [hy418]; with_reducible exact H2_) | (have H2_ := (Option.bind_some _ _).symm.trans H; with_reducible exact H2_) | with_reducible exact H | (rw [hy418]; exact H) | exact H
  have Ny418 := Aside0.mk hy418
  clear hy418
  have H' := Aside0.mk H
  clear H
  go_enter Try.func72, Try.ntmps72
  go_wp2_with (first | ((with_reducible refine gate_dst (N := 11) rfl ?_); refine Kd.R_make (Kd.int .i64) _ 3 rfl (N := 11) rfl 36 _ _ rfl 1002 rfl rfl Try.underlying36 (.int .i64 0) 8 info3 rfl (by decide) (by omega) 0 (ok := fun _ => True) (okp := fun _ => True) rfl (fun _ hk => hk) trivial (by omega) (by omega) (Below.refl _ _) (Nat.le_refl _) ?_; intro v419 w3 ho4 hb hg_ hnew_; clear hg_ hnew_; (first | rw [← Ny418.out] at ho4 | (simp only [Int.reduceToNat] at ho4; rw [← Ny418.out] at ho4)); have n0_ := Aside0.mk (Kd.R_lower ho4 (below_size (by repeat (first | (with_reducible first | exact HB.out | apply below_alloc | apply pw_below_drewN | apply below_drew1) | exact HB.out)))); have n1_ := Aside0.mk (below_step (by repeat (first | (with_reducible first | exact HB.out | apply below_alloc | apply pw_below_drewN | apply below_drew1) | exact HB.out)) hb); clear HB; have HO420 := n0_; have HB := n1_; clear n0_ n1_; clear hb ho4))
  go_loopg [4] k (fun kq v4 w' => ∃ (x3_1 : List Int) (x4_1 : Int), v4 = .int .i64 x4_1 ∧ Aside0 (impl_fewest.l0 kq a0 x3_1 x4_1 = some r) ∧ Aside0 (kq ≤ k) ∧ Aside0 (Kd.R (Kd.int .i64) 3 w' w.heap.size (fun _ => True) v419 x3_1) ∧ Aside0 (Below w.heap.size w w'))
  case atStart => exact ⟨(y418), (1), (by first | rfl | (simp; done) | (simp [*]; done)), H', ⟨Nat.le_refl _⟩, ⟨by (with_reducible repeat (first | apply Kd.R_alloc | apply Kd.R_drewN | apply Kd.R_drew)); exact HO420.out⟩, ⟨by repeat (first | (with_reducible first | exact HB.out | apply below_alloc | apply pw_below_drewN | apply below_drew1) | exact HB.out)⟩⟩
  case round =>
   clear H'
   try clear c2
   try clear c2b0
   try clear c2b1
   try clear p2
   obtain ⟨x3_1, x4_1, rfl, HA, HK1, HO_3, HB⟩ := hrel
   cases gk with
   | zero => exact absurd HA.out (by simp [impl_fewest.l0])
   | succ k1 =>
    have H := HA.out
    clear HA
    simp only [impl_fewest.l0] at H
    by_cases c5 : x4_1 ≤ 1001
    ·
     rw [if_pos c5] at H
     have c5b0 : decide (x4_1 ≤ 1001) = true := decide_eq_true c5
     clear c5
     by_cases c6 : 0 ≤ x4_1
     ·
      rw [if_pos c6] at H
      have c6b0 : decide (0 ≤ x4_1) = true := decide_eq_true c6
      clear c6
      by_cases c7 : x4_1 < (x3_1.length : Int)
      ·
       rw [if_pos c7] at H
       have c7b0 : decide (x4_1 < (x3_1.length : Int)) = true := decide_eq_true c7
       clear c7
       obtain ⟨y421, hy421⟩ : ∃ y_ : List Int, y_ = (x3_1.set (x4_1 : Int).toNat (-1)) := ⟨_, rfl⟩
       replace H : ((impl_board.f k1).bind fun t422 => (impl_fewest.l1 k1 a0 y421 x4_1 t422 (t422.length : Int) 0)) = some r := by first | (rw [hy421]; with_reducible exact H) | (have H2_ := (Option.bind_some _ _).symm.trans H; rw [hy421]; with_reducible exact H2_) | (have H2_ := (Option.bind_some _ _).symm.trans H; with_reducible exact H2_) | with_reducible exact H | (rw [hy421]; exact H) | exact H
       have Ny421 := Aside0.mk hy421
       clear hy421
       replace H := Option.bind_eq_some_iff.mp H
       obtain ⟨t422, A90, H⟩ := H
       replace H : (impl_fewest.l1 k1 a0 y421 x4_1 t422 (t422.length : Int) 0) = some r := H
       have A9 := Aside0.mk A90
       clear A90
       have H' := Aside0.mk H
       clear H
       have p8 : 0 ≤ (x4_1 : Int) := of_decide_eq_true (by first | (with_reducible assumption) | assumption)
       have q8 : (x4_1 : Int) < ((x3_1.length : Int) : Int) := of_decide_eq_true (by first | (with_reducible assumption) | assumption)
       obtain ⟨go8, co8, eo8, gb8, gl8, cl8, HG8⟩ := Kd.R_form HO_3.out (by omega)
       (first | cases eo8 | (injection eo8 with ea_ en_ ec_; (first | subst ea_ | (injection ea_ with ea_; subst ea_)); subst ec_; clear en_))
       have GB8 := Aside0.mk gb8
       have GG8 := Aside0.mk HG8
       clear gb8 gl8 HG8
       obtain ⟨hx8_0, hf8_0⟩ := Kd.R_celln 0 HO_3.out (x4_1 : Int) p8 q8
       replace p8 := eq_true p8
       replace q8 := eq_true q8
       have HP10 := Kd.R_putg HO_3.out (x4_1 : Int) (-1)
       go_wp2_with (first | ((with_reducible refine gate_store (t := 3) (p := 18) rfl ?_); refine store_event (t := 3) (p := 18) (v := ?vo_w11) (w1 := (wr.setCell ⟨go8, (x4_1 : Int).toNat, none⟩ (.int .i64 (-1)))) ?hg ?ho ?hn ?hr ?_; (case ho => rfl); (case hg => rfl); (case hn => rfl); (case hr => first | (go_simp; done) | (go_simp; rfl)); intro w11 hw; have hg : wr.grownBy w11 (some go8) := (by rw [hw]; exact HP10.2); have hp_ : Kd.R (Kd.int .i64) 3 w11 w.heap.size (fun _ => True) (.slice (some ⟨go8, 0, none⟩) x3_1.length co8) y421 := (by rw [hw, Ny421.out]; exact HP10.1); clear HP10; have n0_ := Aside0.mk (hp_); have n1_ := Aside0.mk ((by rw [hw]; exact below_set (HB.out) GB8.out : Below w.heap.size w w11)); clear HO_3; clear HB; have HO_3 := n0_; have HB := n1_; clear n0_ n1_; clear hg hw hp_) | ((with_reducible refine gate_callee (f := 75) rfl ?_); refine goesL_ (some 19) rfl rfl Try.func75 (by kernel_rfl) rfl #[] rfl (by (try simp only [List.map_toArray, List.map_cons, List.map_nil]); first | done | rfl | (simp only [List.length_drop, List.length_take]; rfl)) ?_; (with_reducible refine (impl_board.calls k1  t422 _ A9.out).mono ?_); rintro e w12 ⟨v423, rfl, ho0, hb⟩; refine ⟨_, rfl, ?_⟩; have n0_ := Aside0.mk (Kd.R_below (by (with_reducible repeat (first | apply Kd.R_alloc | apply Kd.R_drewN | apply Kd.R_drew)); exact HO_3.out) hb); have n1_ := Aside0.mk (Kd.R_lower ho0 (below_size (by repeat (first | (with_reducible first | exact HB.out | apply below_alloc | apply pw_below_drewN | apply below_drew1) | exact HB.out)))); have n2_ := Aside0.mk (below_step (by repeat (first | (with_reducible first | exact HB.out | apply below_alloc | apply pw_below_drewN | apply below_drew1) | exact HB.out)) hb); clear HO_3; clear HB; have HO_3 := n0_; have HO424 := n1_; have HB := n2_; clear n0_ n1_ n2_; (try clear hb); (try clear hb2); (try clear hk); (try clear hi); (try clear ho0); obtain ⟨Ao13, co13, eo13⟩ := Kd.R_slice HO424.out; subst eo13))
       go_loopg [21] k1 (fun kq v21 w' => ∃ (x3_2 : List Int) (x21_2 : Int), v21 = .int .i64 x21_2 ∧ Aside0 (impl_fewest.l1 kq a0 x3_2 x4_1 t422 (t422.length : Int) x21_2 = some r) ∧ Aside0 (kq ≤ k1) ∧ Aside0 (Kd.R (Kd.int .i64) 3 w' w.heap.size (fun _ => True) (.slice (some ⟨go8, 0, none⟩) x3_1.length co8) x3_2) ∧ Aside0 (Kd.R k58 58 w' w.heap.size (fun _ => True) (.slice Ao13 t422.length co13) t422) ∧ Aside0 (Below w.heap.size w w'))
       case atStart => exact ⟨(y421), (0), (by first | rfl | (simp; done) | (simp [*]; done)), H', ⟨Nat.le_refl _⟩, ⟨by (with_reducible repeat (first | apply Kd.R_alloc | apply Kd.R_drewN | apply Kd.R_drew)); exact HO_3.out⟩, ⟨by (with_reducible repeat (first | apply Kd.R_alloc | apply Kd.R_drewN | apply Kd.R_drew)); exact HO424.out⟩, ⟨by repeat (first | (with_reducible first | exact HB.out | apply below_alloc | apply pw_below_drewN | apply below_drew1) | exact HB.out)⟩⟩
       case round =>
        clear H'
        try clear c2
        try clear c2b0
        try clear c2b1
        try clear p2
        try clear c5
        try clear c5b0
        try clear c6
        try clear c6b0
        try clear c7
        try clear c7b0
        try clear p8
        try clear q8
        try clear hx8
        try clear hf8
        try clear hx8_0
        try clear p2
        try clear p8
        try clear q8
        obtain ⟨x3_2, x21_2, rfl, HA, HK2, HO_3, HO_19, HB⟩ := hrel
        have hl3_2 := (Kd.R_reads' HO_3.out).1
        rw [hl3_2] at HO_3
        (try simp only [hl3_2])
        (try simp only [hl3_2] at HO_19)
        cases gk with
        | zero => exact absurd HA.out (by simp [impl_fewest.l1])
        | succ k2 =>
         have H := HA.out
         clear HA
         simp only [impl_fewest.l1] at H
         by_cases c14 : x21_2 < (t422.length : Int)
         ·
          rw [if_pos c14] at H
          have c14b0 : decide (x21_2 < (t422.length : Int)) = true := decide_eq_true c14
          clear c14
          by_cases c15 : 0 ≤ x21_2
          ·
           rw [if_pos c15] at H
           have c15b0 : decide (0 ≤ x21_2) = true := decide_eq_true c15
           clear c15
           by_cases c16 : x21_2 < (t422.length : Int)
           ·
            rw [if_pos c16] at H
            have c16b0 : decide (x21_2 < (t422.length : Int)) = true := decide_eq_true c16
            clear c16
            have HC17 := Aside0.mk H
            clear H
            have p425 : 0 ≤ (x21_2 : Int) := of_decide_eq_true (by first | (with_reducible assumption) | assumption)
            have q425 : x21_2 < (t422.length : Int) := of_decide_eq_true (by first | (with_reducible assumption) | assumption)
            (try (obtain ⟨Az_, cz_, ez_⟩ := Kd.R_slice HO_19.out; subst ez_))
            obtain ⟨ad425, e425, hx425_0, hx425_1⟩ := at_T58 (Kd.R_reads' HO_19.out).2.2 x21_2 p425 q425
            cases e425
            replace p425 := eq_true p425
            replace q425 := eq_true q425
            go_upto_region 9 with (first | ((with_reducible refine gate_dst (N := 6) rfl ?_); refine box_event ?hg (N := 6) ?hd (cs := #[.int .i64 0, .int .i64 0]) (t := 58) ?hr ?_; (case hd => rfl); (case hg => rfl); (case hr => first | (go_simp; done) | (go_simp; rfl)); intro gb426 hg w18 hbox hb; have n0_ := Aside0.mk (Kd.R_below (by (with_reducible repeat (first | apply Kd.R_alloc | apply Kd.R_drewN | apply Kd.R_drew)); exact HO_3.out) hb); have n1_ := Aside0.mk (Kd.R_below (Kd.R_elderB (by (with_reducible repeat (first | apply Kd.R_alloc | apply Kd.R_drewN | apply Kd.R_drew)); exact HO_19.out) gb426 (Nat.le_of_eq hg.symm)) hb); have n2_ := Aside0.mk (below_step (by repeat (first | (with_reducible first | exact HB.out | apply below_alloc | apply pw_below_drewN | apply below_drew1) | exact HB.out)) hb); have n3_ := Aside0.mk (hbox); have n4_ := Aside0.mk ((by rw [hg]; exact (below_size (by repeat (first | (with_reducible first | exact HB.out | apply below_alloc | apply pw_below_drewN | apply below_drew1) | exact HB.out))) : w.heap.size ≤ gb426)); have n5_ := Aside0.mk ((by rw [hg]; exact (below_size (by repeat (first | (with_reducible first | exact HB.out | apply below_alloc | apply pw_below_drewN | apply below_drew1) | exact HB.out))) : w.heap.size ≤ gb426)); clear HO_3; clear HO_19; clear HB; have HO_3 := n0_; have HO_19 := n1_; have HB := n2_; have BK426 := n3_; have GW426 := n4_; have GE426 := n5_; clear n0_ n1_ n2_ n3_ n4_ n5_; clear hb hbox hg; have hcz19_0 : w18.cell? ⟨gb426, 0, none⟩ = some (.int .i64 0) := (blk_cell BK426.out 0).trans rfl; have hcz19_1 : w18.cell? ⟨gb426, 1, none⟩ = some (.int .i64 0) := (blk_cell BK426.out 1).trans rfl; have hfz19_0 := blk_frozen BK426.out 0; have hfz19_1 := blk_frozen BK426.out 1))
            (try simp only [Act.put, List.setIfInBounds_toArray, List.set_cons_zero, List.set_cons_succ])
            go_cut [60] (fun v60 wc => ∃ (kq : Nat) (x60_16 : Bool), v60 = .bool x60_16 ∧ Aside0 (impl_fewest.j2 kq a0 x3_2 x4_1 t422 (t422.length : Int) x21_2 x60_16 ((rd_T58 t422 x21_2).f0) ((rd_T58 t422 x21_2).f1) = some r) ∧ Aside0 (kq ≤ k2) ∧ Aside0 (Kd.R (Kd.int .i64) 3 wc w.heap.size (fun _ => True) (.slice (some ⟨go8, 0, none⟩) x3_2.length co8) x3_2) ∧ Aside0 (Kd.R k58 58 wc w.heap.size (fun k_ => k_ ≠ gb426) (.slice (some ad425) t422.length co13) t422) ∧ Aside0 (wc.heap[gb426]? = some (.cells #[.int .i64 ((rd_T58 t422 x21_2).f0), .int .i64 ((rd_T58 t422 x21_2).f1)] 58 (0, 0))) ∧ Aside0 (Below w.heap.size w wc))
            case first =>
             have H := HC17.out
             clear HC17
             replace H := Option.bind_eq_some_iff.mp H
             obtain ⟨t427, A200, H⟩ := H
             replace H : (if t427 ≤ x4_1 then ((impl_Dart_score.f ((rd_T58 t422 x21_2).f0) ((rd_T58 t422 x21_2).f1)).bind fun t428 => (if 0 ≤ (wrap64 (x4_1 - t428)) then (if (wrap64 (x4_1 - t428)) < (x3_2.length : Int) then (if (rd x3_2 (wrap64 (x4_1 - t428))) ≥ 0 then (if 0 ≤ x4_1 then (if x4_1 < (x3_2.length : Int) then (if (rd x3_2 x4_1) < 0 then (impl_fewest.j2 k2 a0 x3_2 x4_1 t422 (t422.length : Int) x21_2 true ((rd_T58 t422 x21_2).f0) ((rd_T58 t422 x21_2).f1)) else ((impl_Dart_score.f ((rd_T58 t422 x21_2).f0) ((rd_T58 t422 x21_2).f1)).bind fun t431 => (if 0 ≤ (wrap64 (x4_1 - t431)) then (if (wrap64 (x4_1 - t431)) < (x3_2.length : Int) then (impl_fewest.j2 k2 a0 x3_2 x4_1 t422 (t422.length : Int) x21_2 (decide ((wrap64 ((rd x3_2 (wrap64 (x4_1 - t431))) + 1)) < (rd x3_2 x4_1))) ((rd_T58 t422 x21_2).f0) ((rd_T58 t422 x21_2).f1)) else (none)) else (none)))) else (none)) else (none)) else (impl_fewest.j2 k2 a0 x3_2 x4_1 t422 (t422.length : Int) x21_2 false ((rd_T58 t422 x21_2).f0) ((rd_T58 t422 x21_2).f1))) else (none)) else (none))) else (impl_fewest.j2 k2 a0 x3_2 x4_1 t422 (t422.length : Int) x21_2 false ((rd_T58 t422 x21_2).f0) ((rd_T58 t422 x21_2).f1))) = some r := H
             have A20 := Aside0.mk A200
             clear A200
             by_cases c21 : t427 ≤ x4_1
             ·
              rw [if_pos c21] at H
              have c21b0 : decide (t427 ≤ x4_1) = true := decide_eq_true c21
              clear c21
              (first | rw [c21b0] | (simp only [i64_w, i32_w]; rw [c21b0]) | skip)
              replace H := Option.bind_eq_some_iff.mp H
              obtain ⟨t428, A220, H⟩ := H
              replace H : (if 0 ≤ (wrap64 (x4_1 - t428)) then (if (wrap64 (x4_1 - t428)) < (x3_2.length : Int) then (if (rd x3_2 (wrap64 (x4_1 - t428))) ≥ 0 then (if 0 ≤ x4_1 then (if x4_1 < (x3_2.length : Int) then (if (rd x3_2 x4_1) < 0 then (impl_fewest.j2 k2 a0 x3_2 x4_1 t422 (t422.length : Int) x21_2 true ((rd_T58 t422 x21_2).f0) ((rd_T58 t422 x21_2).f1)) else ((impl_Dart_score.f ((rd_T58 t422 x21_2).f0) ((rd_T58 t422 x21_2).f1)).bind fun t431 => (if 0 ≤ (wrap64 (x4_1 - t431)) then (if (wrap64 (x4_1 - t431)) < (x3_2.length : Int) then (impl_fewest.j2 k2 a0 x3_2 x4_1 t422 (t422.length : Int) x21_2 (decide ((wrap64 ((rd x3_2 (wrap64 (x4_1 - t431))) + 1)) < (rd x3_2 x4_1))) ((rd_T58 t422 x21_2).f0) ((rd_T58 t422 x21_2).f1)) else (none)) else (none)))) else (none)) else (none)) else (impl_fewest.j2 k2 a0 x3_2 x4_1 t422 (t422.length : Int) x21_2 false ((rd_T58 t422 x21_2).f0) ((rd_T58 t422 x21_2).f1))) else (none)) else (none)) = some r := H
              have A22 := Aside0.mk A220
              clear A220
              obtain ⟨ji23, hji23⟩ : ∃ j_ : Int, (wrap64 (x4_1 - t428)) = j_ := ⟨_, rfl⟩
              replace H : (if 0 ≤ (ji23) then (if (ji23) < (x3_2.length : Int) then (if (rd x3_2 (ji23)) ≥ 0 then (if 0 ≤ x4_1 then (if x4_1 < (x3_2.length : Int) then (if (rd x3_2 x4_1) < 0 then (impl_fewest.j2 k2 a0 x3_2 x4_1 t422 (t422.length : Int) x21_2 true ((rd_T58 t422 x21_2).f0) ((rd_T58 t422 x21_2).f1)) else ((impl_Dart_score.f ((rd_T58 t422 x21_2).f0) ((rd_T58 t422 x21_2).f1)).bind fun t431 => (if 0 ≤ (wrap64 (x4_1 - t431)) then (if (wrap64 (x4_1 - t431)) < (x3_2.length : Int) then (impl_fewest.j2 k2 a0 x3_2 x4_1 t422 (t422.length : Int) x21_2 (decide ((wrap64 ((rd x3_2 (wrap64 (x4_1 - t431))) + 1)) < (rd x3_2 x4_1))) ((rd_T58 t422 x21_2).f0) ((rd_T58 t422 x21_2).f1)) else (none)) else (none)))) else (none)) else (none)) else (impl_fewest.j2 k2 a0 x3_2 x4_1 t422 (t422.length : Int) x21_2 false ((rd_T58 t422 x21_2).f0) ((rd_T58 t422 x21_2).f1))) else (none)) else (none)) = some r := by first | (rw [hji23] at H; exact H) | (simp only [hji23] at H ⊢; exact H)
              (try rw [hji23] at A20)
              (try rw [hji23] at A22)
              have hji23w : (IntKind.i64.wrap (x4_1 - t428)) = ji23 := (i64_w _).trans hji23
              by_cases c24 : 0 ≤ (ji23)
              ·
               rw [if_pos c24] at H
               have c24b0 : decide (0 ≤ (ji23)) = true := decide_eq_true c24
               clear c24
               by_cases c25 : (ji23) < (x3_2.length : Int)
               ·
                rw [if_pos c25] at H
                have c25b0 : decide ((ji23) < (x3_2.length : Int)) = true := decide_eq_true c25
                clear c25
                by_cases c26 : (rd x3_2 (ji23)) ≥ 0
                ·
                 rw [if_pos c26] at H
                 have c26b0 : decide (0 ≤ (rd x3_2 (ji23))) = true := decide_eq_true c26
                 clear c26
                 by_cases c27 : 0 ≤ x4_1
                 ·
                  rw [if_pos c27] at H
                  have c27b0 : decide (0 ≤ x4_1) = true := decide_eq_true c27
                  clear c27
                  by_cases c28 : x4_1 < (x3_2.length : Int)
                  ·
                   rw [if_pos c28] at H
                   have c28b0 : decide (x4_1 < (x3_2.length : Int)) = true := decide_eq_true c28
                   clear c28
                   by_cases c29 : (rd x3_2 x4_1) < 0
                   ·
                    rw [if_pos c29] at H
                    have c29b0 : decide ((rd x3_2 x4_1) < 0) = true := decide_eq_true c29
                    clear c29
                    have H' := Aside0.mk H
                    clear H
                    try go_wp2
                    have n0_ : Aside0 (Kd.R (Kd.int .i64) 3 ((w18.setCell ⟨gb426, 0, none⟩ (.int .i64 ((rd_T58 t422 x21_2).f0))).setCell ⟨gb426, 1, none⟩ (.int .i64 ((rd_T58 t422 x21_2).f1))) w.heap.size (fun _ => True) (.slice (some ⟨go8, 0, none⟩) x3_2.length co8) x3_2) := ⟨by (with_reducible repeat (first | apply Kd.R_alloc | apply Kd.R_drewN | apply Kd.R_drew)); exact Kd.R_mono (Kd.R_far (p := ⟨gb426, 1, none⟩) (Kd.R_far (p := ⟨gb426, 0, none⟩) (Kd.R_types HO_3.out BK426.out (by decide)) (fun _ hk => hk.2) (.int .i64 ((rd_T58 t422 x21_2).f0))) (fun _ hk => hk.2) (.int .i64 ((rd_T58 t422 x21_2).f1))) (fun _ hk => trivial)⟩
                    have n1_ : Aside0 (Kd.R k58 58 ((w18.setCell ⟨gb426, 0, none⟩ (.int .i64 ((rd_T58 t422 x21_2).f0))).setCell ⟨gb426, 1, none⟩ (.int .i64 ((rd_T58 t422 x21_2).f1))) w.heap.size (fun k_ => k_ ≠ gb426) (.slice (some ad425) t422.length co13) t422) := ⟨by (with_reducible repeat (first | apply Kd.R_alloc | apply Kd.R_drewN | apply Kd.R_drew)); exact Kd.R_mono (Kd.R_far (p := ⟨gb426, 1, none⟩) (Kd.R_far (p := ⟨gb426, 0, none⟩) (Kd.R_mono HO_19.out (fun k_ hk => (⟨hk, hk.2⟩ : _ ∧ k_ ≠ gb426))) (fun _ hk => hk.2) (.int .i64 ((rd_T58 t422 x21_2).f0))) (fun _ hk => hk.2) (.int .i64 ((rd_T58 t422 x21_2).f1))) (fun _ hk => hk.1.2)⟩
                    have n2_ : Aside0 (((w18.setCell ⟨gb426, 0, none⟩ (.int .i64 ((rd_T58 t422 x21_2).f0))).setCell ⟨gb426, 1, none⟩ (.int .i64 ((rd_T58 t422 x21_2).f1))).heap[gb426]? = some (.cells #[.int .i64 ((rd_T58 t422 x21_2).f0), .int .i64 ((rd_T58 t422 x21_2).f1)] 58 (0, 0))) := ⟨by (with_reducible repeat (first | refine blk_drewN ?_ _ | refine blk_drew ?_ | refine blk_alloc ?_ _)); refine blk_put (cs := #[.int .i64 ((rd_T58 t422 x21_2).f0), .int .i64 0]) ?_ 1 _ rfl; (with_reducible repeat (first | refine blk_drewN ?_ _ | refine blk_drew ?_ | refine blk_alloc ?_ _)); refine blk_put (cs := #[.int .i64 0, .int .i64 0]) ?_ 0 _ rfl; (with_reducible repeat (first | refine blk_drewN ?_ _ | refine blk_drew ?_ | refine blk_alloc ?_ _)); exact BK426.out⟩
                    have n3_ : Aside0 (Below w.heap.size w ((w18.setCell ⟨gb426, 0, none⟩ (.int .i64 ((rd_T58 t422 x21_2).f0))).setCell ⟨gb426, 1, none⟩ (.int .i64 ((rd_T58 t422 x21_2).f1)))) := ⟨by repeat (first | (with_reducible first | exact HB.out | apply below_alloc | apply pw_below_drewN | apply below_drew1 | refine below_set ?_ GE426.out) | exact HB.out)⟩
                    (try clear HO_3)
                    (try clear HO_19)
                    (try clear BK426)
                    (try clear HB)
                    generalize ((w18.setCell ⟨gb426, 0, none⟩ (.int .i64 ((rd_T58 t422 x21_2).f0))).setCell ⟨gb426, 1, none⟩ (.int .i64 ((rd_T58 t422 x21_2).f1))) = w30 at n0_ n1_ n2_ n3_ ⊢
                    have HO_3 := n0_
                    have HO_19 := n1_
                    have BK426 := n2_
                    have HB := n3_
                    clear n0_ n1_ n2_ n3_
                    have n0_ := Aside0.mk (Kd.R_drew HO_3.out)
                    have n1_ := Aside0.mk (Kd.R_drew HO_19.out)
                    have n2_ := Aside0.mk (blk_drew BK426.out)
                    have n3_ := Aside0.mk (below_drew1 HB.out)
                    clear HO_3; clear HO_19; clear BK426; clear HB
                    have HO_3 := n0_
                    have HO_19 := n1_
                    have BK426 := n2_
                    have HB := n3_
                    clear n0_ n1_ n2_ n3_
                    have p429 : 0 ≤ ((ji23) : Int) := of_decide_eq_true (by first | (with_reducible assumption) | assumption)
                    have q429 : (ji23) < (x3_2.length : Int) := of_decide_eq_true (by first | (with_reducible assumption) | assumption)
                    (try (obtain ⟨Az_, cz_, ez_⟩ := Kd.R_slice HO_3.out; subst ez_))
                    obtain ⟨ad429, e429, hx429_0⟩ := Kd.at_int (Kd.R_reads' HO_3.out).2.2 (ji23) p429 q429
                    obtain rfl : (⟨go8, 0, none⟩ : Addr) = ad429 := (by injection e429)
                    (first | simp only [add_plain] at hx429_0 | simp only [add_at] at hx429_0 | simp only [Addr.add, Nat.zero_add] at hx429_0 | skip)
                    replace p429 := eq_true p429
                    replace q429 := eq_true q429
                    have p430 : 0 ≤ (x4_1 : Int) := of_decide_eq_true (by first | (with_reducible assumption) | assumption)
                    have q430 : x4_1 < (x3_2.length : Int) := of_decide_eq_true (by first | (with_reducible assumption) | assumption)
                    (try (obtain ⟨Az_, cz_, ez_⟩ := Kd.R_slice HO_3.out; subst ez_))
                    obtain ⟨ad430, e430, hx430_0⟩ := Kd.at_int (Kd.R_reads' HO_3.out).2.2 x4_1 p430 q430
                    obtain rfl : (⟨go8, 0, none⟩ : Addr) = ad430 := (by injection e430)
                    (first | simp only [add_plain] at hx430_0 | simp only [add_at] at hx430_0 | simp only [Addr.add, Nat.zero_add] at hx430_0 | skip)
                    replace p430 := eq_true p430
                    replace q430 := eq_true q430
                    refine start_ (n := 36) (S := fun w' => w'.cell? ⟨gb426, 0, none⟩ = some (.int .i64 ((rd_T58 t422 x21_2).f0)) ∧ w'.cell? ⟨gb426, 1, none⟩ = some (.int .i64 ((rd_T58 t422 x21_2).f1)) ∧ w'.cell? ⟨go8, ((ji23)).toNat, none⟩ = some (.int .i64 (rd x3_2 (ji23))) ∧ w'.cell? ⟨go8, (x4_1).toNat, none⟩ = some (.int .i64 (rd x3_2 x4_1))) (ds := []) impl_fewest.b0 (by kernel_rfl) rfl rfl ⟨(blk_cell BK426.out 0).trans rfl, (blk_cell BK426.out 1).trans rfl, hx429_0, hx430_0⟩ (fun hHeld => ?_); refine with_tabW impl_fewest.tab9 impl_fewest.bits9 (fun HT_ HW_ => ?_)
                    generalize w30.drew = w31 at HO_3 HO_19 BK426 HB hx429_0 hx430_0 hHeld ⊢
                    refine pure_ (i := 2) (N := some 27) (v := ?_) (a' := ?_) impl_fewest.b1 rfl rfl (any_of HT_.out (by kernel_rfl)) (fun _ _ _ h => h) (Or.inl ⟨by rfl, ?_⟩) ?_ ?_; rotate_left
                    ·
                     intro w'; go_simp; with_reducible rfl
                    rotate_left
                    ·
                     simp only [Act.put, sA, sB, sC, i64_w, i32_w]; rfl
                    refine take_ (i := 0) (N := some 25) (v := ?_) (a' := ?_) impl_fewest.b2 rfl rfl (take_ofW HT_.out HW_.out (by kernel_rfl)) (fun _ _ _ h => h) (Or.inl ⟨by rfl, ?_⟩) hHeld ?_ ?_; rotate_left
                    ·
                     rintro w' ⟨s0, s1, s2, s3⟩; go_simp; with_reducible rfl
                    rotate_left
                    ·
                     simp only [Act.put, sA, sB, sC, i64_w, i32_w]; rfl
                    refine one_ (i := 1) (N := some 26) impl_fewest.b3 rfl rfl (one_of HT_.out (by kernel_rfl)) (by decide) (fun K hK => ?_)
                    refine goes_ Try.func58 (by kernel_rfl) rfl #[.agg #[.int .i64 ((rd_T58 t422 x21_2).f0), .int .i64 ((rd_T58 t422 x21_2).f1)]] (by rfl) rfl rfl (by (try simp only [List.map_toArray, List.map_cons, List.map_nil]); first | done | rfl | (simp only [List.length_drop, List.length_take]; rfl)) ?_
                    with_reducible refine (impl_Dart_score.calls ((rd_T58 t422 x21_2).f0) ((rd_T58 t422 x21_2).f1) t427 _ A20.out).mono ?_
                    rintro e w32 ⟨rfl, hb⟩
                    have HS2_ := (hb.cell (World.block_lt_of_cell? _ _ (hHeld.2.2.1))).trans (hHeld.2.2.1)
                    have HS3_ := (hb.cell (World.block_lt_of_cell? _ _ (hHeld.2.2.2))).trans (hHeld.2.2.2)
                    refine ⟨_, rfl, ?_⟩
                    have n0_ := Aside0.mk (Kd.R_below (by (with_reducible repeat (first | apply Kd.R_alloc | apply Kd.R_drewN | apply Kd.R_drew)); exact HO_3.out) hb)
                    have n1_ := Aside0.mk (Kd.R_below (by (with_reducible repeat (first | apply Kd.R_alloc | apply Kd.R_drewN | apply Kd.R_drew)); exact HO_19.out) hb)
                    have n2_ := Aside0.mk (blk_below (g := gb426) (o := .cells #[.int .i64 ((rd_T58 t422 x21_2).f0), .int .i64 ((rd_T58 t422 x21_2).f1)] 58 (0, 0)) (by (with_reducible repeat (first | refine blk_drewN ?_ _ | refine blk_drew ?_ | refine blk_alloc ?_ _)); exact BK426.out) hb)
                    have n3_ := Aside0.mk (below_step (by repeat (first | (with_reducible first | exact HB.out | apply below_alloc | apply pw_below_drewN | apply below_drew1 | refine below_set ?_ GE426.out) | exact HB.out)) hb)
                    clear HO_3; clear HO_19; clear BK426; clear HB
                    have HO_3 := n0_
                    have HO_19 := n1_
                    have BK426 := n2_
                    have HB := n3_
                    clear n0_ n1_ n2_ n3_
                    (try clear hb)
                    (try clear hb2)
                    (try clear hk)
                    (try clear hi)
                    refine hK.out _ _ ⟨(blk_cell BK426.out 0).trans rfl, (blk_cell BK426.out 1).trans rfl, HS2_, HS3_⟩ (fun hHeld => ?_); clear hK K
                    refine norm_ (a' := ?_) ?_ ?_; rotate_left
                    ·
                     show Act.put _ (some 26) _ = _
                     simp only [Act.put, sA, sB, sC, i64_w, i32_w]; rfl
                    refine pure_ (i := 3) (N := some 28) (v := ?_) (a' := ?_) impl_fewest.b4 rfl rfl (any_of HT_.out (by kernel_rfl)) (fun _ _ _ h => h) (Or.inl ⟨by rfl, ?_⟩) ?_ ?_; rotate_left
                    ·
                     intro w'; go_simp; with_reducible rfl
                    rotate_left
                    ·
                     simp only [Act.put, sA, sB, sC, i64_w, i32_w]; rfl
                    refine pure_ (i := 4) (N := some 29) (v := ?_) (a' := ?_) impl_fewest.b5 rfl rfl (any_of HT_.out (by kernel_rfl)) (fun _ _ _ h => h) (Or.inl ⟨by rfl, ?_⟩) ?_ ?_; rotate_left
                    ·
                     intro w'; go_simp; with_reducible rfl
                    rotate_left
                    ·
                     simp only [Act.put, sA, sB, sC, i64_w, i32_w]; rfl
                    refine pure_ (i := 5) (N := some 30) (v := ?_) (a' := ?_) impl_fewest.b6 rfl rfl (any_of HT_.out (by kernel_rfl)) (fun _ _ _ h => h) (Or.inl ⟨by rfl, ?_⟩) ?_ ?_; rotate_left
                    ·
                     intro w'; go_simp; with_reducible rfl
                    rotate_left
                    ·
                     simp only [Act.put, sA, sB, sC, i64_w, i32_w]; rfl
                    refine pure_ (i := 6) (N := some 31) (v := ?_) (a' := ?_) impl_fewest.b7 rfl rfl (any_of HT_.out (by kernel_rfl)) (fun _ _ _ h => h) (Or.inl ⟨by rfl, ?_⟩) ?_ ?_; rotate_left
                    ·
                     intro w'; go_simp; with_reducible rfl
                    rotate_left
                    ·
                     simp only [Act.put, sA, sB, sC, i64_w, i32_w]; rfl
                    refine take_ (i := 7) (N := some 32) (v := ?_) (a' := ?_) impl_fewest.b8 rfl rfl (take_ofW HT_.out HW_.out (by kernel_rfl)) (fun _ _ _ h => h) (Or.inl ⟨by rfl, ?_⟩) hHeld ?_ ?_; rotate_left
                    ·
                     rintro w' ⟨s0, s1, s2, s3⟩; go_simp; with_reducible rfl
                    rotate_left
                    ·
                     simp only [Act.put, sA, sB, sC, i64_w, i32_w]; rfl
                    refine one_ (i := 8) (N := some 33) impl_fewest.b9 rfl rfl (one_of HT_.out (by kernel_rfl)) (by decide) (fun K hK => ?_)
                    refine goes_ Try.func58 (by kernel_rfl) rfl #[.agg #[.int .i64 ((rd_T58 t422 x21_2).f0), .int .i64 ((rd_T58 t422 x21_2).f1)]] (by rfl) rfl rfl (by (try simp only [List.map_toArray, List.map_cons, List.map_nil]); first | done | rfl | (simp only [List.length_drop, List.length_take]; rfl)) ?_
                    with_reducible refine (impl_Dart_score.calls ((rd_T58 t422 x21_2).f0) ((rd_T58 t422 x21_2).f1) t428 _ A22.out).mono ?_
                    rintro e w33 ⟨rfl, hb⟩
                    have HS2_ := (hb.cell (World.block_lt_of_cell? _ _ (hHeld.2.2.1))).trans (hHeld.2.2.1)
                    have HS3_ := (hb.cell (World.block_lt_of_cell? _ _ (hHeld.2.2.2))).trans (hHeld.2.2.2)
                    refine ⟨_, rfl, ?_⟩
                    have n0_ := Aside0.mk (Kd.R_below (by (with_reducible repeat (first | apply Kd.R_alloc | apply Kd.R_drewN | apply Kd.R_drew)); exact HO_3.out) hb)
                    have n1_ := Aside0.mk (Kd.R_below (by (with_reducible repeat (first | apply Kd.R_alloc | apply Kd.R_drewN | apply Kd.R_drew)); exact HO_19.out) hb)
                    have n2_ := Aside0.mk (blk_below (g := gb426) (o := .cells #[.int .i64 ((rd_T58 t422 x21_2).f0), .int .i64 ((rd_T58 t422 x21_2).f1)] 58 (0, 0)) (by (with_reducible repeat (first | refine blk_drewN ?_ _ | refine blk_drew ?_ | refine blk_alloc ?_ _)); exact BK426.out) hb)
                    have n3_ := Aside0.mk (below_step (by repeat (first | (with_reducible first | exact HB.out | apply below_alloc | apply pw_below_drewN | apply below_drew1 | refine below_set ?_ GE426.out) | exact HB.out)) hb)
                    clear HO_3; clear HO_19; clear BK426; clear HB
                    have HO_3 := n0_
                    have HO_19 := n1_
                    have BK426 := n2_
                    have HB := n3_
                    clear n0_ n1_ n2_ n3_
                    (try clear hb)
                    (try clear hb2)
                    (try clear hk)
                    (try clear hi)
                    refine hK.out _ _ ⟨(blk_cell BK426.out 0).trans rfl, (blk_cell BK426.out 1).trans rfl, HS2_, HS3_⟩ (fun hHeld => ?_); clear hK K
                    refine norm_ (a' := ?_) ?_ ?_; rotate_left
                    ·
                     show Act.put _ (some 33) _ = _
                     simp only [Act.put, sA, sB, sC, i64_w, i32_w]; rfl
                    refine pure_ (i := 9) (N := some 34) (v := ?_) (a' := ?_) impl_fewest.b10 rfl rfl (any_of HT_.out (by kernel_rfl)) (fun _ _ _ h => h) (Or.inl ⟨by rfl, ?_⟩) ?_ ?_; rotate_left
                    ·
                     intro w'; go_simp; with_reducible rfl
                    rotate_left
                    ·
                     simp only [Act.put, sA, sB, sC, i64_w, i32_w]; rfl
                    refine pure_ (i := 10) (N := some 35) (v := ?_) (a' := ?_) impl_fewest.b11 rfl rfl (any_of HT_.out (by kernel_rfl)) (fun _ _ _ h => h) (Or.inl ⟨by rfl, ?_⟩) ?_ ?_; rotate_left
                    ·
                     intro w'; go_simp; with_reducible rfl
                    rotate_left
                    ·
                     simp only [Act.put, sA, sB, sC, i64_w, i32_w]; rfl
                    refine take_ (i := 11) (N := some 36) (v := ?_) (a' := ?_) impl_fewest.b12 rfl rfl (take_ofW HT_.out HW_.out (by kernel_rfl)) (fun _ _ _ h => h) (Or.inl ⟨by rfl, ?_⟩) hHeld ?_ ?_; rotate_left
                    ·
                     rintro w' ⟨s0, s1, s2, s3⟩; go_simp; with_reducible rfl
                    rotate_left
                    ·
                     simp only [Act.put, sA, sB, sC, i64_w, i32_w]; rfl
                    refine pure_ (i := 12) (N := some 37) (v := ?_) (a' := ?_) impl_fewest.b13 rfl rfl (any_of HT_.out (by kernel_rfl)) (fun _ _ _ h => h) (Or.inl ⟨by rfl, ?_⟩) ?_ ?_; rotate_left
                    ·
                     intro w'; go_simp; with_reducible rfl
                    rotate_left
                    ·
                     simp only [Act.put, sA, sB, sC, i64_w, i32_w]; rfl
                    refine pure_ (i := 13) (N := some 38) (v := ?_) (a' := ?_) impl_fewest.b14 rfl rfl (any_of HT_.out (by kernel_rfl)) (fun _ _ _ h => h) (Or.inl ⟨by rfl, ?_⟩) ?_ ?_; rotate_left
                    ·
                     intro w'; go_simp; with_reducible rfl
                    rotate_left
                    ·
                     simp only [Act.put, sA, sB, sC, i64_w, i32_w]; rfl
                    refine pure_ (i := 14) (N := some 39) (v := ?_) (a' := ?_) impl_fewest.b15 rfl rfl (any_of HT_.out (by kernel_rfl)) (fun _ _ _ h => h) (Or.inl ⟨by rfl, ?_⟩) ?_ ?_; rotate_left
                    ·
                     intro w'; go_simp; with_reducible rfl
                    rotate_left
                    ·
                     simp only [Act.put, sA, sB, sC, i64_w, i32_w]; rfl
                    refine pure_ (i := 15) (N := some 40) (v := ?_) (a' := ?_) impl_fewest.b16 rfl rfl (any_of HT_.out (by kernel_rfl)) (fun _ _ _ h => h) (Or.inl ⟨by rfl, ?_⟩) ?_ ?_; rotate_left
                    ·
                     intro w'; go_simp; with_reducible rfl
                    rotate_left
                    ·
                     simp only [Act.put, sA, sB, sC, i64_w, i32_w]; rfl
                    refine pure_ (i := 16) (N := some 41) (v := ?_) (a' := ?_) impl_fewest.b17 rfl rfl (any_of HT_.out (by kernel_rfl)) (fun _ _ _ h => h) (Or.inl ⟨by rfl, ?_⟩) ?_ ?_; rotate_left
                    ·
                     intro w'; go_simp; with_reducible rfl
                    rotate_left
                    ·
                     simp only [Act.put, sA, sB, sC, i64_w, i32_w]; rfl
                    refine pure_ (i := 17) (N := some 42) (v := ?_) (a' := ?_) impl_fewest.b18 rfl rfl (any_of HT_.out (by kernel_rfl)) (fun _ _ _ h => h) (Or.inl ⟨by rfl, ?_⟩) ?_ ?_; rotate_left
                    ·
                     intro w'; go_simp; with_reducible rfl
                    rotate_left
                    ·
                     simp only [Act.put, sA, sB, sC, i64_w, i32_w]; rfl
                    refine take_ (i := 18) (N := some 43) (v := ?_) (a' := ?_) impl_fewest.b19 rfl rfl (take_ofW HT_.out HW_.out (by kernel_rfl)) (fun _ _ _ h => h) (Or.inl ⟨by rfl, ?_⟩) hHeld ?_ ?_; rotate_left
                    ·
                     rintro w' ⟨s0, s1, s2, s3⟩; go_simp; with_reducible rfl
                    rotate_left
                    ·
                     simp only [Act.put, sA, sB, sC, i64_w, i32_w]; rfl
                    refine pure_ (i := 19) (N := some 44) (v := ?_) (a' := ?_) impl_fewest.b20 rfl rfl (any_of HT_.out (by kernel_rfl)) (fun _ _ _ h => h) (Or.inl ⟨by rfl, ?_⟩) ?_ ?_; rotate_left
                    ·
                     intro w'; go_simp; with_reducible rfl
                    rotate_left
                    ·
                     simp only [Act.put, sA, sB, sC, i64_w, i32_w]; rfl
                    refine pure_ (i := 20) (N := some 45) (v := ?_) (a' := ?_) impl_fewest.b21 rfl rfl (any_of HT_.out (by kernel_rfl)) (fun _ _ _ h => h) (Or.inl ⟨by rfl, ?_⟩) ?_ ?_; rotate_left
                    ·
                     intro w'; go_simp; with_reducible rfl
                    rotate_left
                    ·
                     simp only [Act.put, sA, sB, sC, i64_w, i32_w]; rfl
                    refine pure_ (i := 21) (N := some 46) (v := undef) (a' := ?_) impl_fewest.b22 rfl rfl (any_of HT_.out (by kernel_rfl)) (fun _ _ _ h => h) (Or.inr ⟨by rfl, rfl⟩) ?_ ?_; rotate_left
                    ·
                     simp only [Act.put, sA, sB, sC, i64_w, i32_w]; rfl
                    refine pure_ (i := 22) (N := some 47) (v := undef) (a' := ?_) impl_fewest.b23 rfl rfl (any_of HT_.out (by kernel_rfl)) (fun _ _ _ h => h) (Or.inr ⟨by rfl, rfl⟩) ?_ ?_; rotate_left
                    ·
                     simp only [Act.put, sA, sB, sC, i64_w, i32_w]; rfl
                    refine pure_ (i := 23) (N := some 48) (v := undef) (a' := ?_) impl_fewest.b24 rfl rfl (any_of HT_.out (by kernel_rfl)) (fun _ _ _ h => h) (Or.inr ⟨by rfl, rfl⟩) ?_ ?_; rotate_left
                    ·
                     simp only [Act.put, sA, sB, sC, i64_w, i32_w]; rfl
                    refine pure_ (i := 24) (N := some 49) (v := undef) (a' := ?_) impl_fewest.b25 rfl rfl (any_of HT_.out (by kernel_rfl)) (fun _ _ _ h => h) (Or.inr ⟨by rfl, rfl⟩) ?_ ?_; rotate_left
                    ·
                     simp only [Act.put, sA, sB, sC, i64_w, i32_w]; rfl
                    refine pure_ (i := 25) (N := some 50) (v := undef) (a' := ?_) impl_fewest.b26 rfl rfl (any_of HT_.out (by kernel_rfl)) (fun _ _ _ h => h) (Or.inr ⟨by rfl, rfl⟩) ?_ ?_; rotate_left
                    ·
                     simp only [Act.put, sA, sB, sC, i64_w, i32_w]; rfl
                    refine pure_ (i := 26) (N := some 51) (v := undef) (a' := ?_) impl_fewest.b27 rfl rfl (any_of HT_.out (by kernel_rfl)) (fun _ _ _ h => h) (Or.inr ⟨by rfl, rfl⟩) ?_ ?_; rotate_left
                    ·
                     simp only [Act.put, sA, sB, sC, i64_w, i32_w]; rfl
                    refine pure_ (i := 27) (N := some 52) (v := undef) (a' := ?_) impl_fewest.b28 rfl rfl (any_of HT_.out (by kernel_rfl)) (fun _ _ _ h => h) (Or.inr ⟨by rfl, rfl⟩) ?_ ?_; rotate_left
                    ·
                     simp only [Act.put, sA, sB, sC, i64_w, i32_w]; rfl
                    refine pure_ (i := 28) (N := some 53) (v := undef) (a' := ?_) impl_fewest.b29 rfl rfl (any_of HT_.out (by kernel_rfl)) (fun _ _ _ h => h) (Or.inr ⟨by rfl, rfl⟩) ?_ ?_; rotate_left
                    ·
                     simp only [Act.put, sA, sB, sC, i64_w, i32_w]; rfl
                    refine pure_ (i := 29) (N := some 54) (v := undef) (a' := ?_) impl_fewest.b30 rfl rfl (any_of HT_.out (by kernel_rfl)) (fun _ _ _ h => h) (Or.inr ⟨by rfl, rfl⟩) ?_ ?_; rotate_left
                    ·
                     simp only [Act.put, sA, sB, sC, i64_w, i32_w]; rfl
                    refine pure_ (i := 30) (N := some 55) (v := undef) (a' := ?_) impl_fewest.b31 rfl rfl (any_of HT_.out (by kernel_rfl)) (fun _ _ _ h => h) (Or.inr ⟨by rfl, rfl⟩) ?_ ?_; rotate_left
                    ·
                     simp only [Act.put, sA, sB, sC, i64_w, i32_w]; rfl
                    refine pure_ (i := 31) (N := some 56) (v := undef) (a' := ?_) impl_fewest.b32 rfl rfl (any_of HT_.out (by kernel_rfl)) (fun _ _ _ h => h) (Or.inr ⟨by rfl, rfl⟩) ?_ ?_; rotate_left
                    ·
                     simp only [Act.put, sA, sB, sC, i64_w, i32_w]; rfl
                    refine pure_ (i := 32) (N := some 57) (v := undef) (a' := ?_) impl_fewest.b33 rfl rfl (any_of HT_.out (by kernel_rfl)) (fun _ _ _ h => h) (Or.inr ⟨by rfl, rfl⟩) ?_ ?_; rotate_left
                    ·
                     simp only [Act.put, sA, sB, sC, i64_w, i32_w]; rfl
                    refine pure_ (i := 33) (N := some 58) (v := undef) (a' := ?_) impl_fewest.b34 rfl rfl (any_of HT_.out (by kernel_rfl)) (fun _ _ _ h => h) (Or.inr ⟨by rfl, rfl⟩) ?_ ?_; rotate_left
                    ·
                     simp only [Act.put, sA, sB, sC, i64_w, i32_w]; rfl
                    refine pure_ (i := 34) (N := some 59) (v := ?_) (a' := ?_) impl_fewest.b35 rfl rfl (any_of HT_.out (by kernel_rfl)) (fun _ _ _ h => h) (Or.inl ⟨by rfl, ?_⟩) ?_ ?_; rotate_left
                    ·
                     intro w'; go_simp; with_reducible rfl
                    rotate_left
                    ·
                     simp only [Act.put, sA, sB, sC, i64_w, i32_w]; rfl
                    refine pure_ (i := 35) (N := some 60) (v := ?_) (a' := ?_) impl_fewest.b36 rfl rfl (any_of HT_.out (by kernel_rfl)) (fun _ _ _ h => h) (Or.inl ⟨by rfl, ?_⟩) ?_ ?_; rotate_left
                    ·
                     intro w'; go_simp; with_reducible rfl
                    rotate_left
                    ·
                     simp only [Act.put, sA, sB, sC, i64_w, i32_w]; rfl
                    refine done_ (done_of HT_.out (by kernel_rfl)) ?_
                    try go_wp2
                    go_meet
                    case rel => exact ⟨_, (true), (by first | rfl | (simp; done) | (simp [*]; done)), H', ⟨by have := HK1.out; have := HK2.out; first | omega | exact Nat.le_refl _⟩, ⟨by (try simp only [hl3_2]); (with_reducible repeat (first | apply Kd.R_alloc | apply Kd.R_drewN | apply Kd.R_drew)); exact HO_3.out⟩, ⟨by (try simp only [hl3_2]); (with_reducible repeat (first | apply Kd.R_alloc | apply Kd.R_drewN | apply Kd.R_drew)); exact HO_19.out⟩, ⟨by (try simp only [hl3_2]); (with_reducible repeat (first | refine blk_drewN ?_ _ | refine blk_drew ?_ | refine blk_alloc ?_ _)); exact BK426.out⟩, ⟨by repeat (first | (with_reducible first | exact HB.out | apply below_alloc | apply pw_below_drewN | apply below_drew1 | refine below_set ?_ GE426.out) | exact HB.out)⟩⟩
                   ·
                    rw [if_neg c29] at H
                    have c29b0 : decide ((rd x3_2 x4_1) < 0) = false := decide_eq_false c29
                    clear c29
                    replace H := Option.bind_eq_some_iff.mp H
                    obtain ⟨t431, A340, H⟩ := H
                    replace H : (if 0 ≤ (wrap64 (x4_1 - t431)) then (if (wrap64 (x4_1 - t431)) < (x3_2.length : Int) then (impl_fewest.j2 k2 a0 x3_2 x4_1 t422 (t422.length : Int) x21_2 (decide ((wrap64 ((rd x3_2 (wrap64 (x4_1 - t431))) + 1)) < (rd x3_2 x4_1))) ((rd_T58 t422 x21_2).f0) ((rd_T58 t422 x21_2).f1)) else (none)) else (none)) = some r := H
                    have A34 := Aside0.mk A340
                    clear A340
                    obtain ⟨ji35, hji35⟩ : ∃ j_ : Int, (wrap64 (x4_1 - t431)) = j_ := ⟨_, rfl⟩
                    replace H : (if 0 ≤ (ji35) then (if (ji35) < (x3_2.length : Int) then (impl_fewest.j2 k2 a0 x3_2 x4_1 t422 (t422.length : Int) x21_2 (decide ((wrap64 ((rd x3_2 (ji35)) + 1)) < (rd x3_2 x4_1))) ((rd_T58 t422 x21_2).f0) ((rd_T58 t422 x21_2).f1)) else (none)) else (none)) = some r := by first | (rw [hji35] at H; exact H) | (simp only [hji35] at H ⊢; exact H)
                    (try rw [hji35] at A20)
                    (try rw [hji35] at A22)
                    (try rw [hji35] at A34)
                    have hji35w : (IntKind.i64.wrap (x4_1 - t431)) = ji35 := (i64_w _).trans hji35
                    by_cases c36 : 0 ≤ (ji35)
                    ·
                     rw [if_pos c36] at H
                     have c36b0 : decide (0 ≤ (ji35)) = true := decide_eq_true c36
                     clear c36
                     by_cases c37 : (ji35) < (x3_2.length : Int)
                     ·
                      rw [if_pos c37] at H
                      have c37b0 : decide ((ji35) < (x3_2.length : Int)) = true := decide_eq_true c37
                      clear c37
                      have H' := Aside0.mk H
                      clear H
                      try go_wp2
                      have n0_ : Aside0 (Kd.R (Kd.int .i64) 3 ((w18.setCell ⟨gb426, 0, none⟩ (.int .i64 ((rd_T58 t422 x21_2).f0))).setCell ⟨gb426, 1, none⟩ (.int .i64 ((rd_T58 t422 x21_2).f1))) w.heap.size (fun _ => True) (.slice (some ⟨go8, 0, none⟩) x3_2.length co8) x3_2) := ⟨by (with_reducible repeat (first | apply Kd.R_alloc | apply Kd.R_drewN | apply Kd.R_drew)); exact Kd.R_mono (Kd.R_far (p := ⟨gb426, 1, none⟩) (Kd.R_far (p := ⟨gb426, 0, none⟩) (Kd.R_types HO_3.out BK426.out (by decide)) (fun _ hk => hk.2) (.int .i64 ((rd_T58 t422 x21_2).f0))) (fun _ hk => hk.2) (.int .i64 ((rd_T58 t422 x21_2).f1))) (fun _ hk => trivial)⟩
                      have n1_ : Aside0 (Kd.R k58 58 ((w18.setCell ⟨gb426, 0, none⟩ (.int .i64 ((rd_T58 t422 x21_2).f0))).setCell ⟨gb426, 1, none⟩ (.int .i64 ((rd_T58 t422 x21_2).f1))) w.heap.size (fun k_ => k_ ≠ gb426) (.slice (some ad425) t422.length co13) t422) := ⟨by (with_reducible repeat (first | apply Kd.R_alloc | apply Kd.R_drewN | apply Kd.R_drew)); exact Kd.R_mono (Kd.R_far (p := ⟨gb426, 1, none⟩) (Kd.R_far (p := ⟨gb426, 0, none⟩) (Kd.R_mono HO_19.out (fun k_ hk => (⟨hk, hk.2⟩ : _ ∧ k_ ≠ gb426))) (fun _ hk => hk.2) (.int .i64 ((rd_T58 t422 x21_2).f0))) (fun _ hk => hk.2) (.int .i64 ((rd_T58 t422 x21_2).f1))) (fun _ hk => hk.1.2)⟩
                      have n2_ : Aside0 (((w18.setCell ⟨gb426, 0, none⟩ (.int .i64 ((rd_T58 t422 x21_2).f0))).setCell ⟨gb426, 1, none⟩ (.int .i64 ((rd_T58 t422 x21_2).f1))).heap[gb426]? = some (.cells #[.int .i64 ((rd_T58 t422 x21_2).f0), .int .i64 ((rd_T58 t422 x21_2).f1)] 58 (0, 0))) := ⟨by (with_reducible repeat (first | refine blk_drewN ?_ _ | refine blk_drew ?_ | refine blk_alloc ?_ _)); refine blk_put (cs := #[.int .i64 ((rd_T58 t422 x21_2).f0), .int .i64 0]) ?_ 1 _ rfl; (with_reducible repeat (first | refine blk_drewN ?_ _ | refine blk_drew ?_ | refine blk_alloc ?_ _)); refine blk_put (cs := #[.int .i64 0, .int .i64 0]) ?_ 0 _ rfl; (with_reducible repeat (first | refine blk_drewN ?_ _ | refine blk_drew ?_ | refine blk_alloc ?_ _)); exact BK426.out⟩
                      have n3_ : Aside0 (Below w.heap.size w ((w18.setCell ⟨gb426, 0, none⟩ (.int .i64 ((rd_T58 t422 x21_2).f0))).setCell ⟨gb426, 1, none⟩ (.int .i64 ((rd_T58 t422 x21_2).f1)))) := ⟨by repeat (first | (with_reducible first | exact HB.out | apply below_alloc | apply pw_below_drewN | apply below_drew1 | refine below_set ?_ GE426.out) | exact HB.out)⟩
                      (try clear HO_3)
                      (try clear HO_19)
                      (try clear BK426)
                      (try clear HB)
                      generalize ((w18.setCell ⟨gb426, 0, none⟩ (.int .i64 ((rd_T58 t422 x21_2).f0))).setCell ⟨gb426, 1, none⟩ (.int .i64 ((rd_T58 t422 x21_2).f1))) = w38 at n0_ n1_ n2_ n3_ ⊢
                      have HO_3 := n0_
                      have HO_19 := n1_
                      have BK426 := n2_
                      have HB := n3_
                      clear n0_ n1_ n2_ n3_
                      have n0_ := Aside0.mk (Kd.R_drew HO_3.out)
                      have n1_ := Aside0.mk (Kd.R_drew HO_19.out)
                      have n2_ := Aside0.mk (blk_drew BK426.out)
                      have n3_ := Aside0.mk (below_drew1 HB.out)
                      clear HO_3; clear HO_19; clear BK426; clear HB
                      have HO_3 := n0_
                      have HO_19 := n1_
                      have BK426 := n2_
                      have HB := n3_
                      clear n0_ n1_ n2_ n3_
                      have p429 : 0 ≤ ((ji23) : Int) := of_decide_eq_true (by first | (with_reducible assumption) | assumption)
                      have q429 : (ji23) < (x3_2.length : Int) := of_decide_eq_true (by first | (with_reducible assumption) | assumption)
                      (try (obtain ⟨Az_, cz_, ez_⟩ := Kd.R_slice HO_3.out; subst ez_))
                      obtain ⟨ad429, e429, hx429_0⟩ := Kd.at_int (Kd.R_reads' HO_3.out).2.2 (ji23) p429 q429
                      obtain rfl : (⟨go8, 0, none⟩ : Addr) = ad429 := (by injection e429)
                      (first | simp only [add_plain] at hx429_0 | simp only [add_at] at hx429_0 | simp only [Addr.add, Nat.zero_add] at hx429_0 | skip)
                      replace p429 := eq_true p429
                      replace q429 := eq_true q429
                      have p430 : 0 ≤ (x4_1 : Int) := of_decide_eq_true (by first | (with_reducible assumption) | assumption)
                      have q430 : x4_1 < (x3_2.length : Int) := of_decide_eq_true (by first | (with_reducible assumption) | assumption)
                      (try (obtain ⟨Az_, cz_, ez_⟩ := Kd.R_slice HO_3.out; subst ez_))
                      obtain ⟨ad430, e430, hx430_0⟩ := Kd.at_int (Kd.R_reads' HO_3.out).2.2 x4_1 p430 q430
                      obtain rfl : (⟨go8, 0, none⟩ : Addr) = ad430 := (by injection e430)
                      (first | simp only [add_plain] at hx430_0 | simp only [add_at] at hx430_0 | simp only [Addr.add, Nat.zero_add] at hx430_0 | skip)
                      replace p430 := eq_true p430
                      replace q430 := eq_true q430
                      have p432 : 0 ≤ ((ji35) : Int) := of_decide_eq_true (by first | (with_reducible assumption) | assumption)
                      have q432 : (ji35) < (x3_2.length : Int) := of_decide_eq_true (by first | (with_reducible assumption) | assumption)
                      (try (obtain ⟨Az_, cz_, ez_⟩ := Kd.R_slice HO_3.out; subst ez_))
                      obtain ⟨ad432, e432, hx432_0⟩ := Kd.at_int (Kd.R_reads' HO_3.out).2.2 (ji35) p432 q432
                      obtain rfl : (⟨go8, 0, none⟩ : Addr) = ad432 := (by injection e432)
                      (first | simp only [add_plain] at hx432_0 | simp only [add_at] at hx432_0 | simp only [Addr.add, Nat.zero_add] at hx432_0 | skip)
                      replace p432 := eq_true p432
                      replace q432 := eq_true q432
                      have p433 : 0 ≤ (x4_1 : Int) := of_decide_eq_true (by first | (with_reducible assumption) | assumption)
                      have q433 : x4_1 < (x3_2.length : Int) := of_decide_eq_true (by first | (with_reducible assumption) | assumption)
                      (try (obtain ⟨Az_, cz_, ez_⟩ := Kd.R_slice HO_3.out; subst ez_))
                      obtain ⟨ad433, e433, hx433_0⟩ := Kd.at_int (Kd.R_reads' HO_3.out).2.2 x4_1 p433 q433
                      obtain rfl : (⟨go8, 0, none⟩ : Addr) = ad433 := (by injection e433)
                      (first | simp only [add_plain] at hx433_0 | simp only [add_at] at hx433_0 | simp only [Addr.add, Nat.zero_add] at hx433_0 | skip)
                      replace p433 := eq_true p433
                      replace q433 := eq_true q433
                      refine start_ (n := 36) (S := fun w' => w'.cell? ⟨gb426, 0, none⟩ = some (.int .i64 ((rd_T58 t422 x21_2).f0)) ∧ w'.cell? ⟨gb426, 1, none⟩ = some (.int .i64 ((rd_T58 t422 x21_2).f1)) ∧ w'.cell? ⟨go8, ((ji23)).toNat, none⟩ = some (.int .i64 (rd x3_2 (ji23))) ∧ w'.cell? ⟨go8, (x4_1).toNat, none⟩ = some (.int .i64 (rd x3_2 x4_1)) ∧ w'.cell? ⟨go8, ((ji35)).toNat, none⟩ = some (.int .i64 (rd x3_2 (ji35))) ∧ w'.cell? ⟨go8, (x4_1).toNat, none⟩ = some (.int .i64 (rd x3_2 x4_1))) (ds := []) impl_fewest.b0 (by kernel_rfl) rfl rfl ⟨(blk_cell BK426.out 0).trans rfl, (blk_cell BK426.out 1).trans rfl, hx429_0, hx430_0, hx432_0, hx433_0⟩ (fun hHeld => ?_); refine with_tabW impl_fewest.tab9 impl_fewest.bits9 (fun HT_ HW_ => ?_)
                      generalize w38.drew = w39 at HO_3 HO_19 BK426 HB hx429_0 hx430_0 hx432_0 hx433_0 hHeld ⊢
                      refine pure_ (i := 2) (N := some 27) (v := ?_) (a' := ?_) impl_fewest.b1 rfl rfl (any_of HT_.out (by kernel_rfl)) (fun _ _ _ h => h) (Or.inl ⟨by rfl, ?_⟩) ?_ ?_; rotate_left
                      ·
                       intro w'; go_simp; with_reducible rfl
                      rotate_left
                      ·
                       simp only [Act.put, sA, sB, sC, i64_w, i32_w]; rfl
                      refine take_ (i := 0) (N := some 25) (v := ?_) (a' := ?_) impl_fewest.b2 rfl rfl (take_ofW HT_.out HW_.out (by kernel_rfl)) (fun _ _ _ h => h) (Or.inl ⟨by rfl, ?_⟩) hHeld ?_ ?_; rotate_left
                      ·
                       rintro w' ⟨s0, s1, s2, s3, s4, s5⟩; go_simp; with_reducible rfl
                      rotate_left
                      ·
                       simp only [Act.put, sA, sB, sC, i64_w, i32_w]; rfl
                      refine one_ (i := 1) (N := some 26) impl_fewest.b3 rfl rfl (one_of HT_.out (by kernel_rfl)) (by decide) (fun K hK => ?_)
                      refine goes_ Try.func58 (by kernel_rfl) rfl #[.agg #[.int .i64 ((rd_T58 t422 x21_2).f0), .int .i64 ((rd_T58 t422 x21_2).f1)]] (by rfl) rfl rfl (by (try simp only [List.map_toArray, List.map_cons, List.map_nil]); first | done | rfl | (simp only [List.length_drop, List.length_take]; rfl)) ?_
                      with_reducible refine (impl_Dart_score.calls ((rd_T58 t422 x21_2).f0) ((rd_T58 t422 x21_2).f1) t427 _ A20.out).mono ?_
                      rintro e w40 ⟨rfl, hb⟩
                      have HS2_ := (hb.cell (World.block_lt_of_cell? _ _ (hHeld.2.2.1))).trans (hHeld.2.2.1)
                      have HS3_ := (hb.cell (World.block_lt_of_cell? _ _ (hHeld.2.2.2.1))).trans (hHeld.2.2.2.1)
                      have HS4_ := (hb.cell (World.block_lt_of_cell? _ _ (hHeld.2.2.2.2.1))).trans (hHeld.2.2.2.2.1)
                      have HS5_ := (hb.cell (World.block_lt_of_cell? _ _ (hHeld.2.2.2.2.2))).trans (hHeld.2.2.2.2.2)
                      refine ⟨_, rfl, ?_⟩
                      have n0_ := Aside0.mk (Kd.R_below (by (with_reducible repeat (first | apply Kd.R_alloc | apply Kd.R_drewN | apply Kd.R_drew)); exact HO_3.out) hb)
                      have n1_ := Aside0.mk (Kd.R_below (by (with_reducible repeat (first | apply Kd.R_alloc | apply Kd.R_drewN | apply Kd.R_drew)); exact HO_19.out) hb)
                      have n2_ := Aside0.mk (blk_below (g := gb426) (o := .cells #[.int .i64 ((rd_T58 t422 x21_2).f0), .int .i64 ((rd_T58 t422 x21_2).f1)] 58 (0, 0)) (by (with_reducible repeat (first | refine blk_drewN ?_ _ | refine blk_drew ?_ | refine blk_alloc ?_ _)); exact BK426.out) hb)
                      have n3_ := Aside0.mk (below_step (by repeat (first | (with_reducible first | exact HB.out | apply below_alloc | apply pw_below_drewN | apply below_drew1 | refine below_set ?_ GE426.out) | exact HB.out)) hb)
                      clear HO_3; clear HO_19; clear BK426; clear HB
                      have HO_3 := n0_
                      have HO_19 := n1_
                      have BK426 := n2_
                      have HB := n3_
                      clear n0_ n1_ n2_ n3_
                      (try clear hb)
                      (try clear hb2)
                      (try clear hk)
                      (try clear hi)
                      refine hK.out _ _ ⟨(blk_cell BK426.out 0).trans rfl, (blk_cell BK426.out 1).trans rfl, HS2_, HS3_, HS4_, HS5_⟩ (fun hHeld => ?_); clear hK K
                      refine norm_ (a' := ?_) ?_ ?_; rotate_left
                      ·
                       show Act.put _ (some 26) _ = _
                       simp only [Act.put, sA, sB, sC, i64_w, i32_w]; rfl
                      refine pure_ (i := 3) (N := some 28) (v := ?_) (a' := ?_) impl_fewest.b4 rfl rfl (any_of HT_.out (by kernel_rfl)) (fun _ _ _ h => h) (Or.inl ⟨by rfl, ?_⟩) ?_ ?_; rotate_left
                      ·
                       intro w'; go_simp; with_reducible rfl
                      rotate_left
                      ·
                       simp only [Act.put, sA, sB, sC, i64_w, i32_w]; rfl
                      refine pure_ (i := 4) (N := some 29) (v := ?_) (a' := ?_) impl_fewest.b5 rfl rfl (any_of HT_.out (by kernel_rfl)) (fun _ _ _ h => h) (Or.inl ⟨by rfl, ?_⟩) ?_ ?_; rotate_left
                      ·
                       intro w'; go_simp; with_reducible rfl
                      rotate_left
                      ·
                       simp only [Act.put, sA, sB, sC, i64_w, i32_w]; rfl
                      refine pure_ (i := 5) (N := some 30) (v := ?_) (a' := ?_) impl_fewest.b6 rfl rfl (any_of HT_.out (by kernel_rfl)) (fun _ _ _ h => h) (Or.inl ⟨by rfl, ?_⟩) ?_ ?_; rotate_left
                      ·
                       intro w'; go_simp; with_reducible rfl
                      rotate_left
                      ·
                       simp only [Act.put, sA, sB, sC, i64_w, i32_w]; rfl
                      refine pure_ (i := 6) (N := some 31) (v := ?_) (a' := ?_) impl_fewest.b7 rfl rfl (any_of HT_.out (by kernel_rfl)) (fun _ _ _ h => h) (Or.inl ⟨by rfl, ?_⟩) ?_ ?_; rotate_left
                      ·
                       intro w'; go_simp; with_reducible rfl
                      rotate_left
                      ·
                       simp only [Act.put, sA, sB, sC, i64_w, i32_w]; rfl
                      refine take_ (i := 7) (N := some 32) (v := ?_) (a' := ?_) impl_fewest.b8 rfl rfl (take_ofW HT_.out HW_.out (by kernel_rfl)) (fun _ _ _ h => h) (Or.inl ⟨by rfl, ?_⟩) hHeld ?_ ?_; rotate_left
                      ·
                       rintro w' ⟨s0, s1, s2, s3, s4, s5⟩; go_simp; with_reducible rfl
                      rotate_left
                      ·
                       simp only [Act.put, sA, sB, sC, i64_w, i32_w]; rfl
                      refine one_ (i := 8) (N := some 33) impl_fewest.b9 rfl rfl (one_of HT_.out (by kernel_rfl)) (by decide) (fun K hK => ?_)
                      refine goes_ Try.func58 (by kernel_rfl) rfl #[.agg #[.int .i64 ((rd_T58 t422 x21_2).f0), .int .i64 ((rd_T58 t422 x21_2).f1)]] (by rfl) rfl rfl (by (try simp only [List.map_toArray, List.map_cons, List.map_nil]); first | done | rfl | (simp only [List.length_drop, List.length_take]; rfl)) ?_
                      with_reducible refine (impl_Dart_score.calls ((rd_T58 t422 x21_2).f0) ((rd_T58 t422 x21_2).f1) t428 _ A22.out).mono ?_
                      rintro e w41 ⟨rfl, hb⟩
                      have HS2_ := (hb.cell (World.block_lt_of_cell? _ _ (hHeld.2.2.1))).trans (hHeld.2.2.1)
                      have HS3_ := (hb.cell (World.block_lt_of_cell? _ _ (hHeld.2.2.2.1))).trans (hHeld.2.2.2.1)
                      have HS4_ := (hb.cell (World.block_lt_of_cell? _ _ (hHeld.2.2.2.2.1))).trans (hHeld.2.2.2.2.1)
                      have HS5_ := (hb.cell (World.block_lt_of_cell? _ _ (hHeld.2.2.2.2.2))).trans (hHeld.2.2.2.2.2)
                      refine ⟨_, rfl, ?_⟩
                      have n0_ := Aside0.mk (Kd.R_below (by (with_reducible repeat (first | apply Kd.R_alloc | apply Kd.R_drewN | apply Kd.R_drew)); exact HO_3.out) hb)
                      have n1_ := Aside0.mk (Kd.R_below (by (with_reducible repeat (first | apply Kd.R_alloc | apply Kd.R_drewN | apply Kd.R_drew)); exact HO_19.out) hb)
                      have n2_ := Aside0.mk (blk_below (g := gb426) (o := .cells #[.int .i64 ((rd_T58 t422 x21_2).f0), .int .i64 ((rd_T58 t422 x21_2).f1)] 58 (0, 0)) (by (with_reducible repeat (first | refine blk_drewN ?_ _ | refine blk_drew ?_ | refine blk_alloc ?_ _)); exact BK426.out) hb)
                      have n3_ := Aside0.mk (below_step (by repeat (first | (with_reducible first | exact HB.out | apply below_alloc | apply pw_below_drewN | apply below_drew1 | refine below_set ?_ GE426.out) | exact HB.out)) hb)
                      clear HO_3; clear HO_19; clear BK426; clear HB
                      have HO_3 := n0_
                      have HO_19 := n1_
                      have BK426 := n2_
                      have HB := n3_
                      clear n0_ n1_ n2_ n3_
                      (try clear hb)
                      (try clear hb2)
                      (try clear hk)
                      (try clear hi)
                      refine hK.out _ _ ⟨(blk_cell BK426.out 0).trans rfl, (blk_cell BK426.out 1).trans rfl, HS2_, HS3_, HS4_, HS5_⟩ (fun hHeld => ?_); clear hK K
                      refine norm_ (a' := ?_) ?_ ?_; rotate_left
                      ·
                       show Act.put _ (some 33) _ = _
                       simp only [Act.put, sA, sB, sC, i64_w, i32_w]; rfl
                      refine pure_ (i := 9) (N := some 34) (v := ?_) (a' := ?_) impl_fewest.b10 rfl rfl (any_of HT_.out (by kernel_rfl)) (fun _ _ _ h => h) (Or.inl ⟨by rfl, ?_⟩) ?_ ?_; rotate_left
                      ·
                       intro w'; go_simp; with_reducible rfl
                      rotate_left
                      ·
                       simp only [Act.put, sA, sB, sC, i64_w, i32_w]; rfl
                      refine pure_ (i := 10) (N := some 35) (v := ?_) (a' := ?_) impl_fewest.b11 rfl rfl (any_of HT_.out (by kernel_rfl)) (fun _ _ _ h => h) (Or.inl ⟨by rfl, ?_⟩) ?_ ?_; rotate_left
                      ·
                       intro w'; go_simp; with_reducible rfl
                      rotate_left
                      ·
                       simp only [Act.put, sA, sB, sC, i64_w, i32_w]; rfl
                      refine take_ (i := 11) (N := some 36) (v := ?_) (a' := ?_) impl_fewest.b12 rfl rfl (take_ofW HT_.out HW_.out (by kernel_rfl)) (fun _ _ _ h => h) (Or.inl ⟨by rfl, ?_⟩) hHeld ?_ ?_; rotate_left
                      ·
                       rintro w' ⟨s0, s1, s2, s3, s4, s5⟩; go_simp; with_reducible rfl
                      rotate_left
                      ·
                       simp only [Act.put, sA, sB, sC, i64_w, i32_w]; rfl
                      refine pure_ (i := 12) (N := some 37) (v := ?_) (a' := ?_) impl_fewest.b13 rfl rfl (any_of HT_.out (by kernel_rfl)) (fun _ _ _ h => h) (Or.inl ⟨by rfl, ?_⟩) ?_ ?_; rotate_left
                      ·
                       intro w'; go_simp; with_reducible rfl
                      rotate_left
                      ·
                       simp only [Act.put, sA, sB, sC, i64_w, i32_w]; rfl
                      refine pure_ (i := 13) (N := some 38) (v := ?_) (a' := ?_) impl_fewest.b14 rfl rfl (any_of HT_.out (by kernel_rfl)) (fun _ _ _ h => h) (Or.inl ⟨by rfl, ?_⟩) ?_ ?_; rotate_left
                      ·
                       intro w'; go_simp; with_reducible rfl
                      rotate_left
                      ·
                       simp only [Act.put, sA, sB, sC, i64_w, i32_w]; rfl
                      refine pure_ (i := 14) (N := some 39) (v := ?_) (a' := ?_) impl_fewest.b15 rfl rfl (any_of HT_.out (by kernel_rfl)) (fun _ _ _ h => h) (Or.inl ⟨by rfl, ?_⟩) ?_ ?_; rotate_left
                      ·
                       intro w'; go_simp; with_reducible rfl
                      rotate_left
                      ·
                       simp only [Act.put, sA, sB, sC, i64_w, i32_w]; rfl
                      refine pure_ (i := 15) (N := some 40) (v := ?_) (a' := ?_) impl_fewest.b16 rfl rfl (any_of HT_.out (by kernel_rfl)) (fun _ _ _ h => h) (Or.inl ⟨by rfl, ?_⟩) ?_ ?_; rotate_left
                      ·
                       intro w'; go_simp; with_reducible rfl
                      rotate_left
                      ·
                       simp only [Act.put, sA, sB, sC, i64_w, i32_w]; rfl
                      refine pure_ (i := 16) (N := some 41) (v := ?_) (a' := ?_) impl_fewest.b17 rfl rfl (any_of HT_.out (by kernel_rfl)) (fun _ _ _ h => h) (Or.inl ⟨by rfl, ?_⟩) ?_ ?_; rotate_left
                      ·
                       intro w'; go_simp; with_reducible rfl
                      rotate_left
                      ·
                       simp only [Act.put, sA, sB, sC, i64_w, i32_w]; rfl
                      refine pure_ (i := 17) (N := some 42) (v := ?_) (a' := ?_) impl_fewest.b18 rfl rfl (any_of HT_.out (by kernel_rfl)) (fun _ _ _ h => h) (Or.inl ⟨by rfl, ?_⟩) ?_ ?_; rotate_left
                      ·
                       intro w'; go_simp; with_reducible rfl
                      rotate_left
                      ·
                       simp only [Act.put, sA, sB, sC, i64_w, i32_w]; rfl
                      refine take_ (i := 18) (N := some 43) (v := ?_) (a' := ?_) impl_fewest.b19 rfl rfl (take_ofW HT_.out HW_.out (by kernel_rfl)) (fun _ _ _ h => h) (Or.inl ⟨by rfl, ?_⟩) hHeld ?_ ?_; rotate_left
                      ·
                       rintro w' ⟨s0, s1, s2, s3, s4, s5⟩; go_simp; with_reducible rfl
                      rotate_left
                      ·
                       simp only [Act.put, sA, sB, sC, i64_w, i32_w]; rfl
                      refine pure_ (i := 19) (N := some 44) (v := ?_) (a' := ?_) impl_fewest.b20 rfl rfl (any_of HT_.out (by kernel_rfl)) (fun _ _ _ h => h) (Or.inl ⟨by rfl, ?_⟩) ?_ ?_; rotate_left
                      ·
                       intro w'; go_simp; with_reducible rfl
                      rotate_left
                      ·
                       simp only [Act.put, sA, sB, sC, i64_w, i32_w]; rfl
                      refine pure_ (i := 20) (N := some 45) (v := ?_) (a' := ?_) impl_fewest.b21 rfl rfl (any_of HT_.out (by kernel_rfl)) (fun _ _ _ h => h) (Or.inl ⟨by rfl, ?_⟩) ?_ ?_; rotate_left
                      ·
                       intro w'; go_simp; with_reducible rfl
                      rotate_left
                      ·
                       simp only [Act.put, sA, sB, sC, i64_w, i32_w]; rfl
                      refine pure_ (i := 21) (N := some 46) (v := ?_) (a' := ?_) impl_fewest.b22 rfl rfl (any_of HT_.out (by kernel_rfl)) (fun _ _ _ h => h) (Or.inl ⟨by rfl, ?_⟩) ?_ ?_; rotate_left
                      ·
                       intro w'; go_simp; with_reducible rfl
                      rotate_left
                      ·
                       simp only [Act.put, sA, sB, sC, i64_w, i32_w]; rfl
                      refine pure_ (i := 22) (N := some 47) (v := ?_) (a' := ?_) impl_fewest.b23 rfl rfl (any_of HT_.out (by kernel_rfl)) (fun _ _ _ h => h) (Or.inl ⟨by rfl, ?_⟩) ?_ ?_; rotate_left
                      ·
                       intro w'; go_simp; with_reducible rfl
                      rotate_left
                      ·
                       simp only [Act.put, sA, sB, sC, i64_w, i32_w]; rfl
                      refine pure_ (i := 29) (N := some 54) (v := ?_) (a' := ?_) impl_fewest.b37 rfl rfl (any_of HT_.out (by kernel_rfl)) (fun _ _ _ h => h) (Or.inl ⟨by rfl, ?_⟩) ?_ ?_; rotate_left
                      ·
                       intro w'; go_simp; with_reducible rfl
                      rotate_left
                      ·
                       simp only [Act.put, sA, sB, sC, i64_w, i32_w]; rfl
                      refine pure_ (i := 30) (N := some 55) (v := ?_) (a' := ?_) impl_fewest.b38 rfl rfl (any_of HT_.out (by kernel_rfl)) (fun _ _ _ h => h) (Or.inl ⟨by rfl, ?_⟩) ?_ ?_; rotate_left
                      ·
                       intro w'; go_simp; with_reducible rfl
                      rotate_left
                      ·
                       simp only [Act.put, sA, sB, sC, i64_w, i32_w]; rfl
                      refine pure_ (i := 31) (N := some 56) (v := ?_) (a' := ?_) impl_fewest.b39 rfl rfl (any_of HT_.out (by kernel_rfl)) (fun _ _ _ h => h) (Or.inl ⟨by rfl, ?_⟩) ?_ ?_; rotate_left
                      ·
                       intro w'; go_simp; with_reducible rfl
                      rotate_left
                      ·
                       simp only [Act.put, sA, sB, sC, i64_w, i32_w]; rfl
                      refine take_ (i := 23) (N := some 48) (v := ?_) (a' := ?_) impl_fewest.b40 rfl rfl (take_ofW HT_.out HW_.out (by kernel_rfl)) (fun _ _ _ h => h) (Or.inl ⟨by rfl, ?_⟩) hHeld ?_ ?_; rotate_left
                      ·
                       rintro w' ⟨s0, s1, s2, s3, s4, s5⟩; go_simp; with_reducible rfl
                      rotate_left
                      ·
                       simp only [Act.put, sA, sB, sC, i64_w, i32_w]; rfl
                      refine take_ (i := 32) (N := some 57) (v := ?_) (a' := ?_) impl_fewest.b41 rfl rfl (take_ofW HT_.out HW_.out (by kernel_rfl)) (fun _ _ _ h => h) (Or.inl ⟨by rfl, ?_⟩) hHeld ?_ ?_; rotate_left
                      ·
                       rintro w' ⟨s0, s1, s2, s3, s4, s5⟩; go_simp; with_reducible rfl
                      rotate_left
                      ·
                       simp only [Act.put, sA, sB, sC, i64_w, i32_w]; rfl
                      refine one_ (i := 24) (N := some 49) impl_fewest.b42 rfl rfl (one_of HT_.out (by kernel_rfl)) (by decide) (fun K hK => ?_)
                      refine goes_ Try.func58 (by kernel_rfl) rfl #[.agg #[.int .i64 ((rd_T58 t422 x21_2).f0), .int .i64 ((rd_T58 t422 x21_2).f1)]] (by rfl) rfl rfl (by (try simp only [List.map_toArray, List.map_cons, List.map_nil]); first | done | rfl | (simp only [List.length_drop, List.length_take]; rfl)) ?_
                      with_reducible refine (impl_Dart_score.calls ((rd_T58 t422 x21_2).f0) ((rd_T58 t422 x21_2).f1) t431 _ A34.out).mono ?_
                      rintro e w42 ⟨rfl, hb⟩
                      have HS2_ := (hb.cell (World.block_lt_of_cell? _ _ (hHeld.2.2.1))).trans (hHeld.2.2.1)
                      have HS3_ := (hb.cell (World.block_lt_of_cell? _ _ (hHeld.2.2.2.1))).trans (hHeld.2.2.2.1)
                      have HS4_ := (hb.cell (World.block_lt_of_cell? _ _ (hHeld.2.2.2.2.1))).trans (hHeld.2.2.2.2.1)
                      have HS5_ := (hb.cell (World.block_lt_of_cell? _ _ (hHeld.2.2.2.2.2))).trans (hHeld.2.2.2.2.2)
                      refine ⟨_, rfl, ?_⟩
                      have n0_ := Aside0.mk (Kd.R_below (by (with_reducible repeat (first | apply Kd.R_alloc | apply Kd.R_drewN | apply Kd.R_drew)); exact HO_3.out) hb)
                      have n1_ := Aside0.mk (Kd.R_below (by (with_reducible repeat (first | apply Kd.R_alloc | apply Kd.R_drewN | apply Kd.R_drew)); exact HO_19.out) hb)
                      have n2_ := Aside0.mk (blk_below (g := gb426) (o := .cells #[.int .i64 ((rd_T58 t422 x21_2).f0), .int .i64 ((rd_T58 t422 x21_2).f1)] 58 (0, 0)) (by (with_reducible repeat (first | refine blk_drewN ?_ _ | refine blk_drew ?_ | refine blk_alloc ?_ _)); exact BK426.out) hb)
                      have n3_ := Aside0.mk (below_step (by repeat (first | (with_reducible first | exact HB.out | apply below_alloc | apply pw_below_drewN | apply below_drew1 | refine below_set ?_ GE426.out) | exact HB.out)) hb)
                      clear HO_3; clear HO_19; clear BK426; clear HB
                      have HO_3 := n0_
                      have HO_19 := n1_
                      have BK426 := n2_
                      have HB := n3_
                      clear n0_ n1_ n2_ n3_
                      (try clear hb)
                      (try clear hb2)
                      (try clear hk)
                      (try clear hi)
                      refine hK.out _ _ ⟨(blk_cell BK426.out 0).trans rfl, (blk_cell BK426.out 1).trans rfl, HS2_, HS3_, HS4_, HS5_⟩ (fun hHeld => ?_); clear hK K
                      refine norm_ (a' := ?_) ?_ ?_; rotate_left
                      ·
                       show Act.put _ (some 49) _ = _
                       simp only [Act.put, sA, sB, sC, i64_w, i32_w]; rfl
                      refine pure_ (i := 25) (N := some 50) (v := ?_) (a' := ?_) impl_fewest.b43 rfl rfl (any_of HT_.out (by kernel_rfl)) (fun _ _ _ h => h) (Or.inl ⟨by rfl, ?_⟩) ?_ ?_; rotate_left
                      ·
                       intro w'; go_simp; with_reducible rfl
                      rotate_left
                      ·
                       simp only [Act.put, sA, sB, sC, i64_w, i32_w]; rfl
                      refine pure_ (i := 26) (N := some 51) (v := ?_) (a' := ?_) impl_fewest.b44 rfl rfl (any_of HT_.out (by kernel_rfl)) (fun _ _ _ h => h) (Or.inl ⟨by rfl, ?_⟩) ?_ ?_; rotate_left
                      ·
                       intro w'; go_simp; with_reducible rfl
                      rotate_left
                      ·
                       simp only [Act.put, sA, sB, sC, i64_w, i32_w]; rfl
                      refine take_ (i := 27) (N := some 52) (v := ?_) (a' := ?_) impl_fewest.b45 rfl rfl (take_ofW HT_.out HW_.out (by kernel_rfl)) (fun _ _ _ h => h) (Or.inl ⟨by rfl, ?_⟩) hHeld ?_ ?_; rotate_left
                      ·
                       rintro w' ⟨s0, s1, s2, s3, s4, s5⟩; go_simp; with_reducible rfl
                      rotate_left
                      ·
                       simp only [Act.put, sA, sB, sC, i64_w, i32_w]; rfl
                      refine pure_ (i := 28) (N := some 53) (v := ?_) (a' := ?_) impl_fewest.b33 rfl rfl (any_of HT_.out (by kernel_rfl)) (fun _ _ _ h => h) (Or.inl ⟨by rfl, ?_⟩) ?_ ?_; rotate_left
                      ·
                       intro w'; go_simp; with_reducible rfl
                      rotate_left
                      ·
                       simp only [Act.put, sA, sB, sC, i64_w, i32_w]; rfl
                      refine pure_ (i := 33) (N := some 58) (v := ?_) (a' := ?_) impl_fewest.b34 rfl rfl (any_of HT_.out (by kernel_rfl)) (fun _ _ _ h => h) (Or.inl ⟨by rfl, ?_⟩) ?_ ?_; rotate_left
                      ·
                       intro w'; go_simp; with_reducible rfl
                      rotate_left
                      ·
                       simp only [Act.put, sA, sB, sC, i64_w, i32_w]; rfl
                      refine pure_ (i := 34) (N := some 59) (v := ?_) (a' := ?_) impl_fewest.b35 rfl rfl (any_of HT_.out (by kernel_rfl)) (fun _ _ _ h => h) (Or.inl ⟨by rfl, ?_⟩) ?_ ?_; rotate_left
                      ·
                       intro w'; go_simp; with_reducible rfl
                      rotate_left
                      ·
                       simp only [Act.put, sA, sB, sC, i64_w, i32_w]; rfl
                      refine pure_ (i := 35) (N := some 60) (v := ?_) (a' := ?_) impl_fewest.b36 rfl rfl (any_of HT_.out (by kernel_rfl)) (fun _ _ _ h => h) (Or.inl ⟨by rfl, ?_⟩) ?_ ?_; rotate_left
                      ·
                       intro w'; go_simp; with_reducible rfl
                      rotate_left
                      ·
                       simp only [Act.put, sA, sB, sC, i64_w, i32_w]; rfl
                      refine done_ (done_of HT_.out (by kernel_rfl)) ?_
                      try go_wp2
                      go_meet
                      case rel => exact ⟨_, (decide ((wrap64 ((rd x3_2 (ji35)) + 1)) < (rd x3_2 x4_1))), (by first | rfl | (simp; done) | (simp only [← hji35] <;> (first | rfl | simp)) | (simp [*]; done)), H', ⟨by have := HK1.out; have := HK2.out; first | omega | exact Nat.le_refl _⟩, ⟨by (try simp only [hl3_2]); (with_reducible repeat (first | apply Kd.R_alloc | apply Kd.R_drewN | apply Kd.R_drew)); exact HO_3.out⟩, ⟨by (try simp only [hl3_2]); (with_reducible repeat (first | apply Kd.R_alloc | apply Kd.R_drewN | apply Kd.R_drew)); exact HO_19.out⟩, ⟨by (try simp only [hl3_2]); (with_reducible repeat (first | refine blk_drewN ?_ _ | refine blk_drew ?_ | refine blk_alloc ?_ _)); exact BK426.out⟩, ⟨by repeat (first | (with_reducible first | exact HB.out | apply below_alloc | apply pw_below_drewN | apply below_drew1 | refine below_set ?_ GE426.out) | exact HB.out)⟩⟩
                     ·
                      rw [if_neg c37] at H
                      exact absurd H (by simp)
                    ·
                     rw [if_neg c36] at H
                     exact absurd H (by simp)
                  ·
                   rw [if_neg c28] at H
                   exact absurd H (by simp)
                 ·
                  rw [if_neg c27] at H
                  exact absurd H (by simp)
                ·
                 rw [if_neg c26] at H
                 have c26b0 : decide (0 ≤ (rd x3_2 (ji23))) = false := decide_eq_false c26
                 clear c26
                 have H' := Aside0.mk H
                 clear H
                 try go_wp2
                 have n0_ : Aside0 (Kd.R (Kd.int .i64) 3 ((w18.setCell ⟨gb426, 0, none⟩ (.int .i64 ((rd_T58 t422 x21_2).f0))).setCell ⟨gb426, 1, none⟩ (.int .i64 ((rd_T58 t422 x21_2).f1))) w.heap.size (fun _ => True) (.slice (some ⟨go8, 0, none⟩) x3_2.length co8) x3_2) := ⟨by (with_reducible repeat (first | apply Kd.R_alloc | apply Kd.R_drewN | apply Kd.R_drew)); exact Kd.R_mono (Kd.R_far (p := ⟨gb426, 1, none⟩) (Kd.R_far (p := ⟨gb426, 0, none⟩) (Kd.R_types HO_3.out BK426.out (by decide)) (fun _ hk => hk.2) (.int .i64 ((rd_T58 t422 x21_2).f0))) (fun _ hk => hk.2) (.int .i64 ((rd_T58 t422 x21_2).f1))) (fun _ hk => trivial)⟩
                 have n1_ : Aside0 (Kd.R k58 58 ((w18.setCell ⟨gb426, 0, none⟩ (.int .i64 ((rd_T58 t422 x21_2).f0))).setCell ⟨gb426, 1, none⟩ (.int .i64 ((rd_T58 t422 x21_2).f1))) w.heap.size (fun k_ => k_ ≠ gb426) (.slice (some ad425) t422.length co13) t422) := ⟨by (with_reducible repeat (first | apply Kd.R_alloc | apply Kd.R_drewN | apply Kd.R_drew)); exact Kd.R_mono (Kd.R_far (p := ⟨gb426, 1, none⟩) (Kd.R_far (p := ⟨gb426, 0, none⟩) (Kd.R_mono HO_19.out (fun k_ hk => (⟨hk, hk.2⟩ : _ ∧ k_ ≠ gb426))) (fun _ hk => hk.2) (.int .i64 ((rd_T58 t422 x21_2).f0))) (fun _ hk => hk.2) (.int .i64 ((rd_T58 t422 x21_2).f1))) (fun _ hk => hk.1.2)⟩
                 have n2_ : Aside0 (((w18.setCell ⟨gb426, 0, none⟩ (.int .i64 ((rd_T58 t422 x21_2).f0))).setCell ⟨gb426, 1, none⟩ (.int .i64 ((rd_T58 t422 x21_2).f1))).heap[gb426]? = some (.cells #[.int .i64 ((rd_T58 t422 x21_2).f0), .int .i64 ((rd_T58 t422 x21_2).f1)] 58 (0, 0))) := ⟨by (with_reducible repeat (first | refine blk_drewN ?_ _ | refine blk_drew ?_ | refine blk_alloc ?_ _)); refine blk_put (cs := #[.int .i64 ((rd_T58 t422 x21_2).f0), .int .i64 0]) ?_ 1 _ rfl; (with_reducible repeat (first | refine blk_drewN ?_ _ | refine blk_drew ?_ | refine blk_alloc ?_ _)); refine blk_put (cs := #[.int .i64 0, .int .i64 0]) ?_ 0 _ rfl; (with_reducible repeat (first | refine blk_drewN ?_ _ | refine blk_drew ?_ | refine blk_alloc ?_ _)); exact BK426.out⟩
                 have n3_ : Aside0 (Below w.heap.size w ((w18.setCell ⟨gb426, 0, none⟩ (.int .i64 ((rd_T58 t422 x21_2).f0))).setCell ⟨gb426, 1, none⟩ (.int .i64 ((rd_T58 t422 x21_2).f1)))) := ⟨by repeat (first | (with_reducible first | exact HB.out | apply below_alloc | apply pw_below_drewN | apply below_drew1 | refine below_set ?_ GE426.out) | exact HB.out)⟩
                 (try clear HO_3)
                 (try clear HO_19)
                 (try clear BK426)
                 (try clear HB)
                 generalize ((w18.setCell ⟨gb426, 0, none⟩ (.int .i64 ((rd_T58 t422 x21_2).f0))).setCell ⟨gb426, 1, none⟩ (.int .i64 ((rd_T58 t422 x21_2).f1))) = w43 at n0_ n1_ n2_ n3_ ⊢
                 have HO_3 := n0_
                 have HO_19 := n1_
                 have BK426 := n2_
                 have HB := n3_
                 clear n0_ n1_ n2_ n3_
                 have n0_ := Aside0.mk (Kd.R_drew HO_3.out)
                 have n1_ := Aside0.mk (Kd.R_drew HO_19.out)
                 have n2_ := Aside0.mk (blk_drew BK426.out)
                 have n3_ := Aside0.mk (below_drew1 HB.out)
                 clear HO_3; clear HO_19; clear BK426; clear HB
                 have HO_3 := n0_
                 have HO_19 := n1_
                 have BK426 := n2_
                 have HB := n3_
                 clear n0_ n1_ n2_ n3_
                 have p429 : 0 ≤ ((ji23) : Int) := of_decide_eq_true (by first | (with_reducible assumption) | assumption)
                 have q429 : (ji23) < (x3_2.length : Int) := of_decide_eq_true (by first | (with_reducible assumption) | assumption)
                 (try (obtain ⟨Az_, cz_, ez_⟩ := Kd.R_slice HO_3.out; subst ez_))
                 obtain ⟨ad429, e429, hx429_0⟩ := Kd.at_int (Kd.R_reads' HO_3.out).2.2 (ji23) p429 q429
                 obtain rfl : (⟨go8, 0, none⟩ : Addr) = ad429 := (by injection e429)
                 (first | simp only [add_plain] at hx429_0 | simp only [add_at] at hx429_0 | simp only [Addr.add, Nat.zero_add] at hx429_0 | skip)
                 replace p429 := eq_true p429
                 replace q429 := eq_true q429
                 refine start_ (n := 36) (S := fun w' => w'.cell? ⟨gb426, 0, none⟩ = some (.int .i64 ((rd_T58 t422 x21_2).f0)) ∧ w'.cell? ⟨gb426, 1, none⟩ = some (.int .i64 ((rd_T58 t422 x21_2).f1)) ∧ w'.cell? ⟨go8, ((ji23)).toNat, none⟩ = some (.int .i64 (rd x3_2 (ji23)))) (ds := []) impl_fewest.b0 (by kernel_rfl) rfl rfl ⟨(blk_cell BK426.out 0).trans rfl, (blk_cell BK426.out 1).trans rfl, hx429_0⟩ (fun hHeld => ?_); refine with_tabW impl_fewest.tab9 impl_fewest.bits9 (fun HT_ HW_ => ?_)
                 generalize w43.drew = w44 at HO_3 HO_19 BK426 HB hx429_0 hHeld ⊢
                 refine pure_ (i := 2) (N := some 27) (v := ?_) (a' := ?_) impl_fewest.b1 rfl rfl (any_of HT_.out (by kernel_rfl)) (fun _ _ _ h => h) (Or.inl ⟨by rfl, ?_⟩) ?_ ?_; rotate_left
                 ·
                  intro w'; go_simp; with_reducible rfl
                 rotate_left
                 ·
                  simp only [Act.put, sA, sB, sC, i64_w, i32_w]; rfl
                 refine take_ (i := 0) (N := some 25) (v := ?_) (a' := ?_) impl_fewest.b2 rfl rfl (take_ofW HT_.out HW_.out (by kernel_rfl)) (fun _ _ _ h => h) (Or.inl ⟨by rfl, ?_⟩) hHeld ?_ ?_; rotate_left
                 ·
                  rintro w' ⟨s0, s1, s2⟩; go_simp; with_reducible rfl
                 rotate_left
                 ·
                  simp only [Act.put, sA, sB, sC, i64_w, i32_w]; rfl
                 refine one_ (i := 1) (N := some 26) impl_fewest.b3 rfl rfl (one_of HT_.out (by kernel_rfl)) (by decide) (fun K hK => ?_)
                 refine goes_ Try.func58 (by kernel_rfl) rfl #[.agg #[.int .i64 ((rd_T58 t422 x21_2).f0), .int .i64 ((rd_T58 t422 x21_2).f1)]] (by rfl) rfl rfl (by (try simp only [List.map_toArray, List.map_cons, List.map_nil]); first | done | rfl | (simp only [List.length_drop, List.length_take]; rfl)) ?_
                 with_reducible refine (impl_Dart_score.calls ((rd_T58 t422 x21_2).f0) ((rd_T58 t422 x21_2).f1) t427 _ A20.out).mono ?_
                 rintro e w45 ⟨rfl, hb⟩
                 have HS2_ := (hb.cell (World.block_lt_of_cell? _ _ (hHeld.2.2))).trans (hHeld.2.2)
                 refine ⟨_, rfl, ?_⟩
                 have n0_ := Aside0.mk (Kd.R_below (by (with_reducible repeat (first | apply Kd.R_alloc | apply Kd.R_drewN | apply Kd.R_drew)); exact HO_3.out) hb)
                 have n1_ := Aside0.mk (Kd.R_below (by (with_reducible repeat (first | apply Kd.R_alloc | apply Kd.R_drewN | apply Kd.R_drew)); exact HO_19.out) hb)
                 have n2_ := Aside0.mk (blk_below (g := gb426) (o := .cells #[.int .i64 ((rd_T58 t422 x21_2).f0), .int .i64 ((rd_T58 t422 x21_2).f1)] 58 (0, 0)) (by (with_reducible repeat (first | refine blk_drewN ?_ _ | refine blk_drew ?_ | refine blk_alloc ?_ _)); exact BK426.out) hb)
                 have n3_ := Aside0.mk (below_step (by repeat (first | (with_reducible first | exact HB.out | apply below_alloc | apply pw_below_drewN | apply below_drew1 | refine below_set ?_ GE426.out) | exact HB.out)) hb)
                 clear HO_3; clear HO_19; clear BK426; clear HB
                 have HO_3 := n0_
                 have HO_19 := n1_
                 have BK426 := n2_
                 have HB := n3_
                 clear n0_ n1_ n2_ n3_
                 (try clear hb)
                 (try clear hb2)
                 (try clear hk)
                 (try clear hi)
                 refine hK.out _ _ ⟨(blk_cell BK426.out 0).trans rfl, (blk_cell BK426.out 1).trans rfl, HS2_⟩ (fun hHeld => ?_); clear hK K
                 refine norm_ (a' := ?_) ?_ ?_; rotate_left
                 ·
                  show Act.put _ (some 26) _ = _
                  simp only [Act.put, sA, sB, sC, i64_w, i32_w]; rfl
                 refine pure_ (i := 3) (N := some 28) (v := ?_) (a' := ?_) impl_fewest.b4 rfl rfl (any_of HT_.out (by kernel_rfl)) (fun _ _ _ h => h) (Or.inl ⟨by rfl, ?_⟩) ?_ ?_; rotate_left
                 ·
                  intro w'; go_simp; with_reducible rfl
                 rotate_left
                 ·
                  simp only [Act.put, sA, sB, sC, i64_w, i32_w]; rfl
                 refine pure_ (i := 4) (N := some 29) (v := ?_) (a' := ?_) impl_fewest.b5 rfl rfl (any_of HT_.out (by kernel_rfl)) (fun _ _ _ h => h) (Or.inl ⟨by rfl, ?_⟩) ?_ ?_; rotate_left
                 ·
                  intro w'; go_simp; with_reducible rfl
                 rotate_left
                 ·
                  simp only [Act.put, sA, sB, sC, i64_w, i32_w]; rfl
                 refine pure_ (i := 5) (N := some 30) (v := ?_) (a' := ?_) impl_fewest.b6 rfl rfl (any_of HT_.out (by kernel_rfl)) (fun _ _ _ h => h) (Or.inl ⟨by rfl, ?_⟩) ?_ ?_; rotate_left
                 ·
                  intro w'; go_simp; with_reducible rfl
                 rotate_left
                 ·
                  simp only [Act.put, sA, sB, sC, i64_w, i32_w]; rfl
                 refine pure_ (i := 6) (N := some 31) (v := ?_) (a' := ?_) impl_fewest.b7 rfl rfl (any_of HT_.out (by kernel_rfl)) (fun _ _ _ h => h) (Or.inl ⟨by rfl, ?_⟩) ?_ ?_; rotate_left
                 ·
                  intro w'; go_simp; with_reducible rfl
                 rotate_left
                 ·
                  simp only [Act.put, sA, sB, sC, i64_w, i32_w]; rfl
                 refine take_ (i := 7) (N := some 32) (v := ?_) (a' := ?_) impl_fewest.b8 rfl rfl (take_ofW HT_.out HW_.out (by kernel_rfl)) (fun _ _ _ h => h) (Or.inl ⟨by rfl, ?_⟩) hHeld ?_ ?_; rotate_left
                 ·
                  rintro w' ⟨s0, s1, s2⟩; go_simp; with_reducible rfl
                 rotate_left
                 ·
                  simp only [Act.put, sA, sB, sC, i64_w, i32_w]; rfl
                 refine one_ (i := 8) (N := some 33) impl_fewest.b9 rfl rfl (one_of HT_.out (by kernel_rfl)) (by decide) (fun K hK => ?_)
                 refine goes_ Try.func58 (by kernel_rfl) rfl #[.agg #[.int .i64 ((rd_T58 t422 x21_2).f0), .int .i64 ((rd_T58 t422 x21_2).f1)]] (by rfl) rfl rfl (by (try simp only [List.map_toArray, List.map_cons, List.map_nil]); first | done | rfl | (simp only [List.length_drop, List.length_take]; rfl)) ?_
                 with_reducible refine (impl_Dart_score.calls ((rd_T58 t422 x21_2).f0) ((rd_T58 t422 x21_2).f1) t428 _ A22.out).mono ?_
                 rintro e w46 ⟨rfl, hb⟩
                 have HS2_ := (hb.cell (World.block_lt_of_cell? _ _ (hHeld.2.2))).trans (hHeld.2.2)
                 refine ⟨_, rfl, ?_⟩
                 have n0_ := Aside0.mk (Kd.R_below (by (with_reducible repeat (first | apply Kd.R_alloc | apply Kd.R_drewN | apply Kd.R_drew)); exact HO_3.out) hb)
                 have n1_ := Aside0.mk (Kd.R_below (by (with_reducible repeat (first | apply Kd.R_alloc | apply Kd.R_drewN | apply Kd.R_drew)); exact HO_19.out) hb)
                 have n2_ := Aside0.mk (blk_below (g := gb426) (o := .cells #[.int .i64 ((rd_T58 t422 x21_2).f0), .int .i64 ((rd_T58 t422 x21_2).f1)] 58 (0, 0)) (by (with_reducible repeat (first | refine blk_drewN ?_ _ | refine blk_drew ?_ | refine blk_alloc ?_ _)); exact BK426.out) hb)
                 have n3_ := Aside0.mk (below_step (by repeat (first | (with_reducible first | exact HB.out | apply below_alloc | apply pw_below_drewN | apply below_drew1 | refine below_set ?_ GE426.out) | exact HB.out)) hb)
                 clear HO_3; clear HO_19; clear BK426; clear HB
                 have HO_3 := n0_
                 have HO_19 := n1_
                 have BK426 := n2_
                 have HB := n3_
                 clear n0_ n1_ n2_ n3_
                 (try clear hb)
                 (try clear hb2)
                 (try clear hk)
                 (try clear hi)
                 refine hK.out _ _ ⟨(blk_cell BK426.out 0).trans rfl, (blk_cell BK426.out 1).trans rfl, HS2_⟩ (fun hHeld => ?_); clear hK K
                 refine norm_ (a' := ?_) ?_ ?_; rotate_left
                 ·
                  show Act.put _ (some 33) _ = _
                  simp only [Act.put, sA, sB, sC, i64_w, i32_w]; rfl
                 refine pure_ (i := 9) (N := some 34) (v := ?_) (a' := ?_) impl_fewest.b10 rfl rfl (any_of HT_.out (by kernel_rfl)) (fun _ _ _ h => h) (Or.inl ⟨by rfl, ?_⟩) ?_ ?_; rotate_left
                 ·
                  intro w'; go_simp; with_reducible rfl
                 rotate_left
                 ·
                  simp only [Act.put, sA, sB, sC, i64_w, i32_w]; rfl
                 refine pure_ (i := 10) (N := some 35) (v := ?_) (a' := ?_) impl_fewest.b11 rfl rfl (any_of HT_.out (by kernel_rfl)) (fun _ _ _ h => h) (Or.inl ⟨by rfl, ?_⟩) ?_ ?_; rotate_left
                 ·
                  intro w'; go_simp; with_reducible rfl
                 rotate_left
                 ·
                  simp only [Act.put, sA, sB, sC, i64_w, i32_w]; rfl
                 refine take_ (i := 11) (N := some 36) (v := ?_) (a' := ?_) impl_fewest.b12 rfl rfl (take_ofW HT_.out HW_.out (by kernel_rfl)) (fun _ _ _ h => h) (Or.inl ⟨by rfl, ?_⟩) hHeld ?_ ?_; rotate_left
                 ·
                  rintro w' ⟨s0, s1, s2⟩; go_simp; with_reducible rfl
                 rotate_left
                 ·
                  simp only [Act.put, sA, sB, sC, i64_w, i32_w]; rfl
                 refine pure_ (i := 12) (N := some 37) (v := ?_) (a' := ?_) impl_fewest.b13 rfl rfl (any_of HT_.out (by kernel_rfl)) (fun _ _ _ h => h) (Or.inl ⟨by rfl, ?_⟩) ?_ ?_; rotate_left
                 ·
                  intro w'; go_simp; with_reducible rfl
                 rotate_left
                 ·
                  simp only [Act.put, sA, sB, sC, i64_w, i32_w]; rfl
                 refine pure_ (i := 13) (N := some 38) (v := ?_) (a' := ?_) impl_fewest.b14 rfl rfl (any_of HT_.out (by kernel_rfl)) (fun _ _ _ h => h) (Or.inl ⟨by rfl, ?_⟩) ?_ ?_; rotate_left
                 ·
                  intro w'; go_simp; with_reducible rfl
                 rotate_left
                 ·
                  simp only [Act.put, sA, sB, sC, i64_w, i32_w]; rfl
                 refine pure_ (i := 14) (N := some 39) (v := ?_) (a' := ?_) impl_fewest.b15 rfl rfl (any_of HT_.out (by kernel_rfl)) (fun _ _ _ h => h) (Or.inl ⟨by rfl, ?_⟩) ?_ ?_; rotate_left
                 ·
                  intro w'; go_simp; with_reducible rfl
                 rotate_left
                 ·
                  simp only [Act.put, sA, sB, sC, i64_w, i32_w]; rfl
                 refine pure_ (i := 15) (N := some 40) (v := undef) (a' := ?_) impl_fewest.b16 rfl rfl (any_of HT_.out (by kernel_rfl)) (fun _ _ _ h => h) (Or.inr ⟨by rfl, rfl⟩) ?_ ?_; rotate_left
                 ·
                  simp only [Act.put, sA, sB, sC, i64_w, i32_w]; rfl
                 refine pure_ (i := 16) (N := some 41) (v := undef) (a' := ?_) impl_fewest.b17 rfl rfl (any_of HT_.out (by kernel_rfl)) (fun _ _ _ h => h) (Or.inr ⟨by rfl, rfl⟩) ?_ ?_; rotate_left
                 ·
                  simp only [Act.put, sA, sB, sC, i64_w, i32_w]; rfl
                 refine pure_ (i := 17) (N := some 42) (v := undef) (a' := ?_) impl_fewest.b18 rfl rfl (any_of HT_.out (by kernel_rfl)) (fun _ _ _ h => h) (Or.inr ⟨by rfl, rfl⟩) ?_ ?_; rotate_left
                 ·
                  simp only [Act.put, sA, sB, sC, i64_w, i32_w]; rfl
                 refine pure_ (i := 18) (N := some 43) (v := undef) (a' := ?_) impl_fewest.b19 rfl rfl (any_of HT_.out (by kernel_rfl)) (fun _ _ _ h => h) (Or.inr ⟨by rfl, rfl⟩) ?_ ?_; rotate_left
                 ·
                  simp only [Act.put, sA, sB, sC, i64_w, i32_w]; rfl
                 refine pure_ (i := 19) (N := some 44) (v := undef) (a' := ?_) impl_fewest.b20 rfl rfl (any_of HT_.out (by kernel_rfl)) (fun _ _ _ h => h) (Or.inr ⟨by rfl, rfl⟩) ?_ ?_; rotate_left
                 ·
                  simp only [Act.put, sA, sB, sC, i64_w, i32_w]; rfl
                 refine pure_ (i := 20) (N := some 45) (v := undef) (a' := ?_) impl_fewest.b21 rfl rfl (any_of HT_.out (by kernel_rfl)) (fun _ _ _ h => h) (Or.inr ⟨by rfl, rfl⟩) ?_ ?_; rotate_left
                 ·
                  simp only [Act.put, sA, sB, sC, i64_w, i32_w]; rfl
                 refine pure_ (i := 21) (N := some 46) (v := undef) (a' := ?_) impl_fewest.b22 rfl rfl (any_of HT_.out (by kernel_rfl)) (fun _ _ _ h => h) (Or.inr ⟨by rfl, rfl⟩) ?_ ?_; rotate_left
                 ·
                  simp only [Act.put, sA, sB, sC, i64_w, i32_w]; rfl
                 refine pure_ (i := 22) (N := some 47) (v := undef) (a' := ?_) impl_fewest.b23 rfl rfl (any_of HT_.out (by kernel_rfl)) (fun _ _ _ h => h) (Or.inr ⟨by rfl, rfl⟩) ?_ ?_; rotate_left
                 ·
                  simp only [Act.put, sA, sB, sC, i64_w, i32_w]; rfl
                 refine pure_ (i := 23) (N := some 48) (v := undef) (a' := ?_) impl_fewest.b24 rfl rfl (any_of HT_.out (by kernel_rfl)) (fun _ _ _ h => h) (Or.inr ⟨by rfl, rfl⟩) ?_ ?_; rotate_left
                 ·
                  simp only [Act.put, sA, sB, sC, i64_w, i32_w]; rfl
                 refine pure_ (i := 24) (N := some 49) (v := undef) (a' := ?_) impl_fewest.b25 rfl rfl (any_of HT_.out (by kernel_rfl)) (fun _ _ _ h => h) (Or.inr ⟨by rfl, rfl⟩) ?_ ?_; rotate_left
                 ·
                  simp only [Act.put, sA, sB, sC, i64_w, i32_w]; rfl
                 refine pure_ (i := 25) (N := some 50) (v := undef) (a' := ?_) impl_fewest.b26 rfl rfl (any_of HT_.out (by kernel_rfl)) (fun _ _ _ h => h) (Or.inr ⟨by rfl, rfl⟩) ?_ ?_; rotate_left
                 ·
                  simp only [Act.put, sA, sB, sC, i64_w, i32_w]; rfl
                 refine pure_ (i := 26) (N := some 51) (v := undef) (a' := ?_) impl_fewest.b27 rfl rfl (any_of HT_.out (by kernel_rfl)) (fun _ _ _ h => h) (Or.inr ⟨by rfl, rfl⟩) ?_ ?_; rotate_left
                 ·
                  simp only [Act.put, sA, sB, sC, i64_w, i32_w]; rfl
                 refine pure_ (i := 27) (N := some 52) (v := undef) (a' := ?_) impl_fewest.b28 rfl rfl (any_of HT_.out (by kernel_rfl)) (fun _ _ _ h => h) (Or.inr ⟨by rfl, rfl⟩) ?_ ?_; rotate_left
                 ·
                  simp only [Act.put, sA, sB, sC, i64_w, i32_w]; rfl
                 refine pure_ (i := 28) (N := some 53) (v := undef) (a' := ?_) impl_fewest.b29 rfl rfl (any_of HT_.out (by kernel_rfl)) (fun _ _ _ h => h) (Or.inr ⟨by rfl, rfl⟩) ?_ ?_; rotate_left
                 ·
                  simp only [Act.put, sA, sB, sC, i64_w, i32_w]; rfl
                 refine pure_ (i := 29) (N := some 54) (v := undef) (a' := ?_) impl_fewest.b30 rfl rfl (any_of HT_.out (by kernel_rfl)) (fun _ _ _ h => h) (Or.inr ⟨by rfl, rfl⟩) ?_ ?_; rotate_left
                 ·
                  simp only [Act.put, sA, sB, sC, i64_w, i32_w]; rfl
                 refine pure_ (i := 30) (N := some 55) (v := undef) (a' := ?_) impl_fewest.b31 rfl rfl (any_of HT_.out (by kernel_rfl)) (fun _ _ _ h => h) (Or.inr ⟨by rfl, rfl⟩) ?_ ?_; rotate_left
                 ·
                  simp only [Act.put, sA, sB, sC, i64_w, i32_w]; rfl
                 refine pure_ (i := 31) (N := some 56) (v := undef) (a' := ?_) impl_fewest.b32 rfl rfl (any_of HT_.out (by kernel_rfl)) (fun _ _ _ h => h) (Or.inr ⟨by rfl, rfl⟩) ?_ ?_; rotate_left
                 ·
                  simp only [Act.put, sA, sB, sC, i64_w, i32_w]; rfl
                 refine pure_ (i := 32) (N := some 57) (v := undef) (a' := ?_) impl_fewest.b33 rfl rfl (any_of HT_.out (by kernel_rfl)) (fun _ _ _ h => h) (Or.inr ⟨by rfl, rfl⟩) ?_ ?_; rotate_left
                 ·
                  simp only [Act.put, sA, sB, sC, i64_w, i32_w]; rfl
                 refine pure_ (i := 33) (N := some 58) (v := undef) (a' := ?_) impl_fewest.b34 rfl rfl (any_of HT_.out (by kernel_rfl)) (fun _ _ _ h => h) (Or.inr ⟨by rfl, rfl⟩) ?_ ?_; rotate_left
                 ·
                  simp only [Act.put, sA, sB, sC, i64_w, i32_w]; rfl
                 refine pure_ (i := 34) (N := some 59) (v := undef) (a' := ?_) impl_fewest.b35 rfl rfl (any_of HT_.out (by kernel_rfl)) (fun _ _ _ h => h) (Or.inr ⟨by rfl, rfl⟩) ?_ ?_; rotate_left
                 ·
                  simp only [Act.put, sA, sB, sC, i64_w, i32_w]; rfl
                 refine pure_ (i := 35) (N := some 60) (v := ?_) (a' := ?_) impl_fewest.b36 rfl rfl (any_of HT_.out (by kernel_rfl)) (fun _ _ _ h => h) (Or.inl ⟨by rfl, ?_⟩) ?_ ?_; rotate_left
                 ·
                  intro w'; go_simp; with_reducible rfl
                 rotate_left
                 ·
                  simp only [Act.put, sA, sB, sC, i64_w, i32_w]; rfl
                 refine done_ (done_of HT_.out (by kernel_rfl)) ?_
                 try go_wp2
                 go_meet
                 case rel => exact ⟨_, (false), (by first | rfl | (simp; done) | (simp [*]; done)), H', ⟨by have := HK1.out; have := HK2.out; first | omega | exact Nat.le_refl _⟩, ⟨by (try simp only [hl3_2]); (with_reducible repeat (first | apply Kd.R_alloc | apply Kd.R_drewN | apply Kd.R_drew)); exact HO_3.out⟩, ⟨by (try simp only [hl3_2]); (with_reducible repeat (first | apply Kd.R_alloc | apply Kd.R_drewN | apply Kd.R_drew)); exact HO_19.out⟩, ⟨by (try simp only [hl3_2]); (with_reducible repeat (first | refine blk_drewN ?_ _ | refine blk_drew ?_ | refine blk_alloc ?_ _)); exact BK426.out⟩, ⟨by repeat (first | (with_reducible first | exact HB.out | apply below_alloc | apply pw_below_drewN | apply below_drew1 | refine below_set ?_ GE426.out) | exact HB.out)⟩⟩
               ·
                rw [if_neg c25] at H
                exact absurd H (by simp)
              ·
               rw [if_neg c24] at H
               exact absurd H (by simp)
             ·
              rw [if_neg c21] at H
              have c21b0 : decide (t427 ≤ x4_1) = false := decide_eq_false c21
              clear c21
              (first | rw [c21b0] | (simp only [i64_w, i32_w]; rw [c21b0]) | skip)
              have H' := Aside0.mk H
              clear H
              try go_wp2
              have n0_ : Aside0 (Kd.R (Kd.int .i64) 3 ((w18.setCell ⟨gb426, 0, none⟩ (.int .i64 ((rd_T58 t422 x21_2).f0))).setCell ⟨gb426, 1, none⟩ (.int .i64 ((rd_T58 t422 x21_2).f1))) w.heap.size (fun _ => True) (.slice (some ⟨go8, 0, none⟩) x3_2.length co8) x3_2) := ⟨by (with_reducible repeat (first | apply Kd.R_alloc | apply Kd.R_drewN | apply Kd.R_drew)); exact Kd.R_mono (Kd.R_far (p := ⟨gb426, 1, none⟩) (Kd.R_far (p := ⟨gb426, 0, none⟩) (Kd.R_types HO_3.out BK426.out (by decide)) (fun _ hk => hk.2) (.int .i64 ((rd_T58 t422 x21_2).f0))) (fun _ hk => hk.2) (.int .i64 ((rd_T58 t422 x21_2).f1))) (fun _ hk => trivial)⟩
              have n1_ : Aside0 (Kd.R k58 58 ((w18.setCell ⟨gb426, 0, none⟩ (.int .i64 ((rd_T58 t422 x21_2).f0))).setCell ⟨gb426, 1, none⟩ (.int .i64 ((rd_T58 t422 x21_2).f1))) w.heap.size (fun k_ => k_ ≠ gb426) (.slice (some ad425) t422.length co13) t422) := ⟨by (with_reducible repeat (first | apply Kd.R_alloc | apply Kd.R_drewN | apply Kd.R_drew)); exact Kd.R_mono (Kd.R_far (p := ⟨gb426, 1, none⟩) (Kd.R_far (p := ⟨gb426, 0, none⟩) (Kd.R_mono HO_19.out (fun k_ hk => (⟨hk, hk.2⟩ : _ ∧ k_ ≠ gb426))) (fun _ hk => hk.2) (.int .i64 ((rd_T58 t422 x21_2).f0))) (fun _ hk => hk.2) (.int .i64 ((rd_T58 t422 x21_2).f1))) (fun _ hk => hk.1.2)⟩
              have n2_ : Aside0 (((w18.setCell ⟨gb426, 0, none⟩ (.int .i64 ((rd_T58 t422 x21_2).f0))).setCell ⟨gb426, 1, none⟩ (.int .i64 ((rd_T58 t422 x21_2).f1))).heap[gb426]? = some (.cells #[.int .i64 ((rd_T58 t422 x21_2).f0), .int .i64 ((rd_T58 t422 x21_2).f1)] 58 (0, 0))) := ⟨by (with_reducible repeat (first | refine blk_drewN ?_ _ | refine blk_drew ?_ | refine blk_alloc ?_ _)); refine blk_put (cs := #[.int .i64 ((rd_T58 t422 x21_2).f0), .int .i64 0]) ?_ 1 _ rfl; (with_reducible repeat (first | refine blk_drewN ?_ _ | refine blk_drew ?_ | refine blk_alloc ?_ _)); refine blk_put (cs := #[.int .i64 0, .int .i64 0]) ?_ 0 _ rfl; (with_reducible repeat (first | refine blk_drewN ?_ _ | refine blk_drew ?_ | refine blk_alloc ?_ _)); exact BK426.out⟩
              have n3_ : Aside0 (Below w.heap.size w ((w18.setCell ⟨gb426, 0, none⟩ (.int .i64 ((rd_T58 t422 x21_2).f0))).setCell ⟨gb426, 1, none⟩ (.int .i64 ((rd_T58 t422 x21_2).f1)))) := ⟨by repeat (first | (with_reducible first | exact HB.out | apply below_alloc | apply pw_below_drewN | apply below_drew1 | refine below_set ?_ GE426.out) | exact HB.out)⟩
              (try clear HO_3)
              (try clear HO_19)
              (try clear BK426)
              (try clear HB)
              generalize ((w18.setCell ⟨gb426, 0, none⟩ (.int .i64 ((rd_T58 t422 x21_2).f0))).setCell ⟨gb426, 1, none⟩ (.int .i64 ((rd_T58 t422 x21_2).f1))) = w47 at n0_ n1_ n2_ n3_ ⊢
              have HO_3 := n0_
              have HO_19 := n1_
              have BK426 := n2_
              have HB := n3_
              clear n0_ n1_ n2_ n3_
              have n0_ := Aside0.mk (Kd.R_drew HO_3.out)
              have n1_ := Aside0.mk (Kd.R_drew HO_19.out)
              have n2_ := Aside0.mk (blk_drew BK426.out)
              have n3_ := Aside0.mk (below_drew1 HB.out)
              clear HO_3; clear HO_19; clear BK426; clear HB
              have HO_3 := n0_
              have HO_19 := n1_
              have BK426 := n2_
              have HB := n3_
              clear n0_ n1_ n2_ n3_
              refine start_ (n := 36) (S := fun w' => w'.cell? ⟨gb426, 0, none⟩ = some (.int .i64 ((rd_T58 t422 x21_2).f0)) ∧ w'.cell? ⟨gb426, 1, none⟩ = some (.int .i64 ((rd_T58 t422 x21_2).f1))) (ds := []) impl_fewest.b0 (by kernel_rfl) rfl rfl ⟨(blk_cell BK426.out 0).trans rfl, (blk_cell BK426.out 1).trans rfl⟩ (fun hHeld => ?_); refine with_tabW impl_fewest.tab9 impl_fewest.bits9 (fun HT_ HW_ => ?_)
              generalize w47.drew = w48 at HO_3 HO_19 BK426 HB hHeld ⊢
              refine pure_ (i := 2) (N := some 27) (v := ?_) (a' := ?_) impl_fewest.b1 rfl rfl (any_of HT_.out (by kernel_rfl)) (fun _ _ _ h => h) (Or.inl ⟨by rfl, ?_⟩) ?_ ?_; rotate_left
              ·
               intro w'; go_simp; with_reducible rfl
              rotate_left
              ·
               simp only [Act.put, sA, sB, sC, i64_w, i32_w]; rfl
              refine take_ (i := 0) (N := some 25) (v := ?_) (a' := ?_) impl_fewest.b2 rfl rfl (take_ofW HT_.out HW_.out (by kernel_rfl)) (fun _ _ _ h => h) (Or.inl ⟨by rfl, ?_⟩) hHeld ?_ ?_; rotate_left
              ·
               rintro w' ⟨s0, s1⟩; go_simp; with_reducible rfl
              rotate_left
              ·
               simp only [Act.put, sA, sB, sC, i64_w, i32_w]; rfl
              refine one_ (i := 1) (N := some 26) impl_fewest.b3 rfl rfl (one_of HT_.out (by kernel_rfl)) (by decide) (fun K hK => ?_)
              refine goes_ Try.func58 (by kernel_rfl) rfl #[.agg #[.int .i64 ((rd_T58 t422 x21_2).f0), .int .i64 ((rd_T58 t422 x21_2).f1)]] (by rfl) rfl rfl (by (try simp only [List.map_toArray, List.map_cons, List.map_nil]); first | done | rfl | (simp only [List.length_drop, List.length_take]; rfl)) ?_
              with_reducible refine (impl_Dart_score.calls ((rd_T58 t422 x21_2).f0) ((rd_T58 t422 x21_2).f1) t427 _ A20.out).mono ?_
              rintro e w49 ⟨rfl, hb⟩
              refine ⟨_, rfl, ?_⟩
              have n0_ := Aside0.mk (Kd.R_below (by (with_reducible repeat (first | apply Kd.R_alloc | apply Kd.R_drewN | apply Kd.R_drew)); exact HO_3.out) hb)
              have n1_ := Aside0.mk (Kd.R_below (by (with_reducible repeat (first | apply Kd.R_alloc | apply Kd.R_drewN | apply Kd.R_drew)); exact HO_19.out) hb)
              have n2_ := Aside0.mk (blk_below (g := gb426) (o := .cells #[.int .i64 ((rd_T58 t422 x21_2).f0), .int .i64 ((rd_T58 t422 x21_2).f1)] 58 (0, 0)) (by (with_reducible repeat (first | refine blk_drewN ?_ _ | refine blk_drew ?_ | refine blk_alloc ?_ _)); exact BK426.out) hb)
              have n3_ := Aside0.mk (below_step (by repeat (first | (with_reducible first | exact HB.out | apply below_alloc | apply pw_below_drewN | apply below_drew1 | refine below_set ?_ GE426.out) | exact HB.out)) hb)
              clear HO_3; clear HO_19; clear BK426; clear HB
              have HO_3 := n0_
              have HO_19 := n1_
              have BK426 := n2_
              have HB := n3_
              clear n0_ n1_ n2_ n3_
              (try clear hb)
              (try clear hb2)
              (try clear hk)
              (try clear hi)
              refine hK.out _ _ ⟨(blk_cell BK426.out 0).trans rfl, (blk_cell BK426.out 1).trans rfl⟩ (fun hHeld => ?_); clear hK K
              refine norm_ (a' := ?_) ?_ ?_; rotate_left
              ·
               show Act.put _ (some 26) _ = _
               simp only [Act.put, sA, sB, sC, i64_w, i32_w]; rfl
              refine pure_ (i := 3) (N := some 28) (v := ?_) (a' := ?_) impl_fewest.b4 rfl rfl (any_of HT_.out (by kernel_rfl)) (fun _ _ _ h => h) (Or.inl ⟨by rfl, ?_⟩) ?_ ?_; rotate_left
              ·
               intro w'; go_simp; with_reducible rfl
              rotate_left
              ·
               simp only [Act.put, sA, sB, sC, i64_w, i32_w]; rfl
              refine pure_ (i := 4) (N := some 29) (v := ?_) (a' := ?_) impl_fewest.b5 rfl rfl (any_of HT_.out (by kernel_rfl)) (fun _ _ _ h => h) (Or.inl ⟨by rfl, ?_⟩) ?_ ?_; rotate_left
              ·
               intro w'; go_simp; with_reducible rfl
              rotate_left
              ·
               simp only [Act.put, sA, sB, sC, i64_w, i32_w]; rfl
              refine pure_ (i := 5) (N := some 30) (v := undef) (a' := ?_) impl_fewest.b6 rfl rfl (any_of HT_.out (by kernel_rfl)) (fun _ _ _ h => h) (Or.inr ⟨by rfl, rfl⟩) ?_ ?_; rotate_left
              ·
               simp only [Act.put, sA, sB, sC, i64_w, i32_w]; rfl
              refine pure_ (i := 6) (N := some 31) (v := undef) (a' := ?_) impl_fewest.b7 rfl rfl (any_of HT_.out (by kernel_rfl)) (fun _ _ _ h => h) (Or.inr ⟨by rfl, rfl⟩) ?_ ?_; rotate_left
              ·
               simp only [Act.put, sA, sB, sC, i64_w, i32_w]; rfl
              refine pure_ (i := 7) (N := some 32) (v := undef) (a' := ?_) impl_fewest.b8 rfl rfl (any_of HT_.out (by kernel_rfl)) (fun _ _ _ h => h) (Or.inr ⟨by rfl, rfl⟩) ?_ ?_; rotate_left
              ·
               simp only [Act.put, sA, sB, sC, i64_w, i32_w]; rfl
              refine pure_ (i := 8) (N := some 33) (v := undef) (a' := ?_) impl_fewest.b9 rfl rfl (any_of HT_.out (by kernel_rfl)) (fun _ _ _ h => h) (Or.inr ⟨by rfl, rfl⟩) ?_ ?_; rotate_left
              ·
               simp only [Act.put, sA, sB, sC, i64_w, i32_w]; rfl
              refine pure_ (i := 9) (N := some 34) (v := undef) (a' := ?_) impl_fewest.b10 rfl rfl (any_of HT_.out (by kernel_rfl)) (fun _ _ _ h => h) (Or.inr ⟨by rfl, rfl⟩) ?_ ?_; rotate_left
              ·
               simp only [Act.put, sA, sB, sC, i64_w, i32_w]; rfl
              refine pure_ (i := 10) (N := some 35) (v := undef) (a' := ?_) impl_fewest.b11 rfl rfl (any_of HT_.out (by kernel_rfl)) (fun _ _ _ h => h) (Or.inr ⟨by rfl, rfl⟩) ?_ ?_; rotate_left
              ·
               simp only [Act.put, sA, sB, sC, i64_w, i32_w]; rfl
              refine pure_ (i := 11) (N := some 36) (v := undef) (a' := ?_) impl_fewest.b12 rfl rfl (any_of HT_.out (by kernel_rfl)) (fun _ _ _ h => h) (Or.inr ⟨by rfl, rfl⟩) ?_ ?_; rotate_left
              ·
               simp only [Act.put, sA, sB, sC, i64_w, i32_w]; rfl
              refine pure_ (i := 12) (N := some 37) (v := undef) (a' := ?_) impl_fewest.b13 rfl rfl (any_of HT_.out (by kernel_rfl)) (fun _ _ _ h => h) (Or.inr ⟨by rfl, rfl⟩) ?_ ?_; rotate_left
              ·
               simp only [Act.put, sA, sB, sC, i64_w, i32_w]; rfl
              refine pure_ (i := 13) (N := some 38) (v := ?_) (a' := ?_) impl_fewest.b14 rfl rfl (any_of HT_.out (by kernel_rfl)) (fun _ _ _ h => h) (Or.inl ⟨by rfl, ?_⟩) ?_ ?_; rotate_left
              ·
               intro w'; go_simp; with_reducible rfl
              rotate_left
              ·
               simp only [Act.put, sA, sB, sC, i64_w, i32_w]; rfl
              refine pure_ (i := 14) (N := some 39) (v := ?_) (a' := ?_) impl_fewest.b15 rfl rfl (any_of HT_.out (by kernel_rfl)) (fun _ _ _ h => h) (Or.inl ⟨by rfl, ?_⟩) ?_ ?_; rotate_left
              ·
               intro w'; go_simp; with_reducible rfl
              rotate_left
              ·
               simp only [Act.put, sA, sB, sC, i64_w, i32_w]; rfl
              refine pure_ (i := 15) (N := some 40) (v := undef) (a' := ?_) impl_fewest.b16 rfl rfl (any_of HT_.out (by kernel_rfl)) (fun _ _ _ h => h) (Or.inr ⟨by rfl, rfl⟩) ?_ ?_; rotate_left
              ·
               simp only [Act.put, sA, sB, sC, i64_w, i32_w]; rfl
              refine pure_ (i := 16) (N := some 41) (v := undef) (a' := ?_) impl_fewest.b17 rfl rfl (any_of HT_.out (by kernel_rfl)) (fun _ _ _ h => h) (Or.inr ⟨by rfl, rfl⟩) ?_ ?_; rotate_left
              ·
               simp only [Act.put, sA, sB, sC, i64_w, i32_w]; rfl
              refine pure_ (i := 17) (N := some 42) (v := undef) (a' := ?_) impl_fewest.b18 rfl rfl (any_of HT_.out (by kernel_rfl)) (fun _ _ _ h => h) (Or.inr ⟨by rfl, rfl⟩) ?_ ?_; rotate_left
              ·
               simp only [Act.put, sA, sB, sC, i64_w, i32_w]; rfl
              refine pure_ (i := 18) (N := some 43) (v := undef) (a' := ?_) impl_fewest.b19 rfl rfl (any_of HT_.out (by kernel_rfl)) (fun _ _ _ h => h) (Or.inr ⟨by rfl, rfl⟩) ?_ ?_; rotate_left
              ·
               simp only [Act.put, sA, sB, sC, i64_w, i32_w]; rfl
              refine pure_ (i := 19) (N := some 44) (v := undef) (a' := ?_) impl_fewest.b20 rfl rfl (any_of HT_.out (by kernel_rfl)) (fun _ _ _ h => h) (Or.inr ⟨by rfl, rfl⟩) ?_ ?_; rotate_left
              ·
               simp only [Act.put, sA, sB, sC, i64_w, i32_w]; rfl
              refine pure_ (i := 20) (N := some 45) (v := undef) (a' := ?_) impl_fewest.b21 rfl rfl (any_of HT_.out (by kernel_rfl)) (fun _ _ _ h => h) (Or.inr ⟨by rfl, rfl⟩) ?_ ?_; rotate_left
              ·
               simp only [Act.put, sA, sB, sC, i64_w, i32_w]; rfl
              refine pure_ (i := 21) (N := some 46) (v := undef) (a' := ?_) impl_fewest.b22 rfl rfl (any_of HT_.out (by kernel_rfl)) (fun _ _ _ h => h) (Or.inr ⟨by rfl, rfl⟩) ?_ ?_; rotate_left
              ·
               simp only [Act.put, sA, sB, sC, i64_w, i32_w]; rfl
              refine pure_ (i := 22) (N := some 47) (v := undef) (a' := ?_) impl_fewest.b23 rfl rfl (any_of HT_.out (by kernel_rfl)) (fun _ _ _ h => h) (Or.inr ⟨by rfl, rfl⟩) ?_ ?_; rotate_left
              ·
               simp only [Act.put, sA, sB, sC, i64_w, i32_w]; rfl
              refine pure_ (i := 23) (N := some 48) (v := undef) (a' := ?_) impl_fewest.b24 rfl rfl (any_of HT_.out (by kernel_rfl)) (fun _ _ _ h => h) (Or.inr ⟨by rfl, rfl⟩) ?_ ?_; rotate_left
              ·
               simp only [Act.put, sA, sB, sC, i64_w, i32_w]; rfl
              refine pure_ (i := 24) (N := some 49) (v := undef) (a' := ?_) impl_fewest.b25 rfl rfl (any_of HT_.out (by kernel_rfl)) (fun _ _ _ h => h) (Or.inr ⟨by rfl, rfl⟩) ?_ ?_; rotate_left
              ·
               simp only [Act.put, sA, sB, sC, i64_w, i32_w]; rfl
              refine pure_ (i := 25) (N := some 50) (v := undef) (a' := ?_) impl_fewest.b26 rfl rfl (any_of HT_.out (by kernel_rfl)) (fun _ _ _ h => h) (Or.inr ⟨by rfl, rfl⟩) ?_ ?_; rotate_left
              ·
               simp only [Act.put, sA, sB, sC, i64_w, i32_w]; rfl
              refine pure_ (i := 26) (N := some 51) (v := undef) (a' := ?_) impl_fewest.b27 rfl rfl (any_of HT_.out (by kernel_rfl)) (fun _ _ _ h => h) (Or.inr ⟨by rfl, rfl⟩) ?_ ?_; rotate_left
              ·
               simp only [Act.put, sA, sB, sC, i64_w, i32_w]; rfl
              refine pure_ (i := 27) (N := some 52) (v := undef) (a' := ?_) impl_fewest.b28 rfl rfl (any_of HT_.out (by kernel_rfl)) (fun _ _ _ h => h) (Or.inr ⟨by rfl, rfl⟩) ?_ ?_; rotate_left
              ·
               simp only [Act.put, sA, sB, sC, i64_w, i32_w]; rfl
              refine pure_ (i := 28) (N := some 53) (v := undef) (a' := ?_) impl_fewest.b29 rfl rfl (any_of HT_.out (by kernel_rfl)) (fun _ _ _ h => h) (Or.inr ⟨by rfl, rfl⟩) ?_ ?_; rotate_left
              ·
               simp only [Act.put, sA, sB, sC, i64_w, i32_w]; rfl
              refine pure_ (i := 29) (N := some 54) (v := undef) (a' := ?_) impl_fewest.b30 rfl rfl (any_of HT_.out (by kernel_rfl)) (fun _ _ _ h => h) (Or.inr ⟨by rfl, rfl⟩) ?_ ?_; rotate_left
              ·
               simp only [Act.put, sA, sB, sC, i64_w, i32_w]; rfl
              refine pure_ (i := 30) (N := some 55) (v := undef) (a' := ?_) impl_fewest.b31 rfl rfl (any_of HT_.out (by kernel_rfl)) (fun _ _ _ h => h) (Or.inr ⟨by rfl, rfl⟩) ?_ ?_; rotate_left
              ·
               simp only [Act.put, sA, sB, sC, i64_w, i32_w]; rfl
              refine pure_ (i := 31) (N := some 56) (v := undef) (a' := ?_) impl_fewest.b32 rfl rfl (any_of HT_.out (by kernel_rfl)) (fun _ _ _ h => h) (Or.inr ⟨by rfl, rfl⟩) ?_ ?_; rotate_left
              ·
               simp only [Act.put, sA, sB, sC, i64_w, i32_w]; rfl
              refine pure_ (i := 32) (N := some 57) (v := undef) (a' := ?_) impl_fewest.b33 rfl rfl (any_of HT_.out (by kernel_rfl)) (fun _ _ _ h => h) (Or.inr ⟨by rfl, rfl⟩) ?_ ?_; rotate_left
              ·
               simp only [Act.put, sA, sB, sC, i64_w, i32_w]; rfl
              refine pure_ (i := 33) (N := some 58) (v := undef) (a' := ?_) impl_fewest.b34 rfl rfl (any_of HT_.out (by kernel_rfl)) (fun _ _ _ h => h) (Or.inr ⟨by rfl, rfl⟩) ?_ ?_; rotate_left
              ·
               simp only [Act.put, sA, sB, sC, i64_w, i32_w]; rfl
              refine pure_ (i := 34) (N := some 59) (v := undef) (a' := ?_) impl_fewest.b35 rfl rfl (any_of HT_.out (by kernel_rfl)) (fun _ _ _ h => h) (Or.inr ⟨by rfl, rfl⟩) ?_ ?_; rotate_left
              ·
               simp only [Act.put, sA, sB, sC, i64_w, i32_w]; rfl
              refine pure_ (i := 35) (N := some 60) (v := ?_) (a' := ?_) impl_fewest.b36 rfl rfl (any_of HT_.out (by kernel_rfl)) (fun _ _ _ h => h) (Or.inl ⟨by rfl, ?_⟩) ?_ ?_; rotate_left
              ·
               intro w'; go_simp; with_reducible rfl
              rotate_left
              ·
               simp only [Act.put, sA, sB, sC, i64_w, i32_w]; rfl
              refine done_ (done_of HT_.out (by kernel_rfl)) ?_
              try go_wp2
              go_meet
              case rel => exact ⟨_, (false), (by first | rfl | (simp; done) | (simp [*]; done)), H', ⟨by have := HK1.out; have := HK2.out; first | omega | exact Nat.le_refl _⟩, ⟨by (try simp only [hl3_2]); (with_reducible repeat (first | apply Kd.R_alloc | apply Kd.R_drewN | apply Kd.R_drew)); exact HO_3.out⟩, ⟨by (try simp only [hl3_2]); (with_reducible repeat (first | apply Kd.R_alloc | apply Kd.R_drewN | apply Kd.R_drew)); exact HO_19.out⟩, ⟨by (try simp only [hl3_2]); (with_reducible repeat (first | refine blk_drewN ?_ _ | refine blk_drew ?_ | refine blk_alloc ?_ _)); exact BK426.out⟩, ⟨by repeat (first | (with_reducible first | exact HB.out | apply below_alloc | apply pw_below_drewN | apply below_drew1 | refine below_set ?_ GE426.out) | exact HB.out)⟩⟩
            case rest =>
             clear HC17
             try clear c2
             try clear p2
             try clear c3
             try clear p4
             try clear q4
             try clear hx4
             try clear c5
             try clear p6
             try clear c21
             try clear c21b0
             try clear c24
             try clear c25
             try clear c26
             try clear c26b0
             try clear c27
             try clear c28
             try clear c36
             try clear c37
             try clear p42
             try clear q42
             try clear hx42
             try clear hx429_0
             try clear p429
             try clear q429
             obtain ⟨kq, x60_16, rfl, HA, HJ16, HO_3, HO_19, BK426, HB⟩ := hcut
             cases kq with
             | zero => exact absurd HA.out (by simp [impl_fewest.j2])
             | succ kj16 =>
              have H := HA.out
              clear HA
              simp only [impl_fewest.j2] at H
              by_cases c50 : x60_16 = true
              ·
               subst c50
               have H1 : ((impl_Dart_score.f ((rd_T58 t422 x21_2).f0) ((rd_T58 t422 x21_2).f1)).bind fun t434 => (if 0 ≤ (wrap64 (x4_1 - t434)) then (if (wrap64 (x4_1 - t434)) < (x3_2.length : Int) then (if 0 ≤ x4_1 then (if x4_1 < (x3_2.length : Int) then (impl_fewest.l1 kj16 a0 (x3_2.set (x4_1 : Int).toNat (wrap64 ((rd x3_2 (wrap64 (x4_1 - t434))) + 1))) x4_1 t422 (t422.length : Int) (wrap64 (x21_2 + 1))) else (none)) else (none)) else (none)) else (none))) = some r := by rw [if_pos rfl] at H; exact H
               clear H
               have H := H1
               clear H1
               replace H := Option.bind_eq_some_iff.mp H
               obtain ⟨t434, A510, H⟩ := H
               replace H : (if 0 ≤ (wrap64 (x4_1 - t434)) then (if (wrap64 (x4_1 - t434)) < (x3_2.length : Int) then (if 0 ≤ x4_1 then (if x4_1 < (x3_2.length : Int) then (impl_fewest.l1 kj16 a0 (x3_2.set (x4_1 : Int).toNat (wrap64 ((rd x3_2 (wrap64 (x4_1 - t434))) + 1))) x4_1 t422 (t422.length : Int) (wrap64 (x21_2 + 1))) else (none)) else (none)) else (none)) else (none)) = some r := H
               have A51 := Aside0.mk A510
               clear A510
               obtain ⟨ji52, hji52⟩ : ∃ j_ : Int, (wrap64 (x4_1 - t434)) = j_ := ⟨_, rfl⟩
               replace H : (if 0 ≤ (ji52) then (if (ji52) < (x3_2.length : Int) then (if 0 ≤ x4_1 then (if x4_1 < (x3_2.length : Int) then (impl_fewest.l1 kj16 a0 (x3_2.set (x4_1 : Int).toNat (wrap64 ((rd x3_2 (ji52)) + 1))) x4_1 t422 (t422.length : Int) (wrap64 (x21_2 + 1))) else (none)) else (none)) else (none)) else (none)) = some r := by first | (rw [hji52] at H; exact H) | (simp only [hji52] at H ⊢; exact H)
               (try rw [hji52] at A51)
               have hji52w : (IntKind.i64.wrap (x4_1 - t434)) = ji52 := (i64_w _).trans hji52
               by_cases c53 : 0 ≤ (ji52)
               ·
                rw [if_pos c53] at H
                have c53b0 : decide (0 ≤ (ji52)) = true := decide_eq_true c53
                clear c53
                by_cases c54 : (ji52) < (x3_2.length : Int)
                ·
                 rw [if_pos c54] at H
                 have c54b0 : decide ((ji52) < (x3_2.length : Int)) = true := decide_eq_true c54
                 clear c54
                 by_cases c55 : 0 ≤ x4_1
                 ·
                  rw [if_pos c55] at H
                  have c55b0 : decide (0 ≤ x4_1) = true := decide_eq_true c55
                  clear c55
                  by_cases c56 : x4_1 < (x3_2.length : Int)
                  ·
                   rw [if_pos c56] at H
                   have c56b0 : decide (x4_1 < (x3_2.length : Int)) = true := decide_eq_true c56
                   clear c56
                   obtain ⟨y436, hy436⟩ : ∃ y_ : List Int, y_ = (x3_2.set (x4_1 : Int).toNat (wrap64 ((rd x3_2 (ji52)) + 1))) := ⟨_, rfl⟩
                   replace H : (impl_fewest.l1 kj16 a0 y436 x4_1 t422 (t422.length : Int) (wrap64 (x21_2 + 1))) = some r := by first | (rw [hy436]; with_reducible exact H) | (have H2_ := (Option.bind_some _ _).symm.trans H; rw [hy436]; with_reducible exact H2_) | (have H2_ := (Option.bind_some _ _).symm.trans H; with_reducible exact H2_) | with_reducible exact H | (rw [hy436]; exact H) | exact H
                   have Ny436 := Aside0.mk hy436
                   clear hy436
                   have H' := Aside0.mk H
                   clear H
                   have hcz58_0 : wc.cell? ⟨gb426, 0, none⟩ = some (.int .i64 ((rd_T58 t422 x21_2).f0)) := (blk_cell BK426.out 0).trans rfl
                   have hcz58_1 : wc.cell? ⟨gb426, 1, none⟩ = some (.int .i64 ((rd_T58 t422 x21_2).f1)) := (blk_cell BK426.out 1).trans rfl
                   have hfz58_0 := blk_frozen BK426.out 0
                   have hfz58_1 := blk_frozen BK426.out 1
                   go_wp2_with (first | ((with_reducible refine gate_callee (f := 58) rfl ?_); refine goesL_ (some 66) rfl rfl Try.func58 (by kernel_rfl) rfl #[.agg #[.int .i64 ((rd_T58 t422 x21_2).f0), .int .i64 ((rd_T58 t422 x21_2).f1)]] rfl (by (try simp only [List.map_toArray, List.map_cons, List.map_nil]); first | done | rfl | (simp only [List.length_drop, List.length_take]; rfl)) ?_; (with_reducible refine (impl_Dart_score.calls ((rd_T58 t422 x21_2).f0) ((rd_T58 t422 x21_2).f1) t434 _ A51.out).mono ?_); rintro e w59 ⟨rfl, hb⟩; refine ⟨_, rfl, ?_⟩; have n0_ := Aside0.mk (Kd.R_below (by (with_reducible repeat (first | apply Kd.R_alloc | apply Kd.R_drewN | apply Kd.R_drew)); exact HO_3.out) hb); have n1_ := Aside0.mk (Kd.R_below (by (with_reducible repeat (first | apply Kd.R_alloc | apply Kd.R_drewN | apply Kd.R_drew)); exact HO_19.out) hb); have n2_ := Aside0.mk (blk_below (g := gb426) (o := .cells #[.int .i64 ((rd_T58 t422 x21_2).f0), .int .i64 ((rd_T58 t422 x21_2).f1)] 58 (0, 0)) (by (with_reducible repeat (first | refine blk_drewN ?_ _ | refine blk_drew ?_ | refine blk_alloc ?_ _)); exact BK426.out) hb); have n3_ := Aside0.mk (below_step (by repeat (first | (with_reducible first | exact HB.out | apply below_alloc | apply pw_below_drewN | apply below_drew1 | refine below_set ?_ GE426.out) | exact HB.out)) hb); clear HO_3; clear HO_19; clear BK426; clear HB; have HO_3 := n0_; have HO_19 := n1_; have BK426 := n2_; have HB := n3_; clear n0_ n1_ n2_ n3_; (try clear hb); (try clear hb2); (try clear hk); (try clear hi); have p435 : 0 ≤ ((ji52) : Int) := of_decide_eq_true (by first | (with_reducible assumption) | assumption); have q435 : (ji52) < (x3_2.length : Int) := of_decide_eq_true (by first | (with_reducible assumption) | assumption); obtain ⟨ad435, e435, hx435_0⟩ := Kd.at_int (Kd.R_reads' HO_3.out).2.2 (ji52) p435 q435; obtain rfl : (⟨go8, 0, none⟩ : Addr) = ad435 := (by injection e435); (first | simp only [add_plain] at hx435_0 | simp only [add_at] at hx435_0 | simp only [Addr.add, Nat.zero_add] at hx435_0 | skip); replace p435 := eq_true p435; replace q435 := eq_true q435; have p57 : 0 ≤ (x4_1 : Int) := of_decide_eq_true (by first | (with_reducible assumption) | assumption); have q57 : (x4_1 : Int) < ((x3_2.length : Int) : Int) := of_decide_eq_true (by first | (with_reducible assumption) | assumption); obtain ⟨hx57_0, hf57_0⟩ := Kd.R_celln 0 HO_3.out (x4_1 : Int) p57 q57; replace p57 := eq_true p57; replace q57 := eq_true q57; obtain ⟨hy60_, hz60_⟩ := Kd.R_celln 0 HO_3.out (x4_1 : Int) (of_decide_eq_true (by first | (with_reducible assumption) | assumption)) (of_decide_eq_true (by first | (with_reducible assumption) | assumption)); have HP60 := Kd.R_putg HO_3.out (x4_1 : Int) (wrap64 ((rd x3_2 (ji52)) + 1))) | ((with_reducible refine gate_store (t := 3) (p := 71) rfl ?_); refine store_event (t := 3) (p := 71) (v := ?vo_w61) (w1 := (w59.setCell ⟨go8, (x4_1 : Int).toNat, none⟩ (.int .i64 (wrap64 ((rd x3_2 (ji52)) + 1))))) ?hg ?ho ?hn ?hr ?_; (case ho => rfl); (case hg => rfl); (case hn => rfl); (case hr => first | (go_simp; done) | (go_simp; rfl)); intro w61 hw; have hg : w59.grownBy w61 (some go8) := (by rw [hw]; exact HP60.2); have hp_ : Kd.R (Kd.int .i64) 3 w61 w.heap.size (fun _ => True) (.slice (some ⟨go8, 0, none⟩) x3_2.length co8) y436 := (by rw [hw, Ny436.out]; exact HP60.1); clear HP60; have n0_ := Aside0.mk (hp_); have n1_ := Aside0.mk (Kd.R_over' (v := (.slice (some ⟨go8, 0, none⟩) x3_2.length co8)) (by (with_reducible repeat (first | apply Kd.R_alloc | apply Kd.R_drewN | apply Kd.R_drew)); exact HO_19.out) (Kd.R_typed HO_3.out) (by decide) hg); have n2_ := Aside0.mk (blk_grown (g := gb426) (o := .cells #[.int .i64 ((rd_T58 t422 x21_2).f0), .int .i64 ((rd_T58 t422 x21_2).f1)] 58 (0, 0)) (by (with_reducible repeat (first | refine blk_drewN ?_ _ | refine blk_drew ?_ | refine blk_alloc ?_ _)); exact BK426.out) hg (Kd.R_ne HO_3.out BK426.out (by decide))); have n3_ := Aside0.mk ((by rw [hw]; exact below_set (HB.out) GB8.out : Below w.heap.size w w61)); clear HO_3; clear HO_19; clear BK426; clear HB; have HO_3 := n0_; have HO_19 := n1_; have BK426 := n2_; have HB := n3_; clear n0_ n1_ n2_ n3_; clear hg hw hp_))
                   (try simp only [← hl3_2])
                   go_roundg kj16
                   case measure => have := HK1.out; have := HK2.out; have := HJ16.out; omega
                   case rel => exact ⟨(y436), (wrap64 (x21_2 + 1)), (by first | rfl | (simp; done) | (simp [*]; done)), H', ⟨by have := HK1.out; have := HK2.out; have := HJ16.out; omega⟩, ⟨by (try simp only [hl3_2]); (with_reducible repeat (first | apply Kd.R_alloc | apply Kd.R_drewN | apply Kd.R_drew)); exact HO_3.out⟩, ⟨by (try simp only [hl3_2]); (with_reducible repeat (first | apply Kd.R_alloc | apply Kd.R_drewN | apply Kd.R_drew)); exact Kd.R_mono HO_19.out (fun _ hk => trivial)⟩, ⟨by repeat (first | (with_reducible first | exact HB.out | apply below_alloc | apply pw_below_drewN | apply below_drew1 | refine below_set ?_ GE426.out) | exact HB.out)⟩⟩
                  ·
                   rw [if_neg c56] at H
                   exact absurd H (by simp)
                 ·
                  rw [if_neg c55] at H
                  exact absurd H (by simp)
                ·
                 rw [if_neg c54] at H
                 exact absurd H (by simp)
               ·
                rw [if_neg c53] at H
                exact absurd H (by simp)
              ·
               replace c50 := Bool.eq_false_iff.mpr c50
               subst c50
               have H1 : (impl_fewest.l1 kj16 a0 x3_2 x4_1 t422 (t422.length : Int) (wrap64 (x21_2 + 1))) = some r := by rw [if_neg (show ¬ (false = true) by decide)] at H; exact H
               clear H
               have H := H1
               clear H1
               have H' := Aside0.mk H
               clear H
               go_wp2
               (try simp only [← hl3_2])
               go_roundg kj16
               case measure => have := HK1.out; have := HK2.out; have := HJ16.out; omega
               case rel => exact ⟨(x3_2), (wrap64 (x21_2 + 1)), (by first | rfl | (simp; done) | (simp [*]; done)), H', ⟨by have := HK1.out; have := HK2.out; have := HJ16.out; omega⟩, ⟨by (try simp only [hl3_2]); (with_reducible repeat (first | apply Kd.R_alloc | apply Kd.R_drewN | apply Kd.R_drew)); exact HO_3.out⟩, ⟨by (try simp only [hl3_2]); (with_reducible repeat (first | apply Kd.R_alloc | apply Kd.R_drewN | apply Kd.R_drew)); exact Kd.R_mono HO_19.out (fun _ hk => trivial)⟩, ⟨by repeat (first | (with_reducible first | exact HB.out | apply below_alloc | apply pw_below_drewN | apply below_drew1 | refine below_set ?_ GE426.out) | exact HB.out)⟩⟩
           ·
            rw [if_neg c16] at H
            exact absurd H (by simp)
          ·
           rw [if_neg c15] at H
           exact absurd H (by simp)
         ·
          rw [if_neg c14] at H
          have c14b0 : decide (x21_2 < (t422.length : Int)) = false := decide_eq_false c14
          clear c14
          have H' := Aside0.mk H
          clear H
          go_wp2
          (try simp only [← hl3_2])
          go_roundg k2
          case measure => have := HK1.out; have := HK2.out; omega
          case rel => exact ⟨(x3_2), (wrap64 (x4_1 + 1)), (by first | rfl | (simp; done) | (simp [*]; done)), H', ⟨by have := HK1.out; have := HK2.out; omega⟩, ⟨by (try simp only [hl3_2]); (with_reducible repeat (first | apply Kd.R_alloc | apply Kd.R_drewN | apply Kd.R_drew)); exact HO_3.out⟩, ⟨by repeat (first | (with_reducible first | exact HB.out | apply below_alloc | apply pw_below_drewN | apply below_drew1) | exact HB.out)⟩⟩
      ·
       rw [if_neg c7] at H
       exact absurd H (by simp)
     ·
      rw [if_neg c6] at H
      exact absurd H (by simp)
    ·
     rw [if_neg c5] at H
     have c5b0 : decide (x4_1 ≤ 1001) = false := decide_eq_false c5
     clear c5
     by_cases c62 : a0 = true
     ·
      subst c62
      have H1 : (if 1002 ≤ 35184372088832 then ((some (List.replicate 1002 0 : List Int)).bind fun y437 => (impl_fewest.l2 k1 x3_1 y437 (y437.length : Int) 0)) else (none)) = some r := by rw [if_pos rfl] at H; exact H
      clear H
      have H := H1
      clear H1
      by_cases c63 : 1002 ≤ 35184372088832
      ·
       rw [if_pos c63] at H
       have c63b0 := eq_true c63
       have c63b1 : decide (1002 ≤ 35184372088832) = true := decide_eq_true c63
       clear c63
       obtain ⟨y437, hy437⟩ : ∃ y_ : List Int, y_ = (List.replicate 1002 0) := ⟨_, rfl⟩
       replace H : (impl_fewest.l2 k1 x3_1 y437 (y437.length : Int) 0) = some r := by first | (rw [hy437]; with_reducible exact H) | (have H2_ := (Option.bind_some _ _).symm.trans H; rw [hy437]; with_reducible exact H2_) | (have H2_ := (Option.bind_some _ _).symm.trans H; with_reducible exact H2_) | with_reducible exact H | (rw [hy437]; exact H) | exact H
       have Ny437 := Aside0.mk hy437
       clear hy437
       have H' := Aside0.mk H
       clear H
       go_wp2_with (first | ((with_reducible refine gate_dst (N := 76) rfl ?_); refine Kd.R_make (Kd.int .i64) _ 3 rfl (N := 76) rfl 36 _ _ rfl 1002 rfl rfl Try.underlying36 (.int .i64 0) 8 info3 rfl (by decide) (by omega) 0 (ok := fun _ => True) (okp := fun _ => True) rfl (fun _ hk => hk) trivial (by omega) (by omega) (Below.refl _ _) (Nat.le_refl _) ?_; intro v438 w64 ho65 hb hg_ hnew_; clear hg_ hnew_; (first | rw [← Ny437.out] at ho65 | (simp only [Int.reduceToNat] at ho65; rw [← Ny437.out] at ho65)); have n0_ := Aside0.mk (Kd.R_elder' (by (with_reducible repeat (first | apply Kd.R_alloc | apply Kd.R_drewN | apply Kd.R_drew)); exact HO_3.out) (Kd.R_base ho65) hb); have n1_ := Aside0.mk (Kd.R_lower (Kd.R_new' ho65 (Kd.R_lt (by (with_reducible repeat (first | apply Kd.R_alloc | apply Kd.R_drewN | apply Kd.R_drew)); exact HO_3.out))) (below_size (by repeat (first | (with_reducible first | exact HB.out | apply below_alloc | apply pw_below_drewN | apply below_drew1) | exact HB.out)))); have n2_ := Aside0.mk (below_step (by repeat (first | (with_reducible first | exact HB.out | apply below_alloc | apply pw_below_drewN | apply below_drew1) | exact HB.out)) hb); clear HO_3; clear HB; have HO_3 := n0_; have HO439 := n1_; have HB := n2_; clear n0_ n1_ n2_; clear hb ho65; obtain ⟨Ao66, co66, eo66⟩ := Kd.R_slice HO439.out; subst eo66))
       go_loopg [79] k1 (fun kq v79 w' => ∃ (x7_2 : List Int) (x79_2 : Int), v79 = .int .i64 x79_2 ∧ Aside0 (impl_fewest.l2 kq x3_1 x7_2 (y437.length : Int) x79_2 = some r) ∧ Aside0 (kq ≤ k1) ∧ Aside0 (Kd.R (Kd.int .i64) 3 w' w.heap.size (fun k_ => some k_ ≠ ((.slice Ao66 y437.length co66) : Value).ownBlock) v419 x3_1) ∧ Aside0 (Kd.R (Kd.int .i64) 3 w' w.heap.size (fun k_ => some k_ ≠ (v419 : Value).ownBlock) (.slice Ao66 y437.length co66) x7_2) ∧ Aside0 (Below w.heap.size w w'))
       case atStart => exact ⟨(y437), (0), (by first | rfl | (simp; done) | (simp [*]; done)), H', ⟨Nat.le_refl _⟩, ⟨by (with_reducible repeat (first | apply Kd.R_alloc | apply Kd.R_drewN | apply Kd.R_drew)); exact Kd.R_mono HO_3.out (fun _ hk => hk.2)⟩, ⟨by (with_reducible repeat (first | apply Kd.R_alloc | apply Kd.R_drewN | apply Kd.R_drew)); exact Kd.R_mono HO439.out (fun _ hk => hk.2)⟩, ⟨by repeat (first | (with_reducible first | exact HB.out | apply below_alloc | apply pw_below_drewN | apply below_drew1) | exact HB.out)⟩⟩
       case round =>
        clear H'
        try clear c1
        try clear c2
        try clear p2
        try clear c3
        try clear p4
        try clear q4
        try clear hx4
        try clear c5
        try clear c5b0
        try clear p5
        try clear q5
        try clear hx5
        try clear hf5
        try clear c6
        try clear p6
        try clear c7
        try clear c14
        try clear c14b0
        try clear c15
        try clear c16
        try clear c21
        try clear c21b0
        try clear c24
        try clear c25
        try clear c26
        try clear c26b0
        try clear c27
        try clear c28
        try clear c36
        try clear c37
        try clear p42
        try clear q42
        try clear hx42
        try clear p43
        try clear q43
        try clear hx43
        try clear c50
        try clear c53
        try clear c53b0
        try clear c54
        try clear c54b0
        try clear c55
        try clear c55b0
        try clear c56
        try clear c56b0
        try clear p57
        try clear q57
        try clear hx57
        try clear hf57
        try clear c58
        try clear c62
        try clear c63
        try clear c63b0
        try clear c63b1
        try clear p64
        try clear hcz58_0
        try clear hcz58_1
        try clear hfz58_0
        try clear hfz58_1
        try clear hx429_0
        try clear hx435_0
        try clear hx57_0
        try clear p2
        try clear p4
        try clear p42
        try clear p429
        try clear p435
        try clear p57
        try clear p6
        try clear q4
        try clear q42
        try clear q429
        try clear q435
        try clear q57
        obtain ⟨x7_2, x79_2, rfl, HA, HK2, HO_3, HO_7, HB⟩ := hrel
        have hl7_2 := (Kd.R_reads' HO_7.out).1
        rw [hl7_2] at HO_7
        (try simp only [hl7_2])
        (try simp only [hl7_2] at HO_3)
        cases gk with
        | zero => exact absurd HA.out (by simp [impl_fewest.l2])
        | succ k2 =>
         have H := HA.out
         clear HA
         simp only [impl_fewest.l2] at H
         by_cases c67 : x79_2 < (y437.length : Int)
         ·
          rw [if_pos c67] at H
          have c67b0 : decide (x79_2 < (y437.length : Int)) = true := decide_eq_true c67
          (try simp only [hl7_2] at c67b0)
          clear c67
          by_cases c68 : 0 ≤ x79_2
          ·
           rw [if_pos c68] at H
           have c68b0 : decide (0 ≤ x79_2) = true := decide_eq_true c68
           clear c68
           by_cases c69 : x79_2 < (x7_2.length : Int)
           ·
            rw [if_pos c69] at H
            have c69b0 : decide (x79_2 < (x7_2.length : Int)) = true := decide_eq_true c69
            clear c69
            obtain ⟨y440, hy440⟩ : ∃ y_ : List Int, y_ = (x7_2.set (x79_2 : Int).toNat (-1)) := ⟨_, rfl⟩
            replace H : ((impl_board.f k2).bind fun t441 => (impl_fewest.l3 k2 x3_1 y440 x79_2 (y437.length : Int) x79_2 t441 (t441.length : Int) 0)) = some r := by first | (rw [hy440]; with_reducible exact H) | (have H2_ := (Option.bind_some _ _).symm.trans H; rw [hy440]; with_reducible exact H2_) | (have H2_ := (Option.bind_some _ _).symm.trans H; with_reducible exact H2_) | with_reducible exact H | (rw [hy440]; exact H) | exact H
            have Ny440 := Aside0.mk hy440
            clear hy440
            replace H := Option.bind_eq_some_iff.mp H
            obtain ⟨t441, A710, H⟩ := H
            replace H : (impl_fewest.l3 k2 x3_1 y440 x79_2 (y437.length : Int) x79_2 t441 (t441.length : Int) 0) = some r := H
            have A71 := Aside0.mk A710
            clear A710
            have H' := Aside0.mk H
            clear H
            have p70 : 0 ≤ (x79_2 : Int) := of_decide_eq_true (by first | (with_reducible assumption) | assumption)
            have q70 : (x79_2 : Int) < ((x7_2.length : Int) : Int) := of_decide_eq_true (by first | (with_reducible assumption) | assumption)
            obtain ⟨go70, co70, eo70, gb70, gl70, cl70, HG70⟩ := Kd.R_form HO_7.out (by omega)
            (first | cases eo70 | (injection eo70 with ea_ en_ ec_; (first | subst ea_ | (injection ea_ with ea_; subst ea_)); subst ec_; clear en_))
            have GB70 := Aside0.mk gb70
            have GG70 := Aside0.mk HG70
            clear gb70 gl70 HG70
            obtain ⟨hx70_0, hf70_0⟩ := Kd.R_celln 0 HO_7.out (x79_2 : Int) p70 q70
            replace p70 := eq_true p70
            replace q70 := eq_true q70
            have HP72 := Kd.R_putg HO_7.out (x79_2 : Int) (-1)
            go_wp2_with (first | ((with_reducible refine gate_store (t := 3) (p := 84) rfl ?_); refine store_event (t := 3) (p := 84) (v := ?vo_w73) (w1 := (wr.setCell ⟨go70, (x79_2 : Int).toNat, none⟩ (.int .i64 (-1)))) ?hg ?ho ?hn ?hr ?_; (case ho => rfl); (case hg => rfl); (case hn => rfl); (case hr => first | (go_simp; done) | (go_simp; rfl)); intro w73 hw; have hg : wr.grownBy w73 (some go70) := (by rw [hw]; exact HP72.2); have hp_ : Kd.R (Kd.int .i64) 3 w73 w.heap.size (fun k_ => some k_ ≠ (v419 : Value).ownBlock) (.slice (some ⟨go70, 0, none⟩) x7_2.length co66) y440 := (by rw [hw, Ny440.out]; exact HP72.1); clear HP72; have n0_ := Aside0.mk (Kd.R_after (v := (.slice (some ⟨go70, 0, none⟩) x7_2.length co66)) (v1 := (.slice (some ⟨go70, 0, none⟩) x7_2.length co66)) (ok := (fun _ => True)) (by (with_reducible repeat (first | apply Kd.R_alloc | apply Kd.R_drewN | apply Kd.R_drew)); exact Kd.R_mono HO_3.out (fun _ hk => ⟨trivial, hk⟩)) hg (.inl rfl)); have n1_ := Aside0.mk (hp_); have n2_ := Aside0.mk ((by rw [hw]; exact below_set (HB.out) GB70.out : Below w.heap.size w w73)); clear HO_3; clear HO_7; clear HB; have HO_3 := n0_; have HO_7 := n1_; have HB := n2_; clear n0_ n1_ n2_; clear hg hw hp_) | ((with_reducible refine gate_callee (f := 75) rfl ?_); refine goesL_ (some 85) rfl rfl Try.func75 (by kernel_rfl) rfl #[] rfl (by (try simp only [List.map_toArray, List.map_cons, List.map_nil]); first | done | rfl | (simp only [List.length_drop, List.length_take]; rfl)) ?_; (with_reducible refine (impl_board.calls k2  t441 _ A71.out).mono ?_); rintro e w74 ⟨v442, rfl, ho0, hb⟩; refine ⟨_, rfl, ?_⟩; have n0_ := Aside0.mk (Kd.R_below (by (with_reducible repeat (first | apply Kd.R_alloc | apply Kd.R_drewN | apply Kd.R_drew)); exact HO_3.out) hb); have n1_ := Aside0.mk (Kd.R_below (by (with_reducible repeat (first | apply Kd.R_alloc | apply Kd.R_drewN | apply Kd.R_drew)); exact HO_7.out) hb); have n2_ := Aside0.mk (Kd.R_lower ho0 (below_size (by repeat (first | (with_reducible first | exact HB.out | apply below_alloc | apply pw_below_drewN | apply below_drew1) | exact HB.out)))); have n3_ := Aside0.mk (below_step (by repeat (first | (with_reducible first | exact HB.out | apply below_alloc | apply pw_below_drewN | apply below_drew1) | exact HB.out)) hb); clear HO_3; clear HO_7; clear HB; have HO_3 := n0_; have HO_7 := n1_; have HO443 := n2_; have HB := n3_; clear n0_ n1_ n2_ n3_; (try clear hb); (try clear hb2); (try clear hk); (try clear hi); (try clear ho0); obtain ⟨Ao75, co75, eo75⟩ := Kd.R_slice HO443.out; subst eo75))
            go_loopg [87] k2 (fun kq v87 w' => ∃ (x7_3 : List Int) (x87_3 : Int), v87 = .int .i64 x87_3 ∧ Aside0 (impl_fewest.l3 kq x3_1 x7_3 x79_2 (y437.length : Int) x79_2 t441 (t441.length : Int) x87_3 = some r) ∧ Aside0 (kq ≤ k2) ∧ Aside0 (Kd.R (Kd.int .i64) 3 w' w.heap.size (fun k_ => some k_ ≠ ((.slice (some ⟨go70, 0, none⟩) x7_2.length co66) : Value).ownBlock) v419 x3_1) ∧ Aside0 (Kd.R (Kd.int .i64) 3 w' w.heap.size (fun k_ => some k_ ≠ (v419 : Value).ownBlock) (.slice (some ⟨go70, 0, none⟩) x7_2.length co66) x7_3) ∧ Aside0 (Kd.R k58 58 w' w.heap.size (fun _ => True) (.slice Ao75 t441.length co75) t441) ∧ Aside0 (Below w.heap.size w w'))
            case atStart => exact ⟨(y440), (0), (by first | rfl | (simp; done) | (simp [*]; done)), H', ⟨Nat.le_refl _⟩, ⟨by (try simp only [hl7_2]); (with_reducible repeat (first | apply Kd.R_alloc | apply Kd.R_drewN | apply Kd.R_drew)); exact Kd.R_mono HO_3.out (fun _ hk => hk.2)⟩, ⟨by (try simp only [hl7_2]); (with_reducible repeat (first | apply Kd.R_alloc | apply Kd.R_drewN | apply Kd.R_drew)); exact HO_7.out⟩, ⟨by (try simp only [hl7_2]); (with_reducible repeat (first | apply Kd.R_alloc | apply Kd.R_drewN | apply Kd.R_drew)); exact HO443.out⟩, ⟨by repeat (first | (with_reducible first | exact HB.out | apply below_alloc | apply pw_below_drewN | apply below_drew1) | exact HB.out)⟩⟩
            case round =>
             clear H'
             try clear c1
             try clear c2
             try clear p2
             try clear c3
             try clear p4
             try clear q4
             try clear hx4
             try clear c5
             try clear c5b0
             try clear p5
             try clear q5
             try clear hx5
             try clear hf5
             try clear c6
             try clear p6
             try clear c7
             try clear p7
             try clear q7
             try clear hx7
             try clear hf7
             try clear c14
             try clear c14b0
             try clear c15
             try clear c16
             try clear c21
             try clear c21b0
             try clear c24
             try clear c25
             try clear c26
             try clear c26b0
             try clear c27
             try clear c28
             try clear c36
             try clear c37
             try clear p42
             try clear q42
             try clear hx42
             try clear p43
             try clear q43
             try clear hx43
             try clear c50
             try clear c53
             try clear c53b0
             try clear c54
             try clear c54b0
             try clear c55
             try clear c55b0
             try clear c56
             try clear c56b0
             try clear p57
             try clear q57
             try clear hx57
             try clear hf57
             try clear c58
             try clear c62
             try clear c63
             try clear c63b0
             try clear c63b1
             try clear p64
             try clear c67
             try clear c67b0
             try clear c68
             try clear c68b0
             try clear c69
             try clear c69b0
             try clear p70
             try clear q70
             try clear hx70
             try clear hf70
             try clear c75
             try clear hcz58_0
             try clear hcz58_1
             try clear hfz58_0
             try clear hfz58_1
             try clear hx429_0
             try clear hx435_0
             try clear hx57_0
             try clear hx70_0
             try clear p2
             try clear p4
             try clear p42
             try clear p429
             try clear p43
             try clear p435
             try clear p5
             try clear p57
             try clear p6
             try clear p64
             try clear p70
             try clear q4
             try clear q42
             try clear q429
             try clear q43
             try clear q435
             try clear q5
             try clear q57
             try clear q70
             obtain ⟨x7_3, x87_3, rfl, HA, HK3, HO_3, HO_7, HO_85, HB⟩ := hrel
             have hl7_3 := (Kd.R_reads' HO_7.out).1
             rw [hl7_3] at HO_7
             (try simp only [hl7_3])
             (try simp only [hl7_3] at HO_3)
             (try simp only [hl7_3] at HO_85)
             cases gk with
             | zero => exact absurd HA.out (by simp [impl_fewest.l3])
             | succ k3 =>
              have H := HA.out
              clear HA
              simp only [impl_fewest.l3] at H
              by_cases c76 : x87_3 < (t441.length : Int)
              ·
               rw [if_pos c76] at H
               have c76b0 : decide (x87_3 < (t441.length : Int)) = true := decide_eq_true c76
               clear c76
               by_cases c77 : 0 ≤ x87_3
               ·
                rw [if_pos c77] at H
                have c77b0 : decide (0 ≤ x87_3) = true := decide_eq_true c77
                clear c77
                by_cases c78 : x87_3 < (t441.length : Int)
                ·
                 rw [if_pos c78] at H
                 have c78b0 : decide (x87_3 < (t441.length : Int)) = true := decide_eq_true c78
                 clear c78
                 have HC79 := Aside0.mk H
                 clear H
                 have p444 : 0 ≤ (x87_3 : Int) := of_decide_eq_true (by first | (with_reducible assumption) | assumption)
                 have q444 : x87_3 < (t441.length : Int) := of_decide_eq_true (by first | (with_reducible assumption) | assumption)
                 (try (obtain ⟨Az_, cz_, ez_⟩ := Kd.R_slice HO_85.out; subst ez_))
                 obtain ⟨ad444, e444, hx444_0, hx444_1⟩ := at_T58 (Kd.R_reads' HO_85.out).2.2 x87_3 p444 q444
                 cases e444
                 replace p444 := eq_true p444
                 replace q444 := eq_true q444
                 go_upto_region 22 with (first | ((with_reducible refine gate_dst (N := 10) rfl ?_); refine box_event ?hg (N := 10) ?hd (cs := #[.int .i64 0, .int .i64 0]) (t := 58) ?hr ?_; (case hd => rfl); (case hg => rfl); (case hr => first | (go_simp; done) | (go_simp; rfl)); intro gb445 hg w80 hbox hb; have n0_ := Aside0.mk (Kd.R_below (by (with_reducible repeat (first | apply Kd.R_alloc | apply Kd.R_drewN | apply Kd.R_drew)); exact HO_3.out) hb); have n1_ := Aside0.mk (Kd.R_below (by (with_reducible repeat (first | apply Kd.R_alloc | apply Kd.R_drewN | apply Kd.R_drew)); exact HO_7.out) hb); have n2_ := Aside0.mk (Kd.R_below (Kd.R_elderB (by (with_reducible repeat (first | apply Kd.R_alloc | apply Kd.R_drewN | apply Kd.R_drew)); exact HO_85.out) gb445 (Nat.le_of_eq hg.symm)) hb); have n3_ := Aside0.mk (below_step (by repeat (first | (with_reducible first | exact HB.out | apply below_alloc | apply pw_below_drewN | apply below_drew1) | exact HB.out)) hb); have n4_ := Aside0.mk (hbox); have n5_ := Aside0.mk ((by rw [hg]; exact (below_size (by repeat (first | (with_reducible first | exact HB.out | apply below_alloc | apply pw_below_drewN | apply below_drew1) | exact HB.out))) : w.heap.size ≤ gb445)); have n6_ := Aside0.mk ((by rw [hg]; exact (below_size (by repeat (first | (with_reducible first | exact HB.out | apply below_alloc | apply pw_below_drewN | apply below_drew1) | exact HB.out))) : w.heap.size ≤ gb445)); clear HO_3; clear HO_7; clear HO_85; clear HB; have HO_3 := n0_; have HO_7 := n1_; have HO_85 := n2_; have HB := n3_; have BK445 := n4_; have GW445 := n5_; have GE445 := n6_; clear n0_ n1_ n2_ n3_ n4_ n5_ n6_; clear hb hbox hg; have hcz81_0 : w80.cell? ⟨gb445, 0, none⟩ = some (.int .i64 0) := (blk_cell BK445.out 0).trans rfl; have hcz81_1 : w80.cell? ⟨gb445, 1, none⟩ = some (.int .i64 0) := (blk_cell BK445.out 1).trans rfl; have hfz81_0 := blk_frozen BK445.out 0; have hfz81_1 := blk_frozen BK445.out 1))
                 (try simp only [Act.put, List.setIfInBounds_toArray, List.set_cons_zero, List.set_cons_succ])
                 go_cut [121] (fun v121 wc => ∃ (kq : Nat) (x121_78 : Bool), v121 = .bool x121_78 ∧ Aside0 (impl_fewest.j5 kq x3_1 x7_3 x79_2 (y437.length : Int) x79_2 t441 (t441.length : Int) x87_3 x121_78 ((rd_T58 t441 x87_3).f0) ((rd_T58 t441 x87_3).f1) = some r) ∧ Aside0 (kq ≤ k3) ∧ Aside0 (Kd.R (Kd.int .i64) 3 wc w.heap.size (fun k_ => some k_ ≠ ((.slice (some ⟨go70, 0, none⟩) x7_3.length co66) : Value).ownBlock) v419 x3_1) ∧ Aside0 (Kd.R (Kd.int .i64) 3 wc w.heap.size (fun k_ => some k_ ≠ (v419 : Value).ownBlock) (.slice (some ⟨go70, 0, none⟩) x7_3.length co66) x7_3) ∧ Aside0 (Kd.R k58 58 wc w.heap.size (fun k_ => k_ ≠ gb445) (.slice (some ad444) t441.length co75) t441) ∧ Aside0 (wc.heap[gb445]? = some (.cells #[.int .i64 ((rd_T58 t441 x87_3).f0), .int .i64 ((rd_T58 t441 x87_3).f1)] 58 (0, 0))) ∧ Aside0 (Below w.heap.size w wc))
                 case first =>
                  have H := HC79.out
                  clear HC79
                  by_cases c82 : ((rd_T58 t441 x87_3).f1) = 2
                  ·
                   rw [if_pos c82] at H
                   have c82b0 : (((rd_T58 t441 x87_3).f1) == 2) = true := beq_iff_eq.mpr c82
                   have c82b1 : (((rd_T58 t441 x87_3).f1) != 2) = false := bne_eq_false_iff_eq.mpr c82
                   clear c82
                   (first | rw [c82b0] | (simp only [i64_w, i32_w]; rw [c82b0]) | skip)
                   replace H := Option.bind_eq_some_iff.mp H
                   obtain ⟨t446, A830, H⟩ := H
                   replace H : (if t446 ≤ x79_2 then (if 0 ≤ x79_2 then (if x79_2 < (x7_3.length : Int) then (if (rd x7_3 x79_2) < 0 then (impl_fewest.j5 k3 x3_1 x7_3 x79_2 (y437.length : Int) x79_2 t441 (t441.length : Int) x87_3 true ((rd_T58 t441 x87_3).f0) ((rd_T58 t441 x87_3).f1)) else ((impl_Dart_score.f ((rd_T58 t441 x87_3).f0) ((rd_T58 t441 x87_3).f1)).bind fun t448 => (if 0 ≤ (wrap64 (x79_2 - t448)) then (if (wrap64 (x79_2 - t448)) < (x3_1.length : Int) then (impl_fewest.j5 k3 x3_1 x7_3 x79_2 (y437.length : Int) x79_2 t441 (t441.length : Int) x87_3 (decide ((wrap64 ((rd x3_1 (wrap64 (x79_2 - t448))) + 1)) < (rd x7_3 x79_2))) ((rd_T58 t441 x87_3).f0) ((rd_T58 t441 x87_3).f1)) else (none)) else (none)))) else (none)) else (none)) else (impl_fewest.j5 k3 x3_1 x7_3 x79_2 (y437.length : Int) x79_2 t441 (t441.length : Int) x87_3 false ((rd_T58 t441 x87_3).f0) ((rd_T58 t441 x87_3).f1))) = some r := H
                   have A83 := Aside0.mk A830
                   clear A830
                   by_cases c84 : t446 ≤ x79_2
                   ·
                    rw [if_pos c84] at H
                    have c84b0 : decide (t446 ≤ x79_2) = true := decide_eq_true c84
                    clear c84
                    by_cases c85 : 0 ≤ x79_2
                    ·
                     rw [if_pos c85] at H
                     have c85b0 : decide (0 ≤ x79_2) = true := decide_eq_true c85
                     clear c85
                     by_cases c86 : x79_2 < (x7_3.length : Int)
                     ·
                      rw [if_pos c86] at H
                      have c86b0 : decide (x79_2 < (x7_3.length : Int)) = true := decide_eq_true c86
                      clear c86
                      by_cases c87 : (rd x7_3 x79_2) < 0
                      ·
                       rw [if_pos c87] at H
                       have c87b0 : decide ((rd x7_3 x79_2) < 0) = true := decide_eq_true c87
                       clear c87
                       have H' := Aside0.mk H
                       clear H
                       try go_wp2
                       have n0_ : Aside0 (Kd.R (Kd.int .i64) 3 ((w80.setCell ⟨gb445, 0, none⟩ (.int .i64 ((rd_T58 t441 x87_3).f0))).setCell ⟨gb445, 1, none⟩ (.int .i64 ((rd_T58 t441 x87_3).f1))) w.heap.size (fun k_ => some k_ ≠ (.slice (some ⟨go70, 0, none⟩) x7_3.length co66 : Value).ownBlock) v419 x3_1) := ⟨by (with_reducible repeat (first | apply Kd.R_alloc | apply Kd.R_drewN | apply Kd.R_drew)); exact Kd.R_mono (Kd.R_far (p := ⟨gb445, 1, none⟩) (Kd.R_far (p := ⟨gb445, 0, none⟩) (Kd.R_types HO_3.out BK445.out (by decide)) (fun _ hk => hk.2) (.int .i64 ((rd_T58 t441 x87_3).f0))) (fun _ hk => hk.2) (.int .i64 ((rd_T58 t441 x87_3).f1))) (fun _ hk => hk.1)⟩
                       have n1_ : Aside0 (Kd.R (Kd.int .i64) 3 ((w80.setCell ⟨gb445, 0, none⟩ (.int .i64 ((rd_T58 t441 x87_3).f0))).setCell ⟨gb445, 1, none⟩ (.int .i64 ((rd_T58 t441 x87_3).f1))) w.heap.size (fun k_ => some k_ ≠ (v419 : Value).ownBlock) (.slice (some ⟨go70, 0, none⟩) x7_3.length co66) x7_3) := ⟨by (with_reducible repeat (first | apply Kd.R_alloc | apply Kd.R_drewN | apply Kd.R_drew)); exact Kd.R_mono (Kd.R_far (p := ⟨gb445, 1, none⟩) (Kd.R_far (p := ⟨gb445, 0, none⟩) (Kd.R_types HO_7.out BK445.out (by decide)) (fun _ hk => hk.2) (.int .i64 ((rd_T58 t441 x87_3).f0))) (fun _ hk => hk.2) (.int .i64 ((rd_T58 t441 x87_3).f1))) (fun _ hk => hk.1)⟩
                       have n2_ : Aside0 (Kd.R k58 58 ((w80.setCell ⟨gb445, 0, none⟩ (.int .i64 ((rd_T58 t441 x87_3).f0))).setCell ⟨gb445, 1, none⟩ (.int .i64 ((rd_T58 t441 x87_3).f1))) w.heap.size (fun k_ => k_ ≠ gb445) (.slice (some ad444) t441.length co75) t441) := ⟨by (with_reducible repeat (first | apply Kd.R_alloc | apply Kd.R_drewN | apply Kd.R_drew)); exact Kd.R_mono (Kd.R_far (p := ⟨gb445, 1, none⟩) (Kd.R_far (p := ⟨gb445, 0, none⟩) (Kd.R_mono HO_85.out (fun k_ hk => (⟨hk, hk.2⟩ : _ ∧ k_ ≠ gb445))) (fun _ hk => hk.2) (.int .i64 ((rd_T58 t441 x87_3).f0))) (fun _ hk => hk.2) (.int .i64 ((rd_T58 t441 x87_3).f1))) (fun _ hk => hk.1.2)⟩
                       have n3_ : Aside0 (((w80.setCell ⟨gb445, 0, none⟩ (.int .i64 ((rd_T58 t441 x87_3).f0))).setCell ⟨gb445, 1, none⟩ (.int .i64 ((rd_T58 t441 x87_3).f1))).heap[gb445]? = some (.cells #[.int .i64 ((rd_T58 t441 x87_3).f0), .int .i64 ((rd_T58 t441 x87_3).f1)] 58 (0, 0))) := ⟨by (with_reducible repeat (first | refine blk_drewN ?_ _ | refine blk_drew ?_ | refine blk_alloc ?_ _)); refine blk_put (cs := #[.int .i64 ((rd_T58 t441 x87_3).f0), .int .i64 0]) ?_ 1 _ rfl; (with_reducible repeat (first | refine blk_drewN ?_ _ | refine blk_drew ?_ | refine blk_alloc ?_ _)); refine blk_put (cs := #[.int .i64 0, .int .i64 0]) ?_ 0 _ rfl; (with_reducible repeat (first | refine blk_drewN ?_ _ | refine blk_drew ?_ | refine blk_alloc ?_ _)); exact BK445.out⟩
                       have n4_ : Aside0 (Below w.heap.size w ((w80.setCell ⟨gb445, 0, none⟩ (.int .i64 ((rd_T58 t441 x87_3).f0))).setCell ⟨gb445, 1, none⟩ (.int .i64 ((rd_T58 t441 x87_3).f1)))) := ⟨by repeat (first | (with_reducible first | exact HB.out | apply below_alloc | apply pw_below_drewN | apply below_drew1 | refine below_set ?_ GE445.out) | exact HB.out)⟩
                       (try clear HO_3)
                       (try clear HO_7)
                       (try clear HO_85)
                       (try clear BK445)
                       (try clear HB)
                       generalize ((w80.setCell ⟨gb445, 0, none⟩ (.int .i64 ((rd_T58 t441 x87_3).f0))).setCell ⟨gb445, 1, none⟩ (.int .i64 ((rd_T58 t441 x87_3).f1))) = w88 at n0_ n1_ n2_ n3_ n4_ ⊢
                       have HO_3 := n0_
                       have HO_7 := n1_
                       have HO_85 := n2_
                       have BK445 := n3_
                       have HB := n4_
                       clear n0_ n1_ n2_ n3_ n4_
                       have n0_ := Aside0.mk (Kd.R_drew HO_3.out)
                       have n1_ := Aside0.mk (Kd.R_drew HO_7.out)
                       have n2_ := Aside0.mk (Kd.R_drew HO_85.out)
                       have n3_ := Aside0.mk (blk_drew BK445.out)
                       have n4_ := Aside0.mk (below_drew1 HB.out)
                       clear HO_3; clear HO_7; clear HO_85; clear BK445; clear HB
                       have HO_3 := n0_
                       have HO_7 := n1_
                       have HO_85 := n2_
                       have BK445 := n3_
                       have HB := n4_
                       clear n0_ n1_ n2_ n3_ n4_
                       have p447 : 0 ≤ (x79_2 : Int) := of_decide_eq_true (by first | (with_reducible assumption) | assumption)
                       have q447 : x79_2 < (x7_3.length : Int) := of_decide_eq_true (by first | (with_reducible assumption) | assumption)
                       (try (obtain ⟨Az_, cz_, ez_⟩ := Kd.R_slice HO_7.out; subst ez_))
                       obtain ⟨ad447, e447, hx447_0⟩ := Kd.at_int (Kd.R_reads' HO_7.out).2.2 x79_2 p447 q447
                       obtain rfl : (⟨go70, 0, none⟩ : Addr) = ad447 := (by injection e447)
                       (first | simp only [add_plain] at hx447_0 | simp only [add_at] at hx447_0 | simp only [Addr.add, Nat.zero_add] at hx447_0 | skip)
                       replace p447 := eq_true p447
                       replace q447 := eq_true q447
                       refine start_ (n := 31) (S := fun w' => w'.cell? ⟨gb445, 0, none⟩ = some (.int .i64 ((rd_T58 t441 x87_3).f0)) ∧ w'.cell? ⟨gb445, 1, none⟩ = some (.int .i64 ((rd_T58 t441 x87_3).f1)) ∧ w'.cell? ⟨go70, (x79_2).toNat, none⟩ = some (.int .i64 (rd x7_3 x79_2))) (ds := []) impl_fewest.b46 (by kernel_rfl) rfl rfl ⟨(blk_cell BK445.out 0).trans rfl, (blk_cell BK445.out 1).trans rfl, hx447_0⟩ (fun hHeld => ?_); refine with_tabW impl_fewest.tab22 impl_fewest.bits22 (fun HT_ HW_ => ?_)
                       generalize w88.drew = w89 at HO_3 HO_7 HO_85 BK445 HB hx447_0 hHeld ⊢
                       refine pure_ (i := 0) (N := some 91) (v := ?_) (a' := ?_) impl_fewest.b47 rfl rfl (any_of HT_.out (by kernel_rfl)) (fun _ _ _ h => h) (Or.inl ⟨by rfl, ?_⟩) ?_ ?_; rotate_left
                       ·
                        intro w'; go_simp; with_reducible rfl
                       rotate_left
                       ·
                        simp only [Act.put, sA, sB, sC, i64_w, i32_w]; rfl
                       refine take_ (i := 1) (N := some 92) (v := ?_) (a' := ?_) impl_fewest.b48 rfl rfl (take_ofW HT_.out HW_.out (by kernel_rfl)) (fun _ _ _ h => h) (Or.inl ⟨by rfl, ?_⟩) hHeld ?_ ?_; rotate_left
                       ·
                        rintro w' ⟨s0, s1, s2⟩; go_simp; with_reducible rfl
                       rotate_left
                       ·
                        simp only [Act.put, sA, sB, sC, i64_w, i32_w]; rfl
                       refine pure_ (i := 2) (N := some 93) (v := ?_) (a' := ?_) impl_fewest.b49 rfl rfl (any_of HT_.out (by kernel_rfl)) (fun _ _ _ h => h) (Or.inl ⟨by rfl, ?_⟩) ?_ ?_; rotate_left
                       ·
                        intro w'; go_simp; with_reducible rfl
                       rotate_left
                       ·
                        simp only [Act.put, sA, sB, sC, i64_w, i32_w]; rfl
                       refine pure_ (i := 3) (N := some 94) (v := ?_) (a' := ?_) impl_fewest.b50 rfl rfl (any_of HT_.out (by kernel_rfl)) (fun _ _ _ h => h) (Or.inl ⟨by rfl, ?_⟩) ?_ ?_; rotate_left
                       ·
                        intro w'; go_simp; with_reducible rfl
                       rotate_left
                       ·
                        simp only [Act.put, sA, sB, sC, i64_w, i32_w]; rfl
                       refine pure_ (i := 6) (N := some 97) (v := ?_) (a' := ?_) impl_fewest.b51 rfl rfl (any_of HT_.out (by kernel_rfl)) (fun _ _ _ h => h) (Or.inl ⟨by rfl, ?_⟩) ?_ ?_; rotate_left
                       ·
                        intro w'; go_simp; with_reducible rfl
                       rotate_left
                       ·
                        simp only [Act.put, sA, sB, sC, i64_w, i32_w]; rfl
                       refine take_ (i := 4) (N := some 95) (v := ?_) (a' := ?_) impl_fewest.b52 rfl rfl (take_ofW HT_.out HW_.out (by kernel_rfl)) (fun _ _ _ h => h) (Or.inl ⟨by rfl, ?_⟩) hHeld ?_ ?_; rotate_left
                       ·
                        rintro w' ⟨s0, s1, s2⟩; go_simp; with_reducible rfl
                       rotate_left
                       ·
                        simp only [Act.put, sA, sB, sC, i64_w, i32_w]; rfl
                       refine one_ (i := 5) (N := some 96) impl_fewest.b53 rfl rfl (one_of HT_.out (by kernel_rfl)) (by decide) (fun K hK => ?_)
                       refine goes_ Try.func58 (by kernel_rfl) rfl #[.agg #[.int .i64 ((rd_T58 t441 x87_3).f0), .int .i64 ((rd_T58 t441 x87_3).f1)]] (by rfl) rfl rfl (by (try simp only [List.map_toArray, List.map_cons, List.map_nil]); first | done | rfl | (simp only [List.length_drop, List.length_take]; rfl)) ?_
                       with_reducible refine (impl_Dart_score.calls ((rd_T58 t441 x87_3).f0) ((rd_T58 t441 x87_3).f1) t446 _ A83.out).mono ?_
                       rintro e w90 ⟨rfl, hb⟩
                       have HS2_ := (hb.cell (World.block_lt_of_cell? _ _ (hHeld.2.2))).trans (hHeld.2.2)
                       refine ⟨_, rfl, ?_⟩
                       have n0_ := Aside0.mk (Kd.R_below (by (with_reducible repeat (first | apply Kd.R_alloc | apply Kd.R_drewN | apply Kd.R_drew)); exact HO_3.out) hb)
                       have n1_ := Aside0.mk (Kd.R_below (by (with_reducible repeat (first | apply Kd.R_alloc | apply Kd.R_drewN | apply Kd.R_drew)); exact HO_7.out) hb)
                       have n2_ := Aside0.mk (Kd.R_below (by (with_reducible repeat (first | apply Kd.R_alloc | apply Kd.R_drewN | apply Kd.R_drew)); exact HO_85.out) hb)
                       have n3_ := Aside0.mk (blk_below (g := gb445) (o := .cells #[.int .i64 ((rd_T58 t441 x87_3).f0), .int .i64 ((rd_T58 t441 x87_3).f1)] 58 (0, 0)) (by (with_reducible repeat (first | refine blk_drewN ?_ _ | refine blk_drew ?_ | refine blk_alloc ?_ _)); exact BK445.out) hb)
                       have n4_ := Aside0.mk (below_step (by repeat (first | (with_reducible first | exact HB.out | apply below_alloc | apply pw_below_drewN | apply below_drew1 | refine below_set ?_ GE445.out) | exact HB.out)) hb)
                       clear HO_3; clear HO_7; clear HO_85; clear BK445; clear HB
                       have HO_3 := n0_
                       have HO_7 := n1_
                       have HO_85 := n2_
                       have BK445 := n3_
                       have HB := n4_
                       clear n0_ n1_ n2_ n3_ n4_
                       (try clear hb)
                       (try clear hb2)
                       (try clear hk)
                       (try clear hi)
                       refine hK.out _ _ ⟨(blk_cell BK445.out 0).trans rfl, (blk_cell BK445.out 1).trans rfl, HS2_⟩ (fun hHeld => ?_); clear hK K
                       refine norm_ (a' := ?_) ?_ ?_; rotate_left
                       ·
                        show Act.put _ (some 96) _ = _
                        simp only [Act.put, sA, sB, sC, i64_w, i32_w]; rfl
                       refine pure_ (i := 7) (N := some 98) (v := ?_) (a' := ?_) impl_fewest.b54 rfl rfl (any_of HT_.out (by kernel_rfl)) (fun _ _ _ h => h) (Or.inl ⟨by rfl, ?_⟩) ?_ ?_; rotate_left
                       ·
                        intro w'; go_simp; with_reducible rfl
                       rotate_left
                       ·
                        simp only [Act.put, sA, sB, sC, i64_w, i32_w]; rfl
                       refine pure_ (i := 8) (N := some 99) (v := ?_) (a' := ?_) impl_fewest.b55 rfl rfl (any_of HT_.out (by kernel_rfl)) (fun _ _ _ h => h) (Or.inl ⟨by rfl, ?_⟩) ?_ ?_; rotate_left
                       ·
                        intro w'; go_simp; with_reducible rfl
                       rotate_left
                       ·
                        simp only [Act.put, sA, sB, sC, i64_w, i32_w]; rfl
                       refine pure_ (i := 9) (N := some 100) (v := ?_) (a' := ?_) impl_fewest.b56 rfl rfl (any_of HT_.out (by kernel_rfl)) (fun _ _ _ h => h) (Or.inl ⟨by rfl, ?_⟩) ?_ ?_; rotate_left
                       ·
                        intro w'; go_simp; with_reducible rfl
                       rotate_left
                       ·
                        simp only [Act.put, sA, sB, sC, i64_w, i32_w]; rfl
                       refine pure_ (i := 10) (N := some 101) (v := ?_) (a' := ?_) impl_fewest.b57 rfl rfl (any_of HT_.out (by kernel_rfl)) (fun _ _ _ h => h) (Or.inl ⟨by rfl, ?_⟩) ?_ ?_; rotate_left
                       ·
                        intro w'; go_simp; with_reducible rfl
                       rotate_left
                       ·
                        simp only [Act.put, sA, sB, sC, i64_w, i32_w]; rfl
                       refine pure_ (i := 11) (N := some 102) (v := ?_) (a' := ?_) impl_fewest.b58 rfl rfl (any_of HT_.out (by kernel_rfl)) (fun _ _ _ h => h) (Or.inl ⟨by rfl, ?_⟩) ?_ ?_; rotate_left
                       ·
                        intro w'; go_simp; with_reducible rfl
                       rotate_left
                       ·
                        simp only [Act.put, sA, sB, sC, i64_w, i32_w]; rfl
                       refine pure_ (i := 12) (N := some 103) (v := ?_) (a' := ?_) impl_fewest.b59 rfl rfl (any_of HT_.out (by kernel_rfl)) (fun _ _ _ h => h) (Or.inl ⟨by rfl, ?_⟩) ?_ ?_; rotate_left
                       ·
                        intro w'; go_simp; with_reducible rfl
                       rotate_left
                       ·
                        simp only [Act.put, sA, sB, sC, i64_w, i32_w]; rfl
                       refine take_ (i := 13) (N := some 104) (v := ?_) (a' := ?_) impl_fewest.b60 rfl rfl (take_ofW HT_.out HW_.out (by kernel_rfl)) (fun _ _ _ h => h) (Or.inl ⟨by rfl, ?_⟩) hHeld ?_ ?_; rotate_left
                       ·
                        rintro w' ⟨s0, s1, s2⟩; go_simp; with_reducible rfl
                       rotate_left
                       ·
                        simp only [Act.put, sA, sB, sC, i64_w, i32_w]; rfl
                       refine pure_ (i := 14) (N := some 105) (v := ?_) (a' := ?_) impl_fewest.b61 rfl rfl (any_of HT_.out (by kernel_rfl)) (fun _ _ _ h => h) (Or.inl ⟨by rfl, ?_⟩) ?_ ?_; rotate_left
                       ·
                        intro w'; go_simp; with_reducible rfl
                       rotate_left
                       ·
                        simp only [Act.put, sA, sB, sC, i64_w, i32_w]; rfl
                       refine pure_ (i := 15) (N := some 106) (v := ?_) (a' := ?_) impl_fewest.b62 rfl rfl (any_of HT_.out (by kernel_rfl)) (fun _ _ _ h => h) (Or.inl ⟨by rfl, ?_⟩) ?_ ?_; rotate_left
                       ·
                        intro w'; go_simp; with_reducible rfl
                       rotate_left
                       ·
                        simp only [Act.put, sA, sB, sC, i64_w, i32_w]; rfl
                       refine pure_ (i := 16) (N := some 107) (v := undef) (a' := ?_) impl_fewest.b63 rfl rfl (any_of HT_.out (by kernel_rfl)) (fun _ _ _ h => h) (Or.inr ⟨by rfl, rfl⟩) ?_ ?_; rotate_left
                       ·
                        simp only [Act.put, sA, sB, sC, i64_w, i32_w]; rfl
                       refine pure_ (i := 17) (N := some 108) (v := undef) (a' := ?_) impl_fewest.b64 rfl rfl (any_of HT_.out (by kernel_rfl)) (fun _ _ _ h => h) (Or.inr ⟨by rfl, rfl⟩) ?_ ?_; rotate_left
                       ·
                        simp only [Act.put, sA, sB, sC, i64_w, i32_w]; rfl
                       refine pure_ (i := 18) (N := some 109) (v := undef) (a' := ?_) impl_fewest.b65 rfl rfl (any_of HT_.out (by kernel_rfl)) (fun _ _ _ h => h) (Or.inr ⟨by rfl, rfl⟩) ?_ ?_; rotate_left
                       ·
                        simp only [Act.put, sA, sB, sC, i64_w, i32_w]; rfl
                       refine pure_ (i := 19) (N := some 110) (v := undef) (a' := ?_) impl_fewest.b66 rfl rfl (any_of HT_.out (by kernel_rfl)) (fun _ _ _ h => h) (Or.inr ⟨by rfl, rfl⟩) ?_ ?_; rotate_left
                       ·
                        simp only [Act.put, sA, sB, sC, i64_w, i32_w]; rfl
                       refine pure_ (i := 20) (N := some 111) (v := undef) (a' := ?_) impl_fewest.b67 rfl rfl (any_of HT_.out (by kernel_rfl)) (fun _ _ _ h => h) (Or.inr ⟨by rfl, rfl⟩) ?_ ?_; rotate_left
                       ·
                        simp only [Act.put, sA, sB, sC, i64_w, i32_w]; rfl
                       refine pure_ (i := 21) (N := some 112) (v := undef) (a' := ?_) impl_fewest.b68 rfl rfl (any_of HT_.out (by kernel_rfl)) (fun _ _ _ h => h) (Or.inr ⟨by rfl, rfl⟩) ?_ ?_; rotate_left
                       ·
                        simp only [Act.put, sA, sB, sC, i64_w, i32_w]; rfl
                       refine pure_ (i := 22) (N := some 113) (v := undef) (a' := ?_) impl_fewest.b69 rfl rfl (any_of HT_.out (by kernel_rfl)) (fun _ _ _ h => h) (Or.inr ⟨by rfl, rfl⟩) ?_ ?_; rotate_left
                       ·
                        simp only [Act.put, sA, sB, sC, i64_w, i32_w]; rfl
                       refine pure_ (i := 23) (N := some 114) (v := undef) (a' := ?_) impl_fewest.b70 rfl rfl (any_of HT_.out (by kernel_rfl)) (fun _ _ _ h => h) (Or.inr ⟨by rfl, rfl⟩) ?_ ?_; rotate_left
                       ·
                        simp only [Act.put, sA, sB, sC, i64_w, i32_w]; rfl
                       refine pure_ (i := 24) (N := some 115) (v := undef) (a' := ?_) impl_fewest.b71 rfl rfl (any_of HT_.out (by kernel_rfl)) (fun _ _ _ h => h) (Or.inr ⟨by rfl, rfl⟩) ?_ ?_; rotate_left
                       ·
                        simp only [Act.put, sA, sB, sC, i64_w, i32_w]; rfl
                       refine pure_ (i := 25) (N := some 116) (v := undef) (a' := ?_) impl_fewest.b72 rfl rfl (any_of HT_.out (by kernel_rfl)) (fun _ _ _ h => h) (Or.inr ⟨by rfl, rfl⟩) ?_ ?_; rotate_left
                       ·
                        simp only [Act.put, sA, sB, sC, i64_w, i32_w]; rfl
                       refine pure_ (i := 26) (N := some 117) (v := undef) (a' := ?_) impl_fewest.b73 rfl rfl (any_of HT_.out (by kernel_rfl)) (fun _ _ _ h => h) (Or.inr ⟨by rfl, rfl⟩) ?_ ?_; rotate_left
                       ·
                        simp only [Act.put, sA, sB, sC, i64_w, i32_w]; rfl
                       refine pure_ (i := 27) (N := some 118) (v := undef) (a' := ?_) impl_fewest.b74 rfl rfl (any_of HT_.out (by kernel_rfl)) (fun _ _ _ h => h) (Or.inr ⟨by rfl, rfl⟩) ?_ ?_; rotate_left
                       ·
                        simp only [Act.put, sA, sB, sC, i64_w, i32_w]; rfl
                       refine pure_ (i := 28) (N := some 119) (v := undef) (a' := ?_) impl_fewest.b75 rfl rfl (any_of HT_.out (by kernel_rfl)) (fun _ _ _ h => h) (Or.inr ⟨by rfl, rfl⟩) ?_ ?_; rotate_left
                       ·
                        simp only [Act.put, sA, sB, sC, i64_w, i32_w]; rfl
                       refine pure_ (i := 29) (N := some 120) (v := ?_) (a' := ?_) impl_fewest.b76 rfl rfl (any_of HT_.out (by kernel_rfl)) (fun _ _ _ h => h) (Or.inl ⟨by rfl, ?_⟩) ?_ ?_; rotate_left
                       ·
                        intro w'; go_simp; with_reducible rfl
                       rotate_left
                       ·
                        simp only [Act.put, sA, sB, sC, i64_w, i32_w]; rfl
                       refine pure_ (i := 30) (N := some 121) (v := ?_) (a' := ?_) impl_fewest.b77 rfl rfl (any_of HT_.out (by kernel_rfl)) (fun _ _ _ h => h) (Or.inl ⟨by rfl, ?_⟩) ?_ ?_; rotate_left
                       ·
                        intro w'; go_simp; with_reducible rfl
                       rotate_left
                       ·
                        simp only [Act.put, sA, sB, sC, i64_w, i32_w]; rfl
                       refine done_ (done_of HT_.out (by kernel_rfl)) ?_
                       try go_wp2
                       go_meet
                       case rel => exact ⟨_, (true), (by first | rfl | (simp; done) | (simp [*]; done)), H', ⟨by have := HK1.out; have := HK2.out; have := HK3.out; first | omega | exact Nat.le_refl _⟩, ⟨by (try simp only [hl7_2]); (try simp only [hl7_3]); (with_reducible repeat (first | apply Kd.R_alloc | apply Kd.R_drewN | apply Kd.R_drew)); exact HO_3.out⟩, ⟨by (try simp only [hl7_2]); (try simp only [hl7_3]); (with_reducible repeat (first | apply Kd.R_alloc | apply Kd.R_drewN | apply Kd.R_drew)); exact HO_7.out⟩, ⟨by (try simp only [hl7_2]); (try simp only [hl7_3]); (with_reducible repeat (first | apply Kd.R_alloc | apply Kd.R_drewN | apply Kd.R_drew)); exact HO_85.out⟩, ⟨by (try simp only [hl7_2]); (try simp only [hl7_3]); (with_reducible repeat (first | refine blk_drewN ?_ _ | refine blk_drew ?_ | refine blk_alloc ?_ _)); exact BK445.out⟩, ⟨by repeat (first | (with_reducible first | exact HB.out | apply below_alloc | apply pw_below_drewN | apply below_drew1 | refine below_set ?_ GE445.out) | exact HB.out)⟩⟩
                      ·
                       rw [if_neg c87] at H
                       have c87b0 : decide ((rd x7_3 x79_2) < 0) = false := decide_eq_false c87
                       clear c87
                       replace H := Option.bind_eq_some_iff.mp H
                       obtain ⟨t448, A910, H⟩ := H
                       replace H : (if 0 ≤ (wrap64 (x79_2 - t448)) then (if (wrap64 (x79_2 - t448)) < (x3_1.length : Int) then (impl_fewest.j5 k3 x3_1 x7_3 x79_2 (y437.length : Int) x79_2 t441 (t441.length : Int) x87_3 (decide ((wrap64 ((rd x3_1 (wrap64 (x79_2 - t448))) + 1)) < (rd x7_3 x79_2))) ((rd_T58 t441 x87_3).f0) ((rd_T58 t441 x87_3).f1)) else (none)) else (none)) = some r := H
                       have A91 := Aside0.mk A910
                       clear A910
                       obtain ⟨ji92, hji92⟩ : ∃ j_ : Int, (wrap64 (x79_2 - t448)) = j_ := ⟨_, rfl⟩
                       replace H : (if 0 ≤ (ji92) then (if (ji92) < (x3_1.length : Int) then (impl_fewest.j5 k3 x3_1 x7_3 x79_2 (y437.length : Int) x79_2 t441 (t441.length : Int) x87_3 (decide ((wrap64 ((rd x3_1 (ji92)) + 1)) < (rd x7_3 x79_2))) ((rd_T58 t441 x87_3).f0) ((rd_T58 t441 x87_3).f1)) else (none)) else (none)) = some r := by first | (rw [hji92] at H; exact H) | (simp only [hji92] at H ⊢; exact H)
                       (try rw [hji92] at A83)
                       (try rw [hji92] at A91)
                       have hji92w : (IntKind.i64.wrap (x79_2 - t448)) = ji92 := (i64_w _).trans hji92
                       by_cases c93 : 0 ≤ (ji92)
                       ·
                        rw [if_pos c93] at H
                        have c93b0 : decide (0 ≤ (ji92)) = true := decide_eq_true c93
                        clear c93
                        by_cases c94 : (ji92) < (x3_1.length : Int)
                        ·
                         rw [if_pos c94] at H
                         have c94b0 : decide ((ji92) < (x3_1.length : Int)) = true := decide_eq_true c94
                         clear c94
                         have H' := Aside0.mk H
                         clear H
                         try go_wp2
                         have n0_ : Aside0 (Kd.R (Kd.int .i64) 3 ((w80.setCell ⟨gb445, 0, none⟩ (.int .i64 ((rd_T58 t441 x87_3).f0))).setCell ⟨gb445, 1, none⟩ (.int .i64 ((rd_T58 t441 x87_3).f1))) w.heap.size (fun k_ => some k_ ≠ (.slice (some ⟨go70, 0, none⟩) x7_3.length co66 : Value).ownBlock) v419 x3_1) := ⟨by (with_reducible repeat (first | apply Kd.R_alloc | apply Kd.R_drewN | apply Kd.R_drew)); exact Kd.R_mono (Kd.R_far (p := ⟨gb445, 1, none⟩) (Kd.R_far (p := ⟨gb445, 0, none⟩) (Kd.R_types HO_3.out BK445.out (by decide)) (fun _ hk => hk.2) (.int .i64 ((rd_T58 t441 x87_3).f0))) (fun _ hk => hk.2) (.int .i64 ((rd_T58 t441 x87_3).f1))) (fun _ hk => hk.1)⟩
                         have n1_ : Aside0 (Kd.R (Kd.int .i64) 3 ((w80.setCell ⟨gb445, 0, none⟩ (.int .i64 ((rd_T58 t441 x87_3).f0))).setCell ⟨gb445, 1, none⟩ (.int .i64 ((rd_T58 t441 x87_3).f1))) w.heap.size (fun k_ => some k_ ≠ (v419 : Value).ownBlock) (.slice (some ⟨go70, 0, none⟩) x7_3.length co66) x7_3) := ⟨by (with_reducible repeat (first | apply Kd.R_alloc | apply Kd.R_drewN | apply Kd.R_drew)); exact Kd.R_mono (Kd.R_far (p := ⟨gb445, 1, none⟩) (Kd.R_far (p := ⟨gb445, 0, none⟩) (Kd.R_types HO_7.out BK445.out (by decide)) (fun _ hk => hk.2) (.int .i64 ((rd_T58 t441 x87_3).f0))) (fun _ hk => hk.2) (.int .i64 ((rd_T58 t441 x87_3).f1))) (fun _ hk => hk.1)⟩
                         have n2_ : Aside0 (Kd.R k58 58 ((w80.setCell ⟨gb445, 0, none⟩ (.int .i64 ((rd_T58 t441 x87_3).f0))).setCell ⟨gb445, 1, none⟩ (.int .i64 ((rd_T58 t441 x87_3).f1))) w.heap.size (fun k_ => k_ ≠ gb445) (.slice (some ad444) t441.length co75) t441) := ⟨by (with_reducible repeat (first | apply Kd.R_alloc | apply Kd.R_drewN | apply Kd.R_drew)); exact Kd.R_mono (Kd.R_far (p := ⟨gb445, 1, none⟩) (Kd.R_far (p := ⟨gb445, 0, none⟩) (Kd.R_mono HO_85.out (fun k_ hk => (⟨hk, hk.2⟩ : _ ∧ k_ ≠ gb445))) (fun _ hk => hk.2) (.int .i64 ((rd_T58 t441 x87_3).f0))) (fun _ hk => hk.2) (.int .i64 ((rd_T58 t441 x87_3).f1))) (fun _ hk => hk.1.2)⟩
                         have n3_ : Aside0 (((w80.setCell ⟨gb445, 0, none⟩ (.int .i64 ((rd_T58 t441 x87_3).f0))).setCell ⟨gb445, 1, none⟩ (.int .i64 ((rd_T58 t441 x87_3).f1))).heap[gb445]? = some (.cells #[.int .i64 ((rd_T58 t441 x87_3).f0), .int .i64 ((rd_T58 t441 x87_3).f1)] 58 (0, 0))) := ⟨by (with_reducible repeat (first | refine blk_drewN ?_ _ | refine blk_drew ?_ | refine blk_alloc ?_ _)); refine blk_put (cs := #[.int .i64 ((rd_T58 t441 x87_3).f0), .int .i64 0]) ?_ 1 _ rfl; (with_reducible repeat (first | refine blk_drewN ?_ _ | refine blk_drew ?_ | refine blk_alloc ?_ _)); refine blk_put (cs := #[.int .i64 0, .int .i64 0]) ?_ 0 _ rfl; (with_reducible repeat (first | refine blk_drewN ?_ _ | refine blk_drew ?_ | refine blk_alloc ?_ _)); exact BK445.out⟩
                         have n4_ : Aside0 (Below w.heap.size w ((w80.setCell ⟨gb445, 0, none⟩ (.int .i64 ((rd_T58 t441 x87_3).f0))).setCell ⟨gb445, 1, none⟩ (.int .i64 ((rd_T58 t441 x87_3).f1)))) := ⟨by repeat (first | (with_reducible first | exact HB.out | apply below_alloc | apply pw_below_drewN | apply below_drew1 | refine below_set ?_ GE445.out) | exact HB.out)⟩
                         (try clear HO_3)
                         (try clear HO_7)
                         (try clear HO_85)
                         (try clear BK445)
                         (try clear HB)
                         generalize ((w80.setCell ⟨gb445, 0, none⟩ (.int .i64 ((rd_T58 t441 x87_3).f0))).setCell ⟨gb445, 1, none⟩ (.int .i64 ((rd_T58 t441 x87_3).f1))) = w95 at n0_ n1_ n2_ n3_ n4_ ⊢
                         have HO_3 := n0_
                         have HO_7 := n1_
                         have HO_85 := n2_
                         have BK445 := n3_
                         have HB := n4_
                         clear n0_ n1_ n2_ n3_ n4_
                         have n0_ := Aside0.mk (Kd.R_drew HO_3.out)
                         have n1_ := Aside0.mk (Kd.R_drew HO_7.out)
                         have n2_ := Aside0.mk (Kd.R_drew HO_85.out)
                         have n3_ := Aside0.mk (blk_drew BK445.out)
                         have n4_ := Aside0.mk (below_drew1 HB.out)
                         clear HO_3; clear HO_7; clear HO_85; clear BK445; clear HB
                         have HO_3 := n0_
                         have HO_7 := n1_
                         have HO_85 := n2_
                         have BK445 := n3_
                         have HB := n4_
                         clear n0_ n1_ n2_ n3_ n4_
                         have p447 : 0 ≤ (x79_2 : Int) := of_decide_eq_true (by first | (with_reducible assumption) | assumption)
                         have q447 : x79_2 < (x7_3.length : Int) := of_decide_eq_true (by first | (with_reducible assumption) | assumption)
                         (try (obtain ⟨Az_, cz_, ez_⟩ := Kd.R_slice HO_7.out; subst ez_))
                         obtain ⟨ad447, e447, hx447_0⟩ := Kd.at_int (Kd.R_reads' HO_7.out).2.2 x79_2 p447 q447
                         obtain rfl : (⟨go70, 0, none⟩ : Addr) = ad447 := (by injection e447)
                         (first | simp only [add_plain] at hx447_0 | simp only [add_at] at hx447_0 | simp only [Addr.add, Nat.zero_add] at hx447_0 | skip)
                         replace p447 := eq_true p447
                         replace q447 := eq_true q447
                         have p449 : 0 ≤ ((ji92) : Int) := of_decide_eq_true (by first | (with_reducible assumption) | assumption)
                         have q449 : (ji92) < (x3_1.length : Int) := of_decide_eq_true (by first | (with_reducible assumption) | assumption)
                         (try (obtain ⟨Az_, cz_, ez_⟩ := Kd.R_slice HO_3.out; subst ez_))
                         obtain ⟨ad449, e449, hx449_0⟩ := Kd.at_int (Kd.R_reads' HO_3.out).2.2 (ji92) p449 q449
                         cases e449
                         replace p449 := eq_true p449
                         replace q449 := eq_true q449
                         have p450 : 0 ≤ (x79_2 : Int) := of_decide_eq_true (by first | (with_reducible assumption) | assumption)
                         have q450 : x79_2 < (x7_3.length : Int) := of_decide_eq_true (by first | (with_reducible assumption) | assumption)
                         (try (obtain ⟨Az_, cz_, ez_⟩ := Kd.R_slice HO_7.out; subst ez_))
                         obtain ⟨ad450, e450, hx450_0⟩ := Kd.at_int (Kd.R_reads' HO_7.out).2.2 x79_2 p450 q450
                         obtain rfl : (⟨go70, 0, none⟩ : Addr) = ad450 := (by injection e450)
                         (first | simp only [add_plain] at hx450_0 | simp only [add_at] at hx450_0 | simp only [Addr.add, Nat.zero_add] at hx450_0 | skip)
                         replace p450 := eq_true p450
                         replace q450 := eq_true q450
                         refine start_ (n := 31) (S := fun w' => w'.cell? ⟨gb445, 0, none⟩ = some (.int .i64 ((rd_T58 t441 x87_3).f0)) ∧ w'.cell? ⟨gb445, 1, none⟩ = some (.int .i64 ((rd_T58 t441 x87_3).f1)) ∧ w'.cell? ⟨go70, (x79_2).toNat, none⟩ = some (.int .i64 (rd x7_3 x79_2)) ∧ w'.cell? (ad449.add ((ji92)).toNat) = some (.int .i64 (rd x3_1 (ji92))) ∧ w'.cell? ⟨go70, (x79_2).toNat, none⟩ = some (.int .i64 (rd x7_3 x79_2))) (ds := []) impl_fewest.b46 (by kernel_rfl) rfl rfl ⟨(blk_cell BK445.out 0).trans rfl, (blk_cell BK445.out 1).trans rfl, hx447_0, hx449_0, hx450_0⟩ (fun hHeld => ?_); refine with_tabW impl_fewest.tab22 impl_fewest.bits22 (fun HT_ HW_ => ?_)
                         generalize w95.drew = w96 at HO_3 HO_7 HO_85 BK445 HB hx447_0 hx449_0 hx450_0 hHeld ⊢
                         refine pure_ (i := 0) (N := some 91) (v := ?_) (a' := ?_) impl_fewest.b47 rfl rfl (any_of HT_.out (by kernel_rfl)) (fun _ _ _ h => h) (Or.inl ⟨by rfl, ?_⟩) ?_ ?_; rotate_left
                         ·
                          intro w'; go_simp; with_reducible rfl
                         rotate_left
                         ·
                          simp only [Act.put, sA, sB, sC, i64_w, i32_w]; rfl
                         refine take_ (i := 1) (N := some 92) (v := ?_) (a' := ?_) impl_fewest.b48 rfl rfl (take_ofW HT_.out HW_.out (by kernel_rfl)) (fun _ _ _ h => h) (Or.inl ⟨by rfl, ?_⟩) hHeld ?_ ?_; rotate_left
                         ·
                          rintro w' ⟨s0, s1, s2, s3, s4⟩; go_simp; with_reducible rfl
                         rotate_left
                         ·
                          simp only [Act.put, sA, sB, sC, i64_w, i32_w]; rfl
                         refine pure_ (i := 2) (N := some 93) (v := ?_) (a' := ?_) impl_fewest.b49 rfl rfl (any_of HT_.out (by kernel_rfl)) (fun _ _ _ h => h) (Or.inl ⟨by rfl, ?_⟩) ?_ ?_; rotate_left
                         ·
                          intro w'; go_simp; with_reducible rfl
                         rotate_left
                         ·
                          simp only [Act.put, sA, sB, sC, i64_w, i32_w]; rfl
                         refine pure_ (i := 3) (N := some 94) (v := ?_) (a' := ?_) impl_fewest.b50 rfl rfl (any_of HT_.out (by kernel_rfl)) (fun _ _ _ h => h) (Or.inl ⟨by rfl, ?_⟩) ?_ ?_; rotate_left
                         ·
                          intro w'; go_simp; with_reducible rfl
                         rotate_left
                         ·
                          simp only [Act.put, sA, sB, sC, i64_w, i32_w]; rfl
                         refine pure_ (i := 6) (N := some 97) (v := ?_) (a' := ?_) impl_fewest.b51 rfl rfl (any_of HT_.out (by kernel_rfl)) (fun _ _ _ h => h) (Or.inl ⟨by rfl, ?_⟩) ?_ ?_; rotate_left
                         ·
                          intro w'; go_simp; with_reducible rfl
                         rotate_left
                         ·
                          simp only [Act.put, sA, sB, sC, i64_w, i32_w]; rfl
                         refine take_ (i := 4) (N := some 95) (v := ?_) (a' := ?_) impl_fewest.b52 rfl rfl (take_ofW HT_.out HW_.out (by kernel_rfl)) (fun _ _ _ h => h) (Or.inl ⟨by rfl, ?_⟩) hHeld ?_ ?_; rotate_left
                         ·
                          rintro w' ⟨s0, s1, s2, s3, s4⟩; go_simp; with_reducible rfl
                         rotate_left
                         ·
                          simp only [Act.put, sA, sB, sC, i64_w, i32_w]; rfl
                         refine one_ (i := 5) (N := some 96) impl_fewest.b53 rfl rfl (one_of HT_.out (by kernel_rfl)) (by decide) (fun K hK => ?_)
                         refine goes_ Try.func58 (by kernel_rfl) rfl #[.agg #[.int .i64 ((rd_T58 t441 x87_3).f0), .int .i64 ((rd_T58 t441 x87_3).f1)]] (by rfl) rfl rfl (by (try simp only [List.map_toArray, List.map_cons, List.map_nil]); first | done | rfl | (simp only [List.length_drop, List.length_take]; rfl)) ?_
                         with_reducible refine (impl_Dart_score.calls ((rd_T58 t441 x87_3).f0) ((rd_T58 t441 x87_3).f1) t446 _ A83.out).mono ?_
                         rintro e w97 ⟨rfl, hb⟩
                         have HS2_ := (hb.cell (World.block_lt_of_cell? _ _ (hHeld.2.2.1))).trans (hHeld.2.2.1)
                         have HS3_ := (hb.cell (World.block_lt_of_cell? _ _ (hHeld.2.2.2.1))).trans (hHeld.2.2.2.1)
                         have HS4_ := (hb.cell (World.block_lt_of_cell? _ _ (hHeld.2.2.2.2))).trans (hHeld.2.2.2.2)
                         refine ⟨_, rfl, ?_⟩
                         have n0_ := Aside0.mk (Kd.R_below (by (with_reducible repeat (first | apply Kd.R_alloc | apply Kd.R_drewN | apply Kd.R_drew)); exact HO_3.out) hb)
                         have n1_ := Aside0.mk (Kd.R_below (by (with_reducible repeat (first | apply Kd.R_alloc | apply Kd.R_drewN | apply Kd.R_drew)); exact HO_7.out) hb)
                         have n2_ := Aside0.mk (Kd.R_below (by (with_reducible repeat (first | apply Kd.R_alloc | apply Kd.R_drewN | apply Kd.R_drew)); exact HO_85.out) hb)
                         have n3_ := Aside0.mk (blk_below (g := gb445) (o := .cells #[.int .i64 ((rd_T58 t441 x87_3).f0), .int .i64 ((rd_T58 t441 x87_3).f1)] 58 (0, 0)) (by (with_reducible repeat (first | refine blk_drewN ?_ _ | refine blk_drew ?_ | refine blk_alloc ?_ _)); exact BK445.out) hb)
                         have n4_ := Aside0.mk (below_step (by repeat (first | (with_reducible first | exact HB.out | apply below_alloc | apply pw_below_drewN | apply below_drew1 | refine below_set ?_ GE445.out) | exact HB.out)) hb)
                         clear HO_3; clear HO_7; clear HO_85; clear BK445; clear HB
                         have HO_3 := n0_
                         have HO_7 := n1_
                         have HO_85 := n2_
                         have BK445 := n3_
                         have HB := n4_
                         clear n0_ n1_ n2_ n3_ n4_
                         (try clear hb)
                         (try clear hb2)
                         (try clear hk)
                         (try clear hi)
                         refine hK.out _ _ ⟨(blk_cell BK445.out 0).trans rfl, (blk_cell BK445.out 1).trans rfl, HS2_, HS3_, HS4_⟩ (fun hHeld => ?_); clear hK K
                         refine norm_ (a' := ?_) ?_ ?_; rotate_left
                         ·
                          show Act.put _ (some 96) _ = _
                          simp only [Act.put, sA, sB, sC, i64_w, i32_w]; rfl
                         refine pure_ (i := 7) (N := some 98) (v := ?_) (a' := ?_) impl_fewest.b54 rfl rfl (any_of HT_.out (by kernel_rfl)) (fun _ _ _ h => h) (Or.inl ⟨by rfl, ?_⟩) ?_ ?_; rotate_left
                         ·
                          intro w'; go_simp; with_reducible rfl
                         rotate_left
                         ·
                          simp only [Act.put, sA, sB, sC, i64_w, i32_w]; rfl
                         refine pure_ (i := 8) (N := some 99) (v := ?_) (a' := ?_) impl_fewest.b55 rfl rfl (any_of HT_.out (by kernel_rfl)) (fun _ _ _ h => h) (Or.inl ⟨by rfl, ?_⟩) ?_ ?_; rotate_left
                         ·
                          intro w'; go_simp; with_reducible rfl
                         rotate_left
                         ·
                          simp only [Act.put, sA, sB, sC, i64_w, i32_w]; rfl
                         refine pure_ (i := 9) (N := some 100) (v := ?_) (a' := ?_) impl_fewest.b56 rfl rfl (any_of HT_.out (by kernel_rfl)) (fun _ _ _ h => h) (Or.inl ⟨by rfl, ?_⟩) ?_ ?_; rotate_left
                         ·
                          intro w'; go_simp; with_reducible rfl
                         rotate_left
                         ·
                          simp only [Act.put, sA, sB, sC, i64_w, i32_w]; rfl
                         refine pure_ (i := 10) (N := some 101) (v := ?_) (a' := ?_) impl_fewest.b57 rfl rfl (any_of HT_.out (by kernel_rfl)) (fun _ _ _ h => h) (Or.inl ⟨by rfl, ?_⟩) ?_ ?_; rotate_left
                         ·
                          intro w'; go_simp; with_reducible rfl
                         rotate_left
                         ·
                          simp only [Act.put, sA, sB, sC, i64_w, i32_w]; rfl
                         refine pure_ (i := 11) (N := some 102) (v := ?_) (a' := ?_) impl_fewest.b58 rfl rfl (any_of HT_.out (by kernel_rfl)) (fun _ _ _ h => h) (Or.inl ⟨by rfl, ?_⟩) ?_ ?_; rotate_left
                         ·
                          intro w'; go_simp; with_reducible rfl
                         rotate_left
                         ·
                          simp only [Act.put, sA, sB, sC, i64_w, i32_w]; rfl
                         refine pure_ (i := 12) (N := some 103) (v := ?_) (a' := ?_) impl_fewest.b59 rfl rfl (any_of HT_.out (by kernel_rfl)) (fun _ _ _ h => h) (Or.inl ⟨by rfl, ?_⟩) ?_ ?_; rotate_left
                         ·
                          intro w'; go_simp; with_reducible rfl
                         rotate_left
                         ·
                          simp only [Act.put, sA, sB, sC, i64_w, i32_w]; rfl
                         refine take_ (i := 13) (N := some 104) (v := ?_) (a' := ?_) impl_fewest.b60 rfl rfl (take_ofW HT_.out HW_.out (by kernel_rfl)) (fun _ _ _ h => h) (Or.inl ⟨by rfl, ?_⟩) hHeld ?_ ?_; rotate_left
                         ·
                          rintro w' ⟨s0, s1, s2, s3, s4⟩; go_simp; with_reducible rfl
                         rotate_left
                         ·
                          simp only [Act.put, sA, sB, sC, i64_w, i32_w]; rfl
                         refine pure_ (i := 14) (N := some 105) (v := ?_) (a' := ?_) impl_fewest.b61 rfl rfl (any_of HT_.out (by kernel_rfl)) (fun _ _ _ h => h) (Or.inl ⟨by rfl, ?_⟩) ?_ ?_; rotate_left
                         ·
                          intro w'; go_simp; with_reducible rfl
                         rotate_left
                         ·
                          simp only [Act.put, sA, sB, sC, i64_w, i32_w]; rfl
                         refine pure_ (i := 15) (N := some 106) (v := ?_) (a' := ?_) impl_fewest.b62 rfl rfl (any_of HT_.out (by kernel_rfl)) (fun _ _ _ h => h) (Or.inl ⟨by rfl, ?_⟩) ?_ ?_; rotate_left
                         ·
                          intro w'; go_simp; with_reducible rfl
                         rotate_left
                         ·
                          simp only [Act.put, sA, sB, sC, i64_w, i32_w]; rfl
                         refine pure_ (i := 16) (N := some 107) (v := ?_) (a' := ?_) impl_fewest.b63 rfl rfl (any_of HT_.out (by kernel_rfl)) (fun _ _ _ h => h) (Or.inl ⟨by rfl, ?_⟩) ?_ ?_; rotate_left
                         ·
                          intro w'; go_simp; with_reducible rfl
                         rotate_left
                         ·
                          simp only [Act.put, sA, sB, sC, i64_w, i32_w]; rfl
                         refine pure_ (i := 17) (N := some 108) (v := ?_) (a' := ?_) impl_fewest.b64 rfl rfl (any_of HT_.out (by kernel_rfl)) (fun _ _ _ h => h) (Or.inl ⟨by rfl, ?_⟩) ?_ ?_; rotate_left
                         ·
                          intro w'; go_simp; with_reducible rfl
                         rotate_left
                         ·
                          simp only [Act.put, sA, sB, sC, i64_w, i32_w]; rfl
                         refine pure_ (i := 24) (N := some 115) (v := ?_) (a' := ?_) impl_fewest.b78 rfl rfl (any_of HT_.out (by kernel_rfl)) (fun _ _ _ h => h) (Or.inl ⟨by rfl, ?_⟩) ?_ ?_; rotate_left
                         ·
                          intro w'; go_simp; with_reducible rfl
                         rotate_left
                         ·
                          simp only [Act.put, sA, sB, sC, i64_w, i32_w]; rfl
                         refine pure_ (i := 25) (N := some 116) (v := ?_) (a' := ?_) impl_fewest.b79 rfl rfl (any_of HT_.out (by kernel_rfl)) (fun _ _ _ h => h) (Or.inl ⟨by rfl, ?_⟩) ?_ ?_; rotate_left
                         ·
                          intro w'; go_simp; with_reducible rfl
                         rotate_left
                         ·
                          simp only [Act.put, sA, sB, sC, i64_w, i32_w]; rfl
                         refine pure_ (i := 26) (N := some 117) (v := ?_) (a' := ?_) impl_fewest.b80 rfl rfl (any_of HT_.out (by kernel_rfl)) (fun _ _ _ h => h) (Or.inl ⟨by rfl, ?_⟩) ?_ ?_; rotate_left
                         ·
                          intro w'; go_simp; with_reducible rfl
                         rotate_left
                         ·
                          simp only [Act.put, sA, sB, sC, i64_w, i32_w]; rfl
                         refine take_ (i := 18) (N := some 109) (v := ?_) (a' := ?_) impl_fewest.b81 rfl rfl (take_ofW HT_.out HW_.out (by kernel_rfl)) (fun _ _ _ h => h) (Or.inl ⟨by rfl, ?_⟩) hHeld ?_ ?_; rotate_left
                         ·
                          rintro w' ⟨s0, s1, s2, s3, s4⟩; go_simp; with_reducible rfl
                         rotate_left
                         ·
                          simp only [Act.put, sA, sB, sC, i64_w, i32_w]; rfl
                         refine take_ (i := 27) (N := some 118) (v := ?_) (a' := ?_) impl_fewest.b82 rfl rfl (take_ofW HT_.out HW_.out (by kernel_rfl)) (fun _ _ _ h => h) (Or.inl ⟨by rfl, ?_⟩) hHeld ?_ ?_; rotate_left
                         ·
                          rintro w' ⟨s0, s1, s2, s3, s4⟩; go_simp; with_reducible rfl
                         rotate_left
                         ·
                          simp only [Act.put, sA, sB, sC, i64_w, i32_w]; rfl
                         refine one_ (i := 19) (N := some 110) impl_fewest.b83 rfl rfl (one_of HT_.out (by kernel_rfl)) (by decide) (fun K hK => ?_)
                         refine goes_ Try.func58 (by kernel_rfl) rfl #[.agg #[.int .i64 ((rd_T58 t441 x87_3).f0), .int .i64 ((rd_T58 t441 x87_3).f1)]] (by rfl) rfl rfl (by (try simp only [List.map_toArray, List.map_cons, List.map_nil]); first | done | rfl | (simp only [List.length_drop, List.length_take]; rfl)) ?_
                         with_reducible refine (impl_Dart_score.calls ((rd_T58 t441 x87_3).f0) ((rd_T58 t441 x87_3).f1) t448 _ A91.out).mono ?_
                         rintro e w98 ⟨rfl, hb⟩
                         have HS2_ := (hb.cell (World.block_lt_of_cell? _ _ (hHeld.2.2.1))).trans (hHeld.2.2.1)
                         have HS3_ := (hb.cell (World.block_lt_of_cell? _ _ (hHeld.2.2.2.1))).trans (hHeld.2.2.2.1)
                         have HS4_ := (hb.cell (World.block_lt_of_cell? _ _ (hHeld.2.2.2.2))).trans (hHeld.2.2.2.2)
                         refine ⟨_, rfl, ?_⟩
                         have n0_ := Aside0.mk (Kd.R_below (by (with_reducible repeat (first | apply Kd.R_alloc | apply Kd.R_drewN | apply Kd.R_drew)); exact HO_3.out) hb)
                         have n1_ := Aside0.mk (Kd.R_below (by (with_reducible repeat (first | apply Kd.R_alloc | apply Kd.R_drewN | apply Kd.R_drew)); exact HO_7.out) hb)
                         have n2_ := Aside0.mk (Kd.R_below (by (with_reducible repeat (first | apply Kd.R_alloc | apply Kd.R_drewN | apply Kd.R_drew)); exact HO_85.out) hb)
                         have n3_ := Aside0.mk (blk_below (g := gb445) (o := .cells #[.int .i64 ((rd_T58 t441 x87_3).f0), .int .i64 ((rd_T58 t441 x87_3).f1)] 58 (0, 0)) (by (with_reducible repeat (first | refine blk_drewN ?_ _ | refine blk_drew ?_ | refine blk_alloc ?_ _)); exact BK445.out) hb)
                         have n4_ := Aside0.mk (below_step (by repeat (first | (with_reducible first | exact HB.out | apply below_alloc | apply pw_below_drewN | apply below_drew1 | refine below_set ?_ GE445.out) | exact HB.out)) hb)
                         clear HO_3; clear HO_7; clear HO_85; clear BK445; clear HB
                         have HO_3 := n0_
                         have HO_7 := n1_
                         have HO_85 := n2_
                         have BK445 := n3_
                         have HB := n4_
                         clear n0_ n1_ n2_ n3_ n4_
                         (try clear hb)
                         (try clear hb2)
                         (try clear hk)
                         (try clear hi)
                         obtain ⟨Ao99, co99, eo99⟩ := Kd.R_slice HO_3.out
                         (first | subst eo99 | (injection eo99 with f1_ f2_ f3_; have f4_ := f1_.symm; have f5_ := f3_.symm; clear f1_ f2_ f3_; subst f4_; subst f5_))
                         refine hK.out _ _ ⟨(blk_cell BK445.out 0).trans rfl, (blk_cell BK445.out 1).trans rfl, HS2_, HS3_, HS4_⟩ (fun hHeld => ?_); clear hK K
                         refine norm_ (a' := ?_) ?_ ?_; rotate_left
                         ·
                          show Act.put _ (some 110) _ = _
                          simp only [Act.put, sA, sB, sC, i64_w, i32_w]; rfl
                         refine pure_ (i := 20) (N := some 111) (v := ?_) (a' := ?_) impl_fewest.b84 rfl rfl (any_of HT_.out (by kernel_rfl)) (fun _ _ _ h => h) (Or.inl ⟨by rfl, ?_⟩) ?_ ?_; rotate_left
                         ·
                          intro w'; go_simp; with_reducible rfl
                         rotate_left
                         ·
                          simp only [Act.put, sA, sB, sC, i64_w, i32_w]; rfl
                         refine pure_ (i := 21) (N := some 112) (v := ?_) (a' := ?_) impl_fewest.b85 rfl rfl (any_of HT_.out (by kernel_rfl)) (fun _ _ _ h => h) (Or.inl ⟨by rfl, ?_⟩) ?_ ?_; rotate_left
                         ·
                          intro w'; go_simp; with_reducible rfl
                         rotate_left
                         ·
                          simp only [Act.put, sA, sB, sC, i64_w, i32_w]; rfl
                         refine take_ (i := 22) (N := some 113) (v := ?_) (a' := ?_) impl_fewest.b86 rfl rfl (take_ofW HT_.out HW_.out (by kernel_rfl)) (fun _ _ _ h => h) (Or.inl ⟨by rfl, ?_⟩) hHeld ?_ ?_; rotate_left
                         ·
                          rintro w' ⟨s0, s1, s2, s3, s4⟩; go_simp; with_reducible rfl
                         rotate_left
                         ·
                          simp only [Act.put, sA, sB, sC, i64_w, i32_w]; rfl
                         refine pure_ (i := 23) (N := some 114) (v := ?_) (a' := ?_) impl_fewest.b74 rfl rfl (any_of HT_.out (by kernel_rfl)) (fun _ _ _ h => h) (Or.inl ⟨by rfl, ?_⟩) ?_ ?_; rotate_left
                         ·
                          intro w'; go_simp; with_reducible rfl
                         rotate_left
                         ·
                          simp only [Act.put, sA, sB, sC, i64_w, i32_w]; rfl
                         refine pure_ (i := 28) (N := some 119) (v := ?_) (a' := ?_) impl_fewest.b75 rfl rfl (any_of HT_.out (by kernel_rfl)) (fun _ _ _ h => h) (Or.inl ⟨by rfl, ?_⟩) ?_ ?_; rotate_left
                         ·
                          intro w'; go_simp; with_reducible rfl
                         rotate_left
                         ·
                          simp only [Act.put, sA, sB, sC, i64_w, i32_w]; rfl
                         refine pure_ (i := 29) (N := some 120) (v := ?_) (a' := ?_) impl_fewest.b76 rfl rfl (any_of HT_.out (by kernel_rfl)) (fun _ _ _ h => h) (Or.inl ⟨by rfl, ?_⟩) ?_ ?_; rotate_left
                         ·
                          intro w'; go_simp; with_reducible rfl
                         rotate_left
                         ·
                          simp only [Act.put, sA, sB, sC, i64_w, i32_w]; rfl
                         refine pure_ (i := 30) (N := some 121) (v := ?_) (a' := ?_) impl_fewest.b77 rfl rfl (any_of HT_.out (by kernel_rfl)) (fun _ _ _ h => h) (Or.inl ⟨by rfl, ?_⟩) ?_ ?_; rotate_left
                         ·
                          intro w'; go_simp; with_reducible rfl
                         rotate_left
                         ·
                          simp only [Act.put, sA, sB, sC, i64_w, i32_w]; rfl
                         refine done_ (done_of HT_.out (by kernel_rfl)) ?_
                         try go_wp2
                         go_meet
                         case rel => exact ⟨_, (decide ((wrap64 ((rd x3_1 (ji92)) + 1)) < (rd x7_3 x79_2))), (by first | rfl | (simp; done) | (simp only [← hji92] <;> (first | rfl | simp)) | (simp [*]; done)), H', ⟨by have := HK1.out; have := HK2.out; have := HK3.out; first | omega | exact Nat.le_refl _⟩, ⟨by (try simp only [hl7_2]); (try simp only [hl7_3]); (with_reducible repeat (first | apply Kd.R_alloc | apply Kd.R_drewN | apply Kd.R_drew)); exact HO_3.out⟩, ⟨by (try simp only [hl7_2]); (try simp only [hl7_3]); (with_reducible repeat (first | apply Kd.R_alloc | apply Kd.R_drewN | apply Kd.R_drew)); exact HO_7.out⟩, ⟨by (try simp only [hl7_2]); (try simp only [hl7_3]); (with_reducible repeat (first | apply Kd.R_alloc | apply Kd.R_drewN | apply Kd.R_drew)); exact HO_85.out⟩, ⟨by (try simp only [hl7_2]); (try simp only [hl7_3]); (with_reducible repeat (first | refine blk_drewN ?_ _ | refine blk_drew ?_ | refine blk_alloc ?_ _)); exact BK445.out⟩, ⟨by repeat (first | (with_reducible first | exact HB.out | apply below_alloc | apply pw_below_drewN | apply below_drew1 | refine below_set ?_ GE445.out) | exact HB.out)⟩⟩
                        ·
                         rw [if_neg c94] at H
                         exact absurd H (by simp)
                       ·
                        rw [if_neg c93] at H
                        exact absurd H (by simp)
                     ·
                      rw [if_neg c86] at H
                      exact absurd H (by simp)
                    ·
                     rw [if_neg c85] at H
                     exact absurd H (by simp)
                   ·
                    rw [if_neg c84] at H
                    have c84b0 : decide (t446 ≤ x79_2) = false := decide_eq_false c84
                    clear c84
                    have H' := Aside0.mk H
                    clear H
                    try go_wp2
                    have n0_ : Aside0 (Kd.R (Kd.int .i64) 3 ((w80.setCell ⟨gb445, 0, none⟩ (.int .i64 ((rd_T58 t441 x87_3).f0))).setCell ⟨gb445, 1, none⟩ (.int .i64 ((rd_T58 t441 x87_3).f1))) w.heap.size (fun k_ => some k_ ≠ (.slice (some ⟨go70, 0, none⟩) x7_3.length co66 : Value).ownBlock) v419 x3_1) := ⟨by (with_reducible repeat (first | apply Kd.R_alloc | apply Kd.R_drewN | apply Kd.R_drew)); exact Kd.R_mono (Kd.R_far (p := ⟨gb445, 1, none⟩) (Kd.R_far (p := ⟨gb445, 0, none⟩) (Kd.R_types HO_3.out BK445.out (by decide)) (fun _ hk => hk.2) (.int .i64 ((rd_T58 t441 x87_3).f0))) (fun _ hk => hk.2) (.int .i64 ((rd_T58 t441 x87_3).f1))) (fun _ hk => hk.1)⟩
                    have n1_ : Aside0 (Kd.R (Kd.int .i64) 3 ((w80.setCell ⟨gb445, 0, none⟩ (.int .i64 ((rd_T58 t441 x87_3).f0))).setCell ⟨gb445, 1, none⟩ (.int .i64 ((rd_T58 t441 x87_3).f1))) w.heap.size (fun k_ => some k_ ≠ (v419 : Value).ownBlock) (.slice (some ⟨go70, 0, none⟩) x7_3.length co66) x7_3) := ⟨by (with_reducible repeat (first | apply Kd.R_alloc | apply Kd.R_drewN | apply Kd.R_drew)); exact Kd.R_mono (Kd.R_far (p := ⟨gb445, 1, none⟩) (Kd.R_far (p := ⟨gb445, 0, none⟩) (Kd.R_types HO_7.out BK445.out (by decide)) (fun _ hk => hk.2) (.int .i64 ((rd_T58 t441 x87_3).f0))) (fun _ hk => hk.2) (.int .i64 ((rd_T58 t441 x87_3).f1))) (fun _ hk => hk.1)⟩
                    have n2_ : Aside0 (Kd.R k58 58 ((w80.setCell ⟨gb445, 0, none⟩ (.int .i64 ((rd_T58 t441 x87_3).f0))).setCell ⟨gb445, 1, none⟩ (.int .i64 ((rd_T58 t441 x87_3).f1))) w.heap.size (fun k_ => k_ ≠ gb445) (.slice (some ad444) t441.length co75) t441) := ⟨by (with_reducible repeat (first | apply Kd.R_alloc | apply Kd.R_drewN | apply Kd.R_drew)); exact Kd.R_mono (Kd.R_far (p := ⟨gb445, 1, none⟩) (Kd.R_far (p := ⟨gb445, 0, none⟩) (Kd.R_mono HO_85.out (fun k_ hk => (⟨hk, hk.2⟩ : _ ∧ k_ ≠ gb445))) (fun _ hk => hk.2) (.int .i64 ((rd_T58 t441 x87_3).f0))) (fun _ hk => hk.2) (.int .i64 ((rd_T58 t441 x87_3).f1))) (fun _ hk => hk.1.2)⟩
                    have n3_ : Aside0 (((w80.setCell ⟨gb445, 0, none⟩ (.int .i64 ((rd_T58 t441 x87_3).f0))).setCell ⟨gb445, 1, none⟩ (.int .i64 ((rd_T58 t441 x87_3).f1))).heap[gb445]? = some (.cells #[.int .i64 ((rd_T58 t441 x87_3).f0), .int .i64 ((rd_T58 t441 x87_3).f1)] 58 (0, 0))) := ⟨by (with_reducible repeat (first | refine blk_drewN ?_ _ | refine blk_drew ?_ | refine blk_alloc ?_ _)); refine blk_put (cs := #[.int .i64 ((rd_T58 t441 x87_3).f0), .int .i64 0]) ?_ 1 _ rfl; (with_reducible repeat (first | refine blk_drewN ?_ _ | refine blk_drew ?_ | refine blk_alloc ?_ _)); refine blk_put (cs := #[.int .i64 0, .int .i64 0]) ?_ 0 _ rfl; (with_reducible repeat (first | refine blk_drewN ?_ _ | refine blk_drew ?_ | refine blk_alloc ?_ _)); exact BK445.out⟩
                    have n4_ : Aside0 (Below w.heap.size w ((w80.setCell ⟨gb445, 0, none⟩ (.int .i64 ((rd_T58 t441 x87_3).f0))).setCell ⟨gb445, 1, none⟩ (.int .i64 ((rd_T58 t441 x87_3).f1)))) := ⟨by repeat (first | (with_reducible first | exact HB.out | apply below_alloc | apply pw_below_drewN | apply below_drew1 | refine below_set ?_ GE445.out) | exact HB.out)⟩
                    (try clear HO_3)
                    (try clear HO_7)
                    (try clear HO_85)
                    (try clear BK445)
                    (try clear HB)
                    generalize ((w80.setCell ⟨gb445, 0, none⟩ (.int .i64 ((rd_T58 t441 x87_3).f0))).setCell ⟨gb445, 1, none⟩ (.int .i64 ((rd_T58 t441 x87_3).f1))) = w100 at n0_ n1_ n2_ n3_ n4_ ⊢
                    have HO_3 := n0_
                    have HO_7 := n1_
                    have HO_85 := n2_
                    have BK445 := n3_
                    have HB := n4_
                    clear n0_ n1_ n2_ n3_ n4_
                    have n0_ := Aside0.mk (Kd.R_drew HO_3.out)
                    have n1_ := Aside0.mk (Kd.R_drew HO_7.out)
                    have n2_ := Aside0.mk (Kd.R_drew HO_85.out)
                    have n3_ := Aside0.mk (blk_drew BK445.out)
                    have n4_ := Aside0.mk (below_drew1 HB.out)
                    clear HO_3; clear HO_7; clear HO_85; clear BK445; clear HB
                    have HO_3 := n0_
                    have HO_7 := n1_
                    have HO_85 := n2_
                    have BK445 := n3_
                    have HB := n4_
                    clear n0_ n1_ n2_ n3_ n4_
                    refine start_ (n := 31) (S := fun w' => w'.cell? ⟨gb445, 0, none⟩ = some (.int .i64 ((rd_T58 t441 x87_3).f0)) ∧ w'.cell? ⟨gb445, 1, none⟩ = some (.int .i64 ((rd_T58 t441 x87_3).f1))) (ds := []) impl_fewest.b46 (by kernel_rfl) rfl rfl ⟨(blk_cell BK445.out 0).trans rfl, (blk_cell BK445.out 1).trans rfl⟩ (fun hHeld => ?_); refine with_tabW impl_fewest.tab22 impl_fewest.bits22 (fun HT_ HW_ => ?_)
                    generalize w100.drew = w101 at HO_3 HO_7 HO_85 BK445 HB hHeld ⊢
                    refine pure_ (i := 0) (N := some 91) (v := ?_) (a' := ?_) impl_fewest.b47 rfl rfl (any_of HT_.out (by kernel_rfl)) (fun _ _ _ h => h) (Or.inl ⟨by rfl, ?_⟩) ?_ ?_; rotate_left
                    ·
                     intro w'; go_simp; with_reducible rfl
                    rotate_left
                    ·
                     simp only [Act.put, sA, sB, sC, i64_w, i32_w]; rfl
                    refine take_ (i := 1) (N := some 92) (v := ?_) (a' := ?_) impl_fewest.b48 rfl rfl (take_ofW HT_.out HW_.out (by kernel_rfl)) (fun _ _ _ h => h) (Or.inl ⟨by rfl, ?_⟩) hHeld ?_ ?_; rotate_left
                    ·
                     rintro w' ⟨s0, s1⟩; go_simp; with_reducible rfl
                    rotate_left
                    ·
                     simp only [Act.put, sA, sB, sC, i64_w, i32_w]; rfl
                    refine pure_ (i := 2) (N := some 93) (v := ?_) (a' := ?_) impl_fewest.b49 rfl rfl (any_of HT_.out (by kernel_rfl)) (fun _ _ _ h => h) (Or.inl ⟨by rfl, ?_⟩) ?_ ?_; rotate_left
                    ·
                     intro w'; go_simp; with_reducible rfl
                    rotate_left
                    ·
                     simp only [Act.put, sA, sB, sC, i64_w, i32_w]; rfl
                    refine pure_ (i := 3) (N := some 94) (v := ?_) (a' := ?_) impl_fewest.b50 rfl rfl (any_of HT_.out (by kernel_rfl)) (fun _ _ _ h => h) (Or.inl ⟨by rfl, ?_⟩) ?_ ?_; rotate_left
                    ·
                     intro w'; go_simp; with_reducible rfl
                    rotate_left
                    ·
                     simp only [Act.put, sA, sB, sC, i64_w, i32_w]; rfl
                    refine pure_ (i := 6) (N := some 97) (v := ?_) (a' := ?_) impl_fewest.b51 rfl rfl (any_of HT_.out (by kernel_rfl)) (fun _ _ _ h => h) (Or.inl ⟨by rfl, ?_⟩) ?_ ?_; rotate_left
                    ·
                     intro w'; go_simp; with_reducible rfl
                    rotate_left
                    ·
                     simp only [Act.put, sA, sB, sC, i64_w, i32_w]; rfl
                    refine take_ (i := 4) (N := some 95) (v := ?_) (a' := ?_) impl_fewest.b52 rfl rfl (take_ofW HT_.out HW_.out (by kernel_rfl)) (fun _ _ _ h => h) (Or.inl ⟨by rfl, ?_⟩) hHeld ?_ ?_; rotate_left
                    ·
                     rintro w' ⟨s0, s1⟩; go_simp; with_reducible rfl
                    rotate_left
                    ·
                     simp only [Act.put, sA, sB, sC, i64_w, i32_w]; rfl
                    refine one_ (i := 5) (N := some 96) impl_fewest.b53 rfl rfl (one_of HT_.out (by kernel_rfl)) (by decide) (fun K hK => ?_)
                    refine goes_ Try.func58 (by kernel_rfl) rfl #[.agg #[.int .i64 ((rd_T58 t441 x87_3).f0), .int .i64 ((rd_T58 t441 x87_3).f1)]] (by rfl) rfl rfl (by (try simp only [List.map_toArray, List.map_cons, List.map_nil]); first | done | rfl | (simp only [List.length_drop, List.length_take]; rfl)) ?_
                    with_reducible refine (impl_Dart_score.calls ((rd_T58 t441 x87_3).f0) ((rd_T58 t441 x87_3).f1) t446 _ A83.out).mono ?_
                    rintro e w102 ⟨rfl, hb⟩
                    refine ⟨_, rfl, ?_⟩
                    have n0_ := Aside0.mk (Kd.R_below (by (with_reducible repeat (first | apply Kd.R_alloc | apply Kd.R_drewN | apply Kd.R_drew)); exact HO_3.out) hb)
                    have n1_ := Aside0.mk (Kd.R_below (by (with_reducible repeat (first | apply Kd.R_alloc | apply Kd.R_drewN | apply Kd.R_drew)); exact HO_7.out) hb)
                    have n2_ := Aside0.mk (Kd.R_below (by (with_reducible repeat (first | apply Kd.R_alloc | apply Kd.R_drewN | apply Kd.R_drew)); exact HO_85.out) hb)
                    have n3_ := Aside0.mk (blk_below (g := gb445) (o := .cells #[.int .i64 ((rd_T58 t441 x87_3).f0), .int .i64 ((rd_T58 t441 x87_3).f1)] 58 (0, 0)) (by (with_reducible repeat (first | refine blk_drewN ?_ _ | refine blk_drew ?_ | refine blk_alloc ?_ _)); exact BK445.out) hb)
                    have n4_ := Aside0.mk (below_step (by repeat (first | (with_reducible first | exact HB.out | apply below_alloc | apply pw_below_drewN | apply below_drew1 | refine below_set ?_ GE445.out) | exact HB.out)) hb)
                    clear HO_3; clear HO_7; clear HO_85; clear BK445; clear HB
                    have HO_3 := n0_
                    have HO_7 := n1_
                    have HO_85 := n2_
                    have BK445 := n3_
                    have HB := n4_
                    clear n0_ n1_ n2_ n3_ n4_
                    (try clear hb)
                    (try clear hb2)
                    (try clear hk)
                    (try clear hi)
                    refine hK.out _ _ ⟨(blk_cell BK445.out 0).trans rfl, (blk_cell BK445.out 1).trans rfl⟩ (fun hHeld => ?_); clear hK K
                    refine norm_ (a' := ?_) ?_ ?_; rotate_left
                    ·
                     show Act.put _ (some 96) _ = _
                     simp only [Act.put, sA, sB, sC, i64_w, i32_w]; rfl
                    refine pure_ (i := 7) (N := some 98) (v := ?_) (a' := ?_) impl_fewest.b54 rfl rfl (any_of HT_.out (by kernel_rfl)) (fun _ _ _ h => h) (Or.inl ⟨by rfl, ?_⟩) ?_ ?_; rotate_left
                    ·
                     intro w'; go_simp; with_reducible rfl
                    rotate_left
                    ·
                     simp only [Act.put, sA, sB, sC, i64_w, i32_w]; rfl
                    refine pure_ (i := 8) (N := some 99) (v := ?_) (a' := ?_) impl_fewest.b55 rfl rfl (any_of HT_.out (by kernel_rfl)) (fun _ _ _ h => h) (Or.inl ⟨by rfl, ?_⟩) ?_ ?_; rotate_left
                    ·
                     intro w'; go_simp; with_reducible rfl
                    rotate_left
                    ·
                     simp only [Act.put, sA, sB, sC, i64_w, i32_w]; rfl
                    refine pure_ (i := 9) (N := some 100) (v := ?_) (a' := ?_) impl_fewest.b56 rfl rfl (any_of HT_.out (by kernel_rfl)) (fun _ _ _ h => h) (Or.inl ⟨by rfl, ?_⟩) ?_ ?_; rotate_left
                    ·
                     intro w'; go_simp; with_reducible rfl
                    rotate_left
                    ·
                     simp only [Act.put, sA, sB, sC, i64_w, i32_w]; rfl
                    refine pure_ (i := 10) (N := some 101) (v := undef) (a' := ?_) impl_fewest.b57 rfl rfl (any_of HT_.out (by kernel_rfl)) (fun _ _ _ h => h) (Or.inr ⟨by rfl, rfl⟩) ?_ ?_; rotate_left
                    ·
                     simp only [Act.put, sA, sB, sC, i64_w, i32_w]; rfl
                    refine pure_ (i := 11) (N := some 102) (v := undef) (a' := ?_) impl_fewest.b58 rfl rfl (any_of HT_.out (by kernel_rfl)) (fun _ _ _ h => h) (Or.inr ⟨by rfl, rfl⟩) ?_ ?_; rotate_left
                    ·
                     simp only [Act.put, sA, sB, sC, i64_w, i32_w]; rfl
                    refine pure_ (i := 12) (N := some 103) (v := undef) (a' := ?_) impl_fewest.b59 rfl rfl (any_of HT_.out (by kernel_rfl)) (fun _ _ _ h => h) (Or.inr ⟨by rfl, rfl⟩) ?_ ?_; rotate_left
                    ·
                     simp only [Act.put, sA, sB, sC, i64_w, i32_w]; rfl
                    refine pure_ (i := 13) (N := some 104) (v := undef) (a' := ?_) impl_fewest.b60 rfl rfl (any_of HT_.out (by kernel_rfl)) (fun _ _ _ h => h) (Or.inr ⟨by rfl, rfl⟩) ?_ ?_; rotate_left
                    ·
                     simp only [Act.put, sA, sB, sC, i64_w, i32_w]; rfl
                    refine pure_ (i := 14) (N := some 105) (v := undef) (a' := ?_) impl_fewest.b61 rfl rfl (any_of HT_.out (by kernel_rfl)) (fun _ _ _ h => h) (Or.inr ⟨by rfl, rfl⟩) ?_ ?_; rotate_left
                    ·
                     simp only [Act.put, sA, sB, sC, i64_w, i32_w]; rfl
                    refine pure_ (i := 15) (N := some 106) (v := undef) (a' := ?_) impl_fewest.b62 rfl rfl (any_of HT_.out (by kernel_rfl)) (fun _ _ _ h => h) (Or.inr ⟨by rfl, rfl⟩) ?_ ?_; rotate_left
                    ·
                     simp only [Act.put, sA, sB, sC, i64_w, i32_w]; rfl
                    refine pure_ (i := 16) (N := some 107) (v := undef) (a' := ?_) impl_fewest.b63 rfl rfl (any_of HT_.out (by kernel_rfl)) (fun _ _ _ h => h) (Or.inr ⟨by rfl, rfl⟩) ?_ ?_; rotate_left
                    ·
                     simp only [Act.put, sA, sB, sC, i64_w, i32_w]; rfl
                    refine pure_ (i := 17) (N := some 108) (v := undef) (a' := ?_) impl_fewest.b64 rfl rfl (any_of HT_.out (by kernel_rfl)) (fun _ _ _ h => h) (Or.inr ⟨by rfl, rfl⟩) ?_ ?_; rotate_left
                    ·
                     simp only [Act.put, sA, sB, sC, i64_w, i32_w]; rfl
                    refine pure_ (i := 18) (N := some 109) (v := undef) (a' := ?_) impl_fewest.b65 rfl rfl (any_of HT_.out (by kernel_rfl)) (fun _ _ _ h => h) (Or.inr ⟨by rfl, rfl⟩) ?_ ?_; rotate_left
                    ·
                     simp only [Act.put, sA, sB, sC, i64_w, i32_w]; rfl
                    refine pure_ (i := 19) (N := some 110) (v := undef) (a' := ?_) impl_fewest.b66 rfl rfl (any_of HT_.out (by kernel_rfl)) (fun _ _ _ h => h) (Or.inr ⟨by rfl, rfl⟩) ?_ ?_; rotate_left
                    ·
                     simp only [Act.put, sA, sB, sC, i64_w, i32_w]; rfl
                    refine pure_ (i := 20) (N := some 111) (v := undef) (a' := ?_) impl_fewest.b67 rfl rfl (any_of HT_.out (by kernel_rfl)) (fun _ _ _ h => h) (Or.inr ⟨by rfl, rfl⟩) ?_ ?_; rotate_left
                    ·
                     simp only [Act.put, sA, sB, sC, i64_w, i32_w]; rfl
                    refine pure_ (i := 21) (N := some 112) (v := undef) (a' := ?_) impl_fewest.b68 rfl rfl (any_of HT_.out (by kernel_rfl)) (fun _ _ _ h => h) (Or.inr ⟨by rfl, rfl⟩) ?_ ?_; rotate_left
                    ·
                     simp only [Act.put, sA, sB, sC, i64_w, i32_w]; rfl
                    refine pure_ (i := 22) (N := some 113) (v := undef) (a' := ?_) impl_fewest.b69 rfl rfl (any_of HT_.out (by kernel_rfl)) (fun _ _ _ h => h) (Or.inr ⟨by rfl, rfl⟩) ?_ ?_; rotate_left
                    ·
                     simp only [Act.put, sA, sB, sC, i64_w, i32_w]; rfl
                    refine pure_ (i := 23) (N := some 114) (v := undef) (a' := ?_) impl_fewest.b70 rfl rfl (any_of HT_.out (by kernel_rfl)) (fun _ _ _ h => h) (Or.inr ⟨by rfl, rfl⟩) ?_ ?_; rotate_left
                    ·
                     simp only [Act.put, sA, sB, sC, i64_w, i32_w]; rfl
                    refine pure_ (i := 24) (N := some 115) (v := undef) (a' := ?_) impl_fewest.b71 rfl rfl (any_of HT_.out (by kernel_rfl)) (fun _ _ _ h => h) (Or.inr ⟨by rfl, rfl⟩) ?_ ?_; rotate_left
                    ·
                     simp only [Act.put, sA, sB, sC, i64_w, i32_w]; rfl
                    refine pure_ (i := 25) (N := some 116) (v := undef) (a' := ?_) impl_fewest.b72 rfl rfl (any_of HT_.out (by kernel_rfl)) (fun _ _ _ h => h) (Or.inr ⟨by rfl, rfl⟩) ?_ ?_; rotate_left
                    ·
                     simp only [Act.put, sA, sB, sC, i64_w, i32_w]; rfl
                    refine pure_ (i := 26) (N := some 117) (v := undef) (a' := ?_) impl_fewest.b73 rfl rfl (any_of HT_.out (by kernel_rfl)) (fun _ _ _ h => h) (Or.inr ⟨by rfl, rfl⟩) ?_ ?_; rotate_left
                    ·
                     simp only [Act.put, sA, sB, sC, i64_w, i32_w]; rfl
                    refine pure_ (i := 27) (N := some 118) (v := undef) (a' := ?_) impl_fewest.b74 rfl rfl (any_of HT_.out (by kernel_rfl)) (fun _ _ _ h => h) (Or.inr ⟨by rfl, rfl⟩) ?_ ?_; rotate_left
                    ·
                     simp only [Act.put, sA, sB, sC, i64_w, i32_w]; rfl
                    refine pure_ (i := 28) (N := some 119) (v := undef) (a' := ?_) impl_fewest.b75 rfl rfl (any_of HT_.out (by kernel_rfl)) (fun _ _ _ h => h) (Or.inr ⟨by rfl, rfl⟩) ?_ ?_; rotate_left
                    ·
                     simp only [Act.put, sA, sB, sC, i64_w, i32_w]; rfl
                    refine pure_ (i := 29) (N := some 120) (v := undef) (a' := ?_) impl_fewest.b76 rfl rfl (any_of HT_.out (by kernel_rfl)) (fun _ _ _ h => h) (Or.inr ⟨by rfl, rfl⟩) ?_ ?_; rotate_left
                    ·
                     simp only [Act.put, sA, sB, sC, i64_w, i32_w]; rfl
                    refine pure_ (i := 30) (N := some 121) (v := ?_) (a' := ?_) impl_fewest.b77 rfl rfl (any_of HT_.out (by kernel_rfl)) (fun _ _ _ h => h) (Or.inl ⟨by rfl, ?_⟩) ?_ ?_; rotate_left
                    ·
                     intro w'; go_simp; with_reducible rfl
                    rotate_left
                    ·
                     simp only [Act.put, sA, sB, sC, i64_w, i32_w]; rfl
                    refine done_ (done_of HT_.out (by kernel_rfl)) ?_
                    try go_wp2
                    go_meet
                    case rel => exact ⟨_, (false), (by first | rfl | (simp; done) | (simp [*]; done)), H', ⟨by have := HK1.out; have := HK2.out; have := HK3.out; first | omega | exact Nat.le_refl _⟩, ⟨by (try simp only [hl7_2]); (try simp only [hl7_3]); (with_reducible repeat (first | apply Kd.R_alloc | apply Kd.R_drewN | apply Kd.R_drew)); exact HO_3.out⟩, ⟨by (try simp only [hl7_2]); (try simp only [hl7_3]); (with_reducible repeat (first | apply Kd.R_alloc | apply Kd.R_drewN | apply Kd.R_drew)); exact HO_7.out⟩, ⟨by (try simp only [hl7_2]); (try simp only [hl7_3]); (with_reducible repeat (first | apply Kd.R_alloc | apply Kd.R_drewN | apply Kd.R_drew)); exact HO_85.out⟩, ⟨by (try simp only [hl7_2]); (try simp only [hl7_3]); (with_reducible repeat (first | refine blk_drewN ?_ _ | refine blk_drew ?_ | refine blk_alloc ?_ _)); exact BK445.out⟩, ⟨by repeat (first | (with_reducible first | exact HB.out | apply below_alloc | apply pw_below_drewN | apply below_drew1 | refine below_set ?_ GE445.out) | exact HB.out)⟩⟩
                  ·
                   rw [if_neg c82] at H
                   have c82b0 : (((rd_T58 t441 x87_3).f1) == 2) = false := beq_eq_false_iff_ne.mpr c82
                   have c82b1 : (((rd_T58 t441 x87_3).f1) != 2) = true := bne_iff_ne.mpr c82
                   (first | rw [c82b0] | (simp only [i64_w, i32_w]; rw [c82b0]) | skip)
                   have H' := Aside0.mk H
                   clear H
                   try go_wp2
                   have n0_ : Aside0 (Kd.R (Kd.int .i64) 3 ((w80.setCell ⟨gb445, 0, none⟩ (.int .i64 ((rd_T58 t441 x87_3).f0))).setCell ⟨gb445, 1, none⟩ (.int .i64 ((rd_T58 t441 x87_3).f1))) w.heap.size (fun k_ => some k_ ≠ (.slice (some ⟨go70, 0, none⟩) x7_3.length co66 : Value).ownBlock) v419 x3_1) := ⟨by (with_reducible repeat (first | apply Kd.R_alloc | apply Kd.R_drewN | apply Kd.R_drew)); exact Kd.R_mono (Kd.R_far (p := ⟨gb445, 1, none⟩) (Kd.R_far (p := ⟨gb445, 0, none⟩) (Kd.R_types HO_3.out BK445.out (by decide)) (fun _ hk => hk.2) (.int .i64 ((rd_T58 t441 x87_3).f0))) (fun _ hk => hk.2) (.int .i64 ((rd_T58 t441 x87_3).f1))) (fun _ hk => hk.1)⟩
                   have n1_ : Aside0 (Kd.R (Kd.int .i64) 3 ((w80.setCell ⟨gb445, 0, none⟩ (.int .i64 ((rd_T58 t441 x87_3).f0))).setCell ⟨gb445, 1, none⟩ (.int .i64 ((rd_T58 t441 x87_3).f1))) w.heap.size (fun k_ => some k_ ≠ (v419 : Value).ownBlock) (.slice (some ⟨go70, 0, none⟩) x7_3.length co66) x7_3) := ⟨by (with_reducible repeat (first | apply Kd.R_alloc | apply Kd.R_drewN | apply Kd.R_drew)); exact Kd.R_mono (Kd.R_far (p := ⟨gb445, 1, none⟩) (Kd.R_far (p := ⟨gb445, 0, none⟩) (Kd.R_types HO_7.out BK445.out (by decide)) (fun _ hk => hk.2) (.int .i64 ((rd_T58 t441 x87_3).f0))) (fun _ hk => hk.2) (.int .i64 ((rd_T58 t441 x87_3).f1))) (fun _ hk => hk.1)⟩
                   have n2_ : Aside0 (Kd.R k58 58 ((w80.setCell ⟨gb445, 0, none⟩ (.int .i64 ((rd_T58 t441 x87_3).f0))).setCell ⟨gb445, 1, none⟩ (.int .i64 ((rd_T58 t441 x87_3).f1))) w.heap.size (fun k_ => k_ ≠ gb445) (.slice (some ad444) t441.length co75) t441) := ⟨by (with_reducible repeat (first | apply Kd.R_alloc | apply Kd.R_drewN | apply Kd.R_drew)); exact Kd.R_mono (Kd.R_far (p := ⟨gb445, 1, none⟩) (Kd.R_far (p := ⟨gb445, 0, none⟩) (Kd.R_mono HO_85.out (fun k_ hk => (⟨hk, hk.2⟩ : _ ∧ k_ ≠ gb445))) (fun _ hk => hk.2) (.int .i64 ((rd_T58 t441 x87_3).f0))) (fun _ hk => hk.2) (.int .i64 ((rd_T58 t441 x87_3).f1))) (fun _ hk => hk.1.2)⟩
                   have n3_ : Aside0 (((w80.setCell ⟨gb445, 0, none⟩ (.int .i64 ((rd_T58 t441 x87_3).f0))).setCell ⟨gb445, 1, none⟩ (.int .i64 ((rd_T58 t441 x87_3).f1))).heap[gb445]? = some (.cells #[.int .i64 ((rd_T58 t441 x87_3).f0), .int .i64 ((rd_T58 t441 x87_3).f1)] 58 (0, 0))) := ⟨by (with_reducible repeat (first | refine blk_drewN ?_ _ | refine blk_drew ?_ | refine blk_alloc ?_ _)); refine blk_put (cs := #[.int .i64 ((rd_T58 t441 x87_3).f0), .int .i64 0]) ?_ 1 _ rfl; (with_reducible repeat (first | refine blk_drewN ?_ _ | refine blk_drew ?_ | refine blk_alloc ?_ _)); refine blk_put (cs := #[.int .i64 0, .int .i64 0]) ?_ 0 _ rfl; (with_reducible repeat (first | refine blk_drewN ?_ _ | refine blk_drew ?_ | refine blk_alloc ?_ _)); exact BK445.out⟩
                   have n4_ : Aside0 (Below w.heap.size w ((w80.setCell ⟨gb445, 0, none⟩ (.int .i64 ((rd_T58 t441 x87_3).f0))).setCell ⟨gb445, 1, none⟩ (.int .i64 ((rd_T58 t441 x87_3).f1)))) := ⟨by repeat (first | (with_reducible first | exact HB.out | apply below_alloc | apply pw_below_drewN | apply below_drew1 | refine below_set ?_ GE445.out) | exact HB.out)⟩
                   (try clear HO_3)
                   (try clear HO_7)
                   (try clear HO_85)
                   (try clear BK445)
                   (try clear HB)
                   generalize ((w80.setCell ⟨gb445, 0, none⟩ (.int .i64 ((rd_T58 t441 x87_3).f0))).setCell ⟨gb445, 1, none⟩ (.int .i64 ((rd_T58 t441 x87_3).f1))) = w103 at n0_ n1_ n2_ n3_ n4_ ⊢
                   have HO_3 := n0_
                   have HO_7 := n1_
                   have HO_85 := n2_
                   have BK445 := n3_
                   have HB := n4_
                   clear n0_ n1_ n2_ n3_ n4_
                   have n0_ := Aside0.mk (Kd.R_drew HO_3.out)
                   have n1_ := Aside0.mk (Kd.R_drew HO_7.out)
                   have n2_ := Aside0.mk (Kd.R_drew HO_85.out)
                   have n3_ := Aside0.mk (blk_drew BK445.out)
                   have n4_ := Aside0.mk (below_drew1 HB.out)
                   clear HO_3; clear HO_7; clear HO_85; clear BK445; clear HB
                   have HO_3 := n0_
                   have HO_7 := n1_
                   have HO_85 := n2_
                   have BK445 := n3_
                   have HB := n4_
                   clear n0_ n1_ n2_ n3_ n4_
                   refine start_ (n := 31) (S := fun w' => w'.cell? ⟨gb445, 0, none⟩ = some (.int .i64 ((rd_T58 t441 x87_3).f0)) ∧ w'.cell? ⟨gb445, 1, none⟩ = some (.int .i64 ((rd_T58 t441 x87_3).f1))) (ds := []) impl_fewest.b46 (by kernel_rfl) rfl rfl ⟨(blk_cell BK445.out 0).trans rfl, (blk_cell BK445.out 1).trans rfl⟩ (fun hHeld => ?_); refine with_tabW impl_fewest.tab22 impl_fewest.bits22 (fun HT_ HW_ => ?_)
                   generalize w103.drew = w104 at HO_3 HO_7 HO_85 BK445 HB hHeld ⊢
                   refine pure_ (i := 0) (N := some 91) (v := ?_) (a' := ?_) impl_fewest.b47 rfl rfl (any_of HT_.out (by kernel_rfl)) (fun _ _ _ h => h) (Or.inl ⟨by rfl, ?_⟩) ?_ ?_; rotate_left
                   ·
                    intro w'; go_simp; with_reducible rfl
                   rotate_left
                   ·
                    simp only [Act.put, sA, sB, sC, i64_w, i32_w]; rfl
                   refine take_ (i := 1) (N := some 92) (v := ?_) (a' := ?_) impl_fewest.b48 rfl rfl (take_ofW HT_.out HW_.out (by kernel_rfl)) (fun _ _ _ h => h) (Or.inl ⟨by rfl, ?_⟩) hHeld ?_ ?_; rotate_left
                   ·
                    rintro w' ⟨s0, s1⟩; go_simp; with_reducible rfl
                   rotate_left
                   ·
                    simp only [Act.put, sA, sB, sC, i64_w, i32_w]; rfl
                   refine pure_ (i := 2) (N := some 93) (v := ?_) (a' := ?_) impl_fewest.b49 rfl rfl (any_of HT_.out (by kernel_rfl)) (fun _ _ _ h => h) (Or.inl ⟨by rfl, ?_⟩) ?_ ?_; rotate_left
                   ·
                    intro w'; go_simp; with_reducible rfl
                   rotate_left
                   ·
                    simp only [Act.put, sA, sB, sC, i64_w, i32_w]; rfl
                   refine pure_ (i := 3) (N := some 94) (v := ?_) (a' := ?_) impl_fewest.b50 rfl rfl (any_of HT_.out (by kernel_rfl)) (fun _ _ _ h => h) (Or.inl ⟨by rfl, ?_⟩) ?_ ?_; rotate_left
                   ·
                    intro w'; go_simp; with_reducible rfl
                   rotate_left
                   ·
                    simp only [Act.put, sA, sB, sC, i64_w, i32_w]; rfl
                   refine pure_ (i := 4) (N := some 95) (v := undef) (a' := ?_) impl_fewest.b87 rfl rfl (any_of HT_.out (by kernel_rfl)) (fun _ _ _ h => h) (Or.inr ⟨by rfl, rfl⟩) ?_ ?_; rotate_left
                   ·
                    simp only [Act.put, sA, sB, sC, i64_w, i32_w]; rfl
                   refine pure_ (i := 5) (N := some 96) (v := undef) (a' := ?_) impl_fewest.b88 rfl rfl (any_of HT_.out (by kernel_rfl)) (fun _ _ _ h => h) (Or.inr ⟨by rfl, rfl⟩) ?_ ?_; rotate_left
                   ·
                    simp only [Act.put, sA, sB, sC, i64_w, i32_w]; rfl
                   refine pure_ (i := 6) (N := some 97) (v := undef) (a' := ?_) impl_fewest.b53 rfl rfl (any_of HT_.out (by kernel_rfl)) (fun _ _ _ h => h) (Or.inr ⟨by rfl, rfl⟩) ?_ ?_; rotate_left
                   ·
                    simp only [Act.put, sA, sB, sC, i64_w, i32_w]; rfl
                   refine pure_ (i := 7) (N := some 98) (v := undef) (a' := ?_) impl_fewest.b54 rfl rfl (any_of HT_.out (by kernel_rfl)) (fun _ _ _ h => h) (Or.inr ⟨by rfl, rfl⟩) ?_ ?_; rotate_left
                   ·
                    simp only [Act.put, sA, sB, sC, i64_w, i32_w]; rfl
                   refine pure_ (i := 8) (N := some 99) (v := ?_) (a' := ?_) impl_fewest.b55 rfl rfl (any_of HT_.out (by kernel_rfl)) (fun _ _ _ h => h) (Or.inl ⟨by rfl, ?_⟩) ?_ ?_; rotate_left
                   ·
                    intro w'; go_simp; with_reducible rfl
                   rotate_left
                   ·
                    simp only [Act.put, sA, sB, sC, i64_w, i32_w]; rfl
                   refine pure_ (i := 9) (N := some 100) (v := ?_) (a' := ?_) impl_fewest.b56 rfl rfl (any_of HT_.out (by kernel_rfl)) (fun _ _ _ h => h) (Or.inl ⟨by rfl, ?_⟩) ?_ ?_; rotate_left
                   ·
                    intro w'; go_simp; with_reducible rfl
                   rotate_left
                   ·
                    simp only [Act.put, sA, sB, sC, i64_w, i32_w]; rfl
                   refine pure_ (i := 10) (N := some 101) (v := undef) (a' := ?_) impl_fewest.b57 rfl rfl (any_of HT_.out (by kernel_rfl)) (fun _ _ _ h => h) (Or.inr ⟨by rfl, rfl⟩) ?_ ?_; rotate_left
                   ·
                    simp only [Act.put, sA, sB, sC, i64_w, i32_w]; rfl
                   refine pure_ (i := 11) (N := some 102) (v := undef) (a' := ?_) impl_fewest.b58 rfl rfl (any_of HT_.out (by kernel_rfl)) (fun _ _ _ h => h) (Or.inr ⟨by rfl, rfl⟩) ?_ ?_; rotate_left
                   ·
                    simp only [Act.put, sA, sB, sC, i64_w, i32_w]; rfl
                   refine pure_ (i := 12) (N := some 103) (v := undef) (a' := ?_) impl_fewest.b59 rfl rfl (any_of HT_.out (by kernel_rfl)) (fun _ _ _ h => h) (Or.inr ⟨by rfl, rfl⟩) ?_ ?_; rotate_left
                   ·
                    simp only [Act.put, sA, sB, sC, i64_w, i32_w]; rfl
                   refine pure_ (i := 13) (N := some 104) (v := undef) (a' := ?_) impl_fewest.b60 rfl rfl (any_of HT_.out (by kernel_rfl)) (fun _ _ _ h => h) (Or.inr ⟨by rfl, rfl⟩) ?_ ?_; rotate_left
                   ·
                    simp only [Act.put, sA, sB, sC, i64_w, i32_w]; rfl
                   refine pure_ (i := 14) (N := some 105) (v := undef) (a' := ?_) impl_fewest.b61 rfl rfl (any_of HT_.out (by kernel_rfl)) (fun _ _ _ h => h) (Or.inr ⟨by rfl, rfl⟩) ?_ ?_; rotate_left
                   ·
                    simp only [Act.put, sA, sB, sC, i64_w, i32_w]; rfl
                   refine pure_ (i := 15) (N := some 106) (v := undef) (a' := ?_) impl_fewest.b62 rfl rfl (any_of HT_.out (by kernel_rfl)) (fun _ _ _ h => h) (Or.inr ⟨by rfl, rfl⟩) ?_ ?_; rotate_left
                   ·
                    simp only [Act.put, sA, sB, sC, i64_w, i32_w]; rfl
                   refine pure_ (i := 16) (N := some 107) (v := undef) (a' := ?_) impl_fewest.b63 rfl rfl (any_of HT_.out (by kernel_rfl)) (fun _ _ _ h => h) (Or.inr ⟨by rfl, rfl⟩) ?_ ?_; rotate_left
                   ·
                    simp only [Act.put, sA, sB, sC, i64_w, i32_w]; rfl
                   refine pure_ (i := 17) (N := some 108) (v := undef) (a' := ?_) impl_fewest.b64 rfl rfl (any_of HT_.out (by kernel_rfl)) (fun _ _ _ h => h) (Or.inr ⟨by rfl, rfl⟩) ?_ ?_; rotate_left
                   ·
                    simp only [Act.put, sA, sB, sC, i64_w, i32_w]; rfl
                   refine pure_ (i := 18) (N := some 109) (v := undef) (a' := ?_) impl_fewest.b65 rfl rfl (any_of HT_.out (by kernel_rfl)) (fun _ _ _ h => h) (Or.inr ⟨by rfl, rfl⟩) ?_ ?_; rotate_left
                   ·
                    simp only [Act.put, sA, sB, sC, i64_w, i32_w]; rfl
                   refine pure_ (i := 19) (N := some 110) (v := undef) (a' := ?_) impl_fewest.b66 rfl rfl (any_of HT_.out (by kernel_rfl)) (fun _ _ _ h => h) (Or.inr ⟨by rfl, rfl⟩) ?_ ?_; rotate_left
                   ·
                    simp only [Act.put, sA, sB, sC, i64_w, i32_w]; rfl
                   refine pure_ (i := 20) (N := some 111) (v := undef) (a' := ?_) impl_fewest.b67 rfl rfl (any_of HT_.out (by kernel_rfl)) (fun _ _ _ h => h) (Or.inr ⟨by rfl, rfl⟩) ?_ ?_; rotate_left
                   ·
                    simp only [Act.put, sA, sB, sC, i64_w, i32_w]; rfl
                   refine pure_ (i := 21) (N := some 112) (v := undef) (a' := ?_) impl_fewest.b68 rfl rfl (any_of HT_.out (by kernel_rfl)) (fun _ _ _ h => h) (Or.inr ⟨by rfl, rfl⟩) ?_ ?_; rotate_left
                   ·
                    simp only [Act.put, sA, sB, sC, i64_w, i32_w]; rfl
                   refine pure_ (i := 22) (N := some 113) (v := undef) (a' := ?_) impl_fewest.b69 rfl rfl (any_of HT_.out (by kernel_rfl)) (fun _ _ _ h => h) (Or.inr ⟨by rfl, rfl⟩) ?_ ?_; rotate_left
                   ·
                    simp only [Act.put, sA, sB, sC, i64_w, i32_w]; rfl
                   refine pure_ (i := 23) (N := some 114) (v := undef) (a' := ?_) impl_fewest.b70 rfl rfl (any_of HT_.out (by kernel_rfl)) (fun _ _ _ h => h) (Or.inr ⟨by rfl, rfl⟩) ?_ ?_; rotate_left
                   ·
                    simp only [Act.put, sA, sB, sC, i64_w, i32_w]; rfl
                   refine pure_ (i := 24) (N := some 115) (v := undef) (a' := ?_) impl_fewest.b71 rfl rfl (any_of HT_.out (by kernel_rfl)) (fun _ _ _ h => h) (Or.inr ⟨by rfl, rfl⟩) ?_ ?_; rotate_left
                   ·
                    simp only [Act.put, sA, sB, sC, i64_w, i32_w]; rfl
                   refine pure_ (i := 25) (N := some 116) (v := undef) (a' := ?_) impl_fewest.b72 rfl rfl (any_of HT_.out (by kernel_rfl)) (fun _ _ _ h => h) (Or.inr ⟨by rfl, rfl⟩) ?_ ?_; rotate_left
                   ·
                    simp only [Act.put, sA, sB, sC, i64_w, i32_w]; rfl
                   refine pure_ (i := 26) (N := some 117) (v := undef) (a' := ?_) impl_fewest.b73 rfl rfl (any_of HT_.out (by kernel_rfl)) (fun _ _ _ h => h) (Or.inr ⟨by rfl, rfl⟩) ?_ ?_; rotate_left
                   ·
                    simp only [Act.put, sA, sB, sC, i64_w, i32_w]; rfl
                   refine pure_ (i := 27) (N := some 118) (v := undef) (a' := ?_) impl_fewest.b74 rfl rfl (any_of HT_.out (by kernel_rfl)) (fun _ _ _ h => h) (Or.inr ⟨by rfl, rfl⟩) ?_ ?_; rotate_left
                   ·
                    simp only [Act.put, sA, sB, sC, i64_w, i32_w]; rfl
                   refine pure_ (i := 28) (N := some 119) (v := undef) (a' := ?_) impl_fewest.b75 rfl rfl (any_of HT_.out (by kernel_rfl)) (fun _ _ _ h => h) (Or.inr ⟨by rfl, rfl⟩) ?_ ?_; rotate_left
                   ·
                    simp only [Act.put, sA, sB, sC, i64_w, i32_w]; rfl
                   refine pure_ (i := 29) (N := some 120) (v := undef) (a' := ?_) impl_fewest.b76 rfl rfl (any_of HT_.out (by kernel_rfl)) (fun _ _ _ h => h) (Or.inr ⟨by rfl, rfl⟩) ?_ ?_; rotate_left
                   ·
                    simp only [Act.put, sA, sB, sC, i64_w, i32_w]; rfl
                   refine pure_ (i := 30) (N := some 121) (v := ?_) (a' := ?_) impl_fewest.b77 rfl rfl (any_of HT_.out (by kernel_rfl)) (fun _ _ _ h => h) (Or.inl ⟨by rfl, ?_⟩) ?_ ?_; rotate_left
                   ·
                    intro w'; go_simp; with_reducible rfl
                   rotate_left
                   ·
                    simp only [Act.put, sA, sB, sC, i64_w, i32_w]; rfl
                   refine done_ (done_of HT_.out (by kernel_rfl)) ?_
                   try go_wp2
                   go_meet
                   case rel => exact ⟨_, (false), (by first | rfl | (simp; done) | (simp [*]; done)), H', ⟨by have := HK1.out; have := HK2.out; have := HK3.out; first | omega | exact Nat.le_refl _⟩, ⟨by (try simp only [hl7_2]); (try simp only [hl7_3]); (with_reducible repeat (first | apply Kd.R_alloc | apply Kd.R_drewN | apply Kd.R_drew)); exact HO_3.out⟩, ⟨by (try simp only [hl7_2]); (try simp only [hl7_3]); (with_reducible repeat (first | apply Kd.R_alloc | apply Kd.R_drewN | apply Kd.R_drew)); exact HO_7.out⟩, ⟨by (try simp only [hl7_2]); (try simp only [hl7_3]); (with_reducible repeat (first | apply Kd.R_alloc | apply Kd.R_drewN | apply Kd.R_drew)); exact HO_85.out⟩, ⟨by (try simp only [hl7_2]); (try simp only [hl7_3]); (with_reducible repeat (first | refine blk_drewN ?_ _ | refine blk_drew ?_ | refine blk_alloc ?_ _)); exact BK445.out⟩, ⟨by repeat (first | (with_reducible first | exact HB.out | apply below_alloc | apply pw_below_drewN | apply below_drew1 | refine below_set ?_ GE445.out) | exact HB.out)⟩⟩
                 case rest =>
                  clear HC79
                  try clear p2
                  try clear c5
                  try clear p6
                  try clear c8
                  try clear c9
                  try clear c58
                  try clear p64
                  try clear c82
                  try clear c82b0
                  try clear c82b1
                  try clear c84
                  try clear c84b0
                  try clear c85
                  try clear c86
                  try clear c93
                  try clear c94
                  obtain ⟨kq, x121_78, rfl, HA, HJ78, HO_3, HO_7, HO_85, BK445, HB⟩ := hcut
                  cases kq with
                  | zero => exact absurd HA.out (by simp [impl_fewest.j5])
                  | succ kj78 =>
                   have H := HA.out
                   clear HA
                   simp only [impl_fewest.j5] at H
                   by_cases c105 : x121_78 = true
                   ·
                    subst c105
                    have H1 : ((impl_Dart_score.f ((rd_T58 t441 x87_3).f0) ((rd_T58 t441 x87_3).f1)).bind fun t451 => (if 0 ≤ (wrap64 (x79_2 - t451)) then (if (wrap64 (x79_2 - t451)) < (x3_1.length : Int) then (if 0 ≤ x79_2 then (if x79_2 < (x7_3.length : Int) then (impl_fewest.l3 kj78 x3_1 (x7_3.set (x79_2 : Int).toNat (wrap64 ((rd x3_1 (wrap64 (x79_2 - t451))) + 1))) x79_2 (y437.length : Int) x79_2 t441 (t441.length : Int) (wrap64 (x87_3 + 1))) else (none)) else (none)) else (none)) else (none))) = some r := by rw [if_pos rfl] at H; exact H
                    clear H
                    have H := H1
                    clear H1
                    replace H := Option.bind_eq_some_iff.mp H
                    obtain ⟨t451, A1060, H⟩ := H
                    replace H : (if 0 ≤ (wrap64 (x79_2 - t451)) then (if (wrap64 (x79_2 - t451)) < (x3_1.length : Int) then (if 0 ≤ x79_2 then (if x79_2 < (x7_3.length : Int) then (impl_fewest.l3 kj78 x3_1 (x7_3.set (x79_2 : Int).toNat (wrap64 ((rd x3_1 (wrap64 (x79_2 - t451))) + 1))) x79_2 (y437.length : Int) x79_2 t441 (t441.length : Int) (wrap64 (x87_3 + 1))) else (none)) else (none)) else (none)) else (none)) = some r := H
                    have A106 := Aside0.mk A1060
                    clear A1060
                    obtain ⟨ji107, hji107⟩ : ∃ j_ : Int, (wrap64 (x79_2 - t451)) = j_ := ⟨_, rfl⟩
                    replace H : (if 0 ≤ (ji107) then (if (ji107) < (x3_1.length : Int) then (if 0 ≤ x79_2 then (if x79_2 < (x7_3.length : Int) then (impl_fewest.l3 kj78 x3_1 (x7_3.set (x79_2 : Int).toNat (wrap64 ((rd x3_1 (ji107)) + 1))) x79_2 (y437.length : Int) x79_2 t441 (t441.length : Int) (wrap64 (x87_3 + 1))) else (none)) else (none)) else (none)) else (none)) = some r := by first | (rw [hji107] at H; exact H) | (simp only [hji107] at H ⊢; exact H)
                    (try rw [hji107] at A106)
                    have hji107w : (IntKind.i64.wrap (x79_2 - t451)) = ji107 := (i64_w _).trans hji107
                    by_cases c108 : 0 ≤ (ji107)
                    ·
                     rw [if_pos c108] at H
                     have c108b0 : decide (0 ≤ (ji107)) = true := decide_eq_true c108
                     clear c108
                     by_cases c109 : (ji107) < (x3_1.length : Int)
                     ·
                      rw [if_pos c109] at H
                      have c109b0 : decide ((ji107) < (x3_1.length : Int)) = true := decide_eq_true c109
                      clear c109
                      by_cases c110 : 0 ≤ x79_2
                      ·
                       rw [if_pos c110] at H
                       have c110b0 : decide (0 ≤ x79_2) = true := decide_eq_true c110
                       clear c110
                       by_cases c111 : x79_2 < (x7_3.length : Int)
                       ·
                        rw [if_pos c111] at H
                        have c111b0 : decide (x79_2 < (x7_3.length : Int)) = true := decide_eq_true c111
                        clear c111
                        obtain ⟨y453, hy453⟩ : ∃ y_ : List Int, y_ = (x7_3.set (x79_2 : Int).toNat (wrap64 ((rd x3_1 (ji107)) + 1))) := ⟨_, rfl⟩
                        replace H : (impl_fewest.l3 kj78 x3_1 y453 x79_2 (y437.length : Int) x79_2 t441 (t441.length : Int) (wrap64 (x87_3 + 1))) = some r := by first | (rw [hy453]; with_reducible exact H) | (have H2_ := (Option.bind_some _ _).symm.trans H; rw [hy453]; with_reducible exact H2_) | (have H2_ := (Option.bind_some _ _).symm.trans H; with_reducible exact H2_) | with_reducible exact H | (rw [hy453]; exact H) | exact H
                        have Ny453 := Aside0.mk hy453
                        clear hy453
                        have H' := Aside0.mk H
                        clear H
                        have hcz113_0 : wc.cell? ⟨gb445, 0, none⟩ = some (.int .i64 ((rd_T58 t441 x87_3).f0)) := (blk_cell BK445.out 0).trans rfl
                        have hcz113_1 : wc.cell? ⟨gb445, 1, none⟩ = some (.int .i64 ((rd_T58 t441 x87_3).f1)) := (blk_cell BK445.out 1).trans rfl
                        have hfz113_0 := blk_frozen BK445.out 0
                        have hfz113_1 := blk_frozen BK445.out 1
                        go_wp2_with (first | ((with_reducible refine gate_callee (f := 58) rfl ?_); refine goesL_ (some 127) rfl rfl Try.func58 (by kernel_rfl) rfl #[.agg #[.int .i64 ((rd_T58 t441 x87_3).f0), .int .i64 ((rd_T58 t441 x87_3).f1)]] rfl (by (try simp only [List.map_toArray, List.map_cons, List.map_nil]); first | done | rfl | (simp only [List.length_drop, List.length_take]; rfl)) ?_; (with_reducible refine (impl_Dart_score.calls ((rd_T58 t441 x87_3).f0) ((rd_T58 t441 x87_3).f1) t451 _ A106.out).mono ?_); rintro e w114 ⟨rfl, hb⟩; refine ⟨_, rfl, ?_⟩; have n0_ := Aside0.mk (Kd.R_below (by (with_reducible repeat (first | apply Kd.R_alloc | apply Kd.R_drewN | apply Kd.R_drew)); exact HO_3.out) hb); have n1_ := Aside0.mk (Kd.R_below (by (with_reducible repeat (first | apply Kd.R_alloc | apply Kd.R_drewN | apply Kd.R_drew)); exact HO_7.out) hb); have n2_ := Aside0.mk (Kd.R_below (by (with_reducible repeat (first | apply Kd.R_alloc | apply Kd.R_drewN | apply Kd.R_drew)); exact HO_85.out) hb); have n3_ := Aside0.mk (blk_below (g := gb445) (o := .cells #[.int .i64 ((rd_T58 t441 x87_3).f0), .int .i64 ((rd_T58 t441 x87_3).f1)] 58 (0, 0)) (by (with_reducible repeat (first | refine blk_drewN ?_ _ | refine blk_drew ?_ | refine blk_alloc ?_ _)); exact BK445.out) hb); have n4_ := Aside0.mk (below_step (by repeat (first | (with_reducible first | exact HB.out | apply below_alloc | apply pw_below_drewN | apply below_drew1 | refine below_set ?_ GE445.out) | exact HB.out)) hb); clear HO_3; clear HO_7; clear HO_85; clear BK445; clear HB; have HO_3 := n0_; have HO_7 := n1_; have HO_85 := n2_; have BK445 := n3_; have HB := n4_; clear n0_ n1_ n2_ n3_ n4_; (try clear hb); (try clear hb2); (try clear hk); (try clear hi); obtain ⟨Ao115, co115, eo115⟩ := Kd.R_slice HO_3.out; subst eo115; have p452 : 0 ≤ ((ji107) : Int) := of_decide_eq_true (by first | (with_reducible assumption) | assumption); have q452 : (ji107) < (x3_1.length : Int) := of_decide_eq_true (by first | (with_reducible assumption) | assumption); obtain ⟨ad452, e452, hx452_0⟩ := Kd.at_int (Kd.R_reads' HO_3.out).2.2 (ji107) p452 q452; cases e452; replace p452 := eq_true p452; replace q452 := eq_true q452; have p112 : 0 ≤ (x79_2 : Int) := of_decide_eq_true (by first | (with_reducible assumption) | assumption); have q112 : (x79_2 : Int) < ((x7_3.length : Int) : Int) := of_decide_eq_true (by first | (with_reducible assumption) | assumption); obtain ⟨hx112_0, hf112_0⟩ := Kd.R_celln 0 HO_7.out (x79_2 : Int) p112 q112; replace p112 := eq_true p112; replace q112 := eq_true q112; obtain ⟨hy116_, hz116_⟩ := Kd.R_celln 0 HO_7.out (x79_2 : Int) (of_decide_eq_true (by first | (with_reducible assumption) | assumption)) (of_decide_eq_true (by first | (with_reducible assumption) | assumption)); have HP116 := Kd.R_putg HO_7.out (x79_2 : Int) (wrap64 ((rd x3_1 (ji107)) + 1))) | ((with_reducible refine gate_store (t := 3) (p := 132) rfl ?_); refine store_event (t := 3) (p := 132) (v := ?vo_w117) (w1 := (w114.setCell ⟨go70, (x79_2 : Int).toNat, none⟩ (.int .i64 (wrap64 ((rd x3_1 (ji107)) + 1))))) ?hg ?ho ?hn ?hr ?_; (case ho => rfl); (case hg => rfl); (case hn => rfl); (case hr => first | (go_simp; done) | (go_simp; rfl)); intro w117 hw; have hg : w114.grownBy w117 (some go70) := (by rw [hw]; exact HP116.2); have hp_ : Kd.R (Kd.int .i64) 3 w117 w.heap.size (fun k_ => some k_ ≠ (.slice (some ad452) x3_1.length co115 : Value).ownBlock) (.slice (some ⟨go70, 0, none⟩) x7_3.length co66) y453 := (by rw [hw, Ny453.out]; exact HP116.1); clear HP116; have n0_ := Aside0.mk (Kd.R_after (v := (.slice (some ⟨go70, 0, none⟩) x7_3.length co66)) (v1 := (.slice (some ⟨go70, 0, none⟩) x7_3.length co66)) (ok := (fun _ => True)) (by (with_reducible repeat (first | apply Kd.R_alloc | apply Kd.R_drewN | apply Kd.R_drew)); exact Kd.R_mono HO_3.out (fun _ hk => ⟨trivial, hk⟩)) hg (.inl rfl)); have n1_ := Aside0.mk (hp_); have n2_ := Aside0.mk (Kd.R_over' (v := (.slice (some ⟨go70, 0, none⟩) x7_3.length co66)) (by (with_reducible repeat (first | apply Kd.R_alloc | apply Kd.R_drewN | apply Kd.R_drew)); exact HO_85.out) (Kd.R_typed HO_7.out) (by decide) hg); have n3_ := Aside0.mk (blk_grown (g := gb445) (o := .cells #[.int .i64 ((rd_T58 t441 x87_3).f0), .int .i64 ((rd_T58 t441 x87_3).f1)] 58 (0, 0)) (by (with_reducible repeat (first | refine blk_drewN ?_ _ | refine blk_drew ?_ | refine blk_alloc ?_ _)); exact BK445.out) hg (Kd.R_ne HO_7.out BK445.out (by decide))); have n4_ := Aside0.mk ((by rw [hw]; exact below_set (HB.out) GB70.out : Below w.heap.size w w117)); clear HO_3; clear HO_7; clear HO_85; clear BK445; clear HB; have HO_3 := n0_; have HO_7 := n1_; have HO_85 := n2_; have BK445 := n3_; have HB := n4_; clear n0_ n1_ n2_ n3_ n4_; clear hg hw hp_))
                        (try simp only [← hl7_3])
                        go_roundg kj78
                        case measure => have := HK1.out; have := HK2.out; have := HK3.out; have := HJ78.out; omega
                        case rel => exact ⟨(y453), (wrap64 (x87_3 + 1)), (by first | rfl | (simp; done) | (simp [*]; done)), H', ⟨by have := HK1.out; have := HK2.out; have := HK3.out; have := HJ78.out; omega⟩, ⟨by (try simp only [hl7_2]); (try simp only [hl7_3]); (with_reducible repeat (first | apply Kd.R_alloc | apply Kd.R_drewN | apply Kd.R_drew)); exact Kd.R_mono HO_3.out (fun _ hk => hk.2)⟩, ⟨by (try simp only [hl7_2]); (try simp only [hl7_3]); (with_reducible repeat (first | apply Kd.R_alloc | apply Kd.R_drewN | apply Kd.R_drew)); exact HO_7.out⟩, ⟨by (try simp only [hl7_2]); (try simp only [hl7_3]); (with_reducible repeat (first | apply Kd.R_alloc | apply Kd.R_drewN | apply Kd.R_drew)); exact Kd.R_mono HO_85.out (fun _ hk => trivial)⟩, ⟨by repeat (first | (with_reducible first | exact HB.out | apply below_alloc | apply pw_below_drewN | apply below_drew1 | refine below_set ?_ GE445.out) | exact HB.out)⟩⟩
                       ·
                        rw [if_neg c111] at H
                        exact absurd H (by simp)
                      ·
                       rw [if_neg c110] at H
                       exact absurd H (by simp)
                     ·
                      rw [if_neg c109] at H
                      exact absurd H (by simp)
                    ·
                     rw [if_neg c108] at H
                     exact absurd H (by simp)
                   ·
                    replace c105 := Bool.eq_false_iff.mpr c105
                    subst c105
                    have H1 : (impl_fewest.l3 kj78 x3_1 x7_3 x79_2 (y437.length : Int) x79_2 t441 (t441.length : Int) (wrap64 (x87_3 + 1))) = some r := by rw [if_neg (show ¬ (false = true) by decide)] at H; exact H
                    clear H
                    have H := H1
                    clear H1
                    have H' := Aside0.mk H
                    clear H
                    go_wp2
                    (try simp only [← hl7_3])
                    go_roundg kj78
                    case measure => have := HK1.out; have := HK2.out; have := HK3.out; have := HJ78.out; omega
                    case rel => exact ⟨(x7_3), (wrap64 (x87_3 + 1)), (by first | rfl | (simp; done) | (simp [*]; done)), H', ⟨by have := HK1.out; have := HK2.out; have := HK3.out; have := HJ78.out; omega⟩, ⟨by (try simp only [hl7_2]); (try simp only [hl7_3]); (with_reducible repeat (first | apply Kd.R_alloc | apply Kd.R_drewN | apply Kd.R_drew)); exact HO_3.out⟩, ⟨by (try simp only [hl7_2]); (try simp only [hl7_3]); (with_reducible repeat (first | apply Kd.R_alloc | apply Kd.R_drewN | apply Kd.R_drew)); exact HO_7.out⟩, ⟨by (try simp only [hl7_2]); (try simp only [hl7_3]); (with_reducible repeat (first | apply Kd.R_alloc | apply Kd.R_drewN | apply Kd.R_drew)); exact Kd.R_mono HO_85.out (fun _ hk => trivial)⟩, ⟨by repeat (first | (with_reducible first | exact HB.out | apply below_alloc | apply pw_below_drewN | apply below_drew1 | refine below_set ?_ GE445.out) | exact HB.out)⟩⟩
                ·
                 rw [if_neg c78] at H
                 exact absurd H (by simp)
               ·
                rw [if_neg c77] at H
                exact absurd H (by simp)
              ·
               rw [if_neg c76] at H
               have c76b0 : decide (x87_3 < (t441.length : Int)) = false := decide_eq_false c76
               clear c76
               have H' := Aside0.mk H
               clear H
               go_wp2
               (try simp only [← hl7_2, ← hl7_3])
               go_roundg k3
               case measure => have := HK1.out; have := HK2.out; have := HK3.out; omega
               case rel => exact ⟨(x7_3), (wrap64 (x79_2 + 1)), (by first | rfl | (simp; done) | (simp [*]; done)), H', ⟨by have := HK1.out; have := HK2.out; have := HK3.out; omega⟩, ⟨by (try simp only [hl7_2]); (try simp only [hl7_3]); (with_reducible repeat (first | apply Kd.R_alloc | apply Kd.R_drewN | apply Kd.R_drew)); exact HO_3.out⟩, ⟨by (try simp only [hl7_2]); (try simp only [hl7_3]); (with_reducible repeat (first | apply Kd.R_alloc | apply Kd.R_drewN | apply Kd.R_drew)); exact HO_7.out⟩, ⟨by repeat (first | (with_reducible first | exact HB.out | apply below_alloc | apply pw_below_drewN | apply below_drew1) | exact HB.out)⟩⟩
           ·
            rw [if_neg c69] at H
            exact absurd H (by simp)
          ·
           rw [if_neg c68] at H
           exact absurd H (by simp)
         ·
          rw [if_neg c67] at H
          have c67b0 : decide (x79_2 < (y437.length : Int)) = false := decide_eq_false c67
          (try simp only [hl7_2] at c67b0)
          clear c67
          obtain rfl := Option.some.inj H
          go_wp2
          go_ret
          exact ⟨_, by first | rfl | (simp [errW_none, errW_some] <;> rfl) | (simp [*, errW_none, errW_some] <;> rfl), by (with_reducible repeat (first | apply Kd.R_alloc | apply Kd.R_drewN | apply Kd.R_drew)); exact Kd.R_mono HO_7.out (fun _ hk => trivial), by repeat (first | (with_reducible first | exact HB.out | apply below_alloc | apply pw_below_drewN | apply below_drew1) | exact HB.out)⟩
      ·
       rw [if_neg c63] at H
       exact absurd H (by simp)
     ·
      replace c62 := Bool.eq_false_iff.mpr c62
      subst c62
      have H1 : (some x3_1) = some r := by rw [if_neg (show ¬ (false = true) by decide)] at H; exact H
      clear H
      have H := H1
      clear H1
      obtain rfl := Option.some.inj H
      go_wp2
      go_ret
      exact ⟨_, by first | rfl | (simp [errW_none, errW_some] <;> rfl) | (simp [*, errW_none, errW_some] <;> rfl), by (with_reducible repeat (first | apply Kd.R_alloc | apply Kd.R_drewN | apply Kd.R_drew)); exact HO_3.out, by repeat (first | (with_reducible first | exact HB.out | apply below_alloc | apply pw_below_drewN | apply below_drew1) | exact HB.out)⟩
 ·
  rw [if_neg c2] at H
  exact absurd H (by simp)

end Go.Proofs.Ytoaiajgbiaedfaa.PA
-- narrow
