/- Plain lemmas on the darts' tables: no lists of three darts or fewer lie above 180; a double first or a double last counts the same. -/
import Derived.Test.YtoaiajgbiaedfaaLibB
import Derived.Test.YtoaiajgbiaedfaaPAx1020
import Derived.Test.YtoaiajgbiaedfaaPAx1028
import Derived.Test.YtoaiajgbiaedfaaPAx1031
import Derived.Test.YtoaiajgbiaedfaaPAx1042
namespace Go.Proofs.Ytoaiajgbiaedfaa.Lib
open Go.RowKit Go.Proofs.Ytoaiajgbiaedfaa.PA Go.Proofs.YtoaiajgbiaedfaaW.PrintWords Go.Proofs.YtoaiajgbiaedfaaW.PrintLast
theorem wrap_zero : wrap64 (0 + 0) = 0 := by unfold wrap64; omega
theorem support {al : S58 → Bool} {g : Nat → Int} {B : Nat} (h : ∀ j, B < j → g j = 0) (j : Nat) (hj : B + 60 < j) : stepJ al g j = 0 := by
  have key : ∀ l : List S58, l.all okD = true → l.foldl (fun a d => if al d = true ∧ sc d ≤ j then wrap64 (a + g (j - sc d)) else a) 0 = 0 := by
    intro l
    induction l with
    | nil => exact fun _ => rfl
    | cons d l ih =>
      intro hok
      rw [List.all_cons, Bool.and_eq_true] at hok
      rw [List.foldl_cons, h (j - sc d) (by have := (okD_of hok.1).2.2; omega), wrap_zero, ite_self]
      exact ih hok.2
  exact key boardL board_ok
theorem stepJ_congr {al : S58 → Bool} {g h : Nat → Int} (j : Nat) (e : ∀ i, i ≤ j → g i = h i) : stepJ al g j = stepJ al h j := by
  unfold stepJ
  congr 1
  funext a d
  rw [e (j - sc d) (by omega)]
def allD (_ : S58) : Bool := true
def dbl (d : S58) : Bool := !(d.f1 != 2)
theorem alS_false (b : Bool) : alS false b = allD := rfl
theorem alS_last : alS true true = dbl := rfl
theorem alS_early : alS true false = allD := rfl
/-- In how many cntW so many darts have a score (as Go counts it). -/
def cntW : Nat → Nat → Int
  | 0 => one
  | n + 1 => stepJ allD (cntW n)
theorem runS_ways : ∀ (d n : Nat), runS false d (cntW n) = cntW (n + d)
  | 0, n => rfl
  | d + 1, n => by
    show runS false d (foldD (alS false (decide (d = 0))) boardL (fun _ => 0) (cntW n)) = _
    rw [foldD_step, alS_false]
    exact (runS_ways d (n + 1)).trans (by rw [show n + 1 + d = n + (d + 1) by omega])
/-- The cntW that end on a double. -/
def cntE (n : Nat) : Nat → Int := stepJ dbl (cntW n)
theorem runS_ends : ∀ (d n : Nat), runS true (d + 1) (cntW n) = cntE (n + d)
  | 0, n => by
    show foldD (alS true (decide (0 = 0))) boardL (fun _ => 0) (cntW n) = _
    rw [foldD_step]; rfl
  | d + 1, n => by
    show runS true (d + 1) (foldD (alS true (decide (d + 1 = 0))) boardL (fun _ => 0) (cntW n)) = _
    rw [foldD_step, decide_eq_false (by omega), alS_early]
    exact (runS_ends d (n + 1)).trans (by rw [show n + 1 + d = n + (d + 1) by omega])
theorem one_high (j : Nat) (h : 0 < j) : one j = 0 := if_neg (by omega)
theorem ways_high : ∀ (n j : Nat), 60 * n < j → cntW n j = 0
  | 0, j, h => one_high j (by omega)
  | n + 1, j, h => support (B := 60 * n) (fun i hi => ways_high n i hi) j (by omega)
theorem ends_high (n j : Nat) (h : 60 * (n + 1) < j) : cntE n j = 0 := support (B := 60 * n) (fun i hi => ways_high n i hi) j (by omega)
/-! ### The tables up to 180 -/
def T (l : List Int) : Nat → Int := fun j => l.getD j 0
theorem tab_T {n : Nat} {l : List Int} {f : Nat → Int} (h : tab n f = l) (j : Nat) (hj : j < n) : f j = T l j := by
  subst h
  unfold T tab
  rw [List.getD_eq_getElem?_getD, List.getElem?_map, List.getElem?_range hj]; rfl
theorem tab_next {al : S58 → Bool} {n : Nat} {l : List Int} {f : Nat → Int} (h : tab n f = l) : tab n (stepJ al f) = tab n (stepJ al (T l)) :=
  tab_congr fun j hj => stepJ_congr j fun i hi => tab_T h i (by omega)
def A1 : List Int := [0, 1, 2, 2, 2, 1, 3, 1, 2, 2, 2, 1, 3, 1, 2, 2, 2, 1, 3, 1, 2, 1, 1, 0, 2, 1, 1, 1, 1, 0, 2, 0, 1, 1, 1, 0, 2, 0, 1, 1, 1, 0, 1, 0, 0, 1, 0, 0, 1, 0, 1, 1, 0, 0, 1, 0, 0, 1, 0, 0, 1, 0, 0, 0, 0, 0, 0, 0, 0, 0, 0, 0, 0, 0, 0, 0, 0, 0, 0, 0, 0, 0, 0, 0, 0, 0, 0, 0, 0, 0, 0, 0, 0, 0, 0, 0, 0, 0, 0, 0, 0, 0, 0, 0, 0, 0, 0, 0, 0, 0, 0, 0, 0, 0, 0, 0, 0, 0, 0, 0, 0, 0, 0, 0, 0, 0, 0, 0, 0, 0, 0, 0, 0, 0, 0, 0, 0, 0, 0, 0, 0, 0, 0, 0, 0, 0, 0, 0, 0, 0, 0, 0, 0, 0, 0, 0, 0, 0, 0, 0, 0, 0, 0, 0, 0, 0, 0, 0, 0, 0, 0, 0, 0, 0, 0, 0, 0, 0, 0, 0, 0]
def A2 : List Int := [0, 0, 1, 4, 8, 12, 14, 18, 22, 24, 29, 30, 37, 36, 43, 44, 50, 48, 60, 54, 64, 64, 69, 60, 73, 58, 71, 66, 72, 60, 76, 60, 70, 64, 71, 56, 77, 56, 69, 62, 70, 52, 79, 52, 67, 58, 64, 44, 70, 44, 57, 54, 59, 42, 67, 40, 53, 50, 50, 36, 60, 34, 44, 48, 41, 30, 53, 26, 35, 38, 32, 20, 40, 18, 24, 30, 21, 14, 29, 12, 15, 20, 12, 8, 21, 8, 10, 16, 8, 6, 17, 4, 6, 12, 4, 4, 11, 2, 4, 8, 3, 2, 7, 0, 2, 6, 0, 2, 5, 0, 2, 4, 0, 0, 3, 0, 0, 2, 0, 0, 1, 0, 0, 0, 0, 0, 0, 0, 0, 0, 0, 0, 0, 0, 0, 0, 0, 0, 0, 0, 0, 0, 0, 0, 0, 0, 0, 0, 0, 0, 0, 0, 0, 0, 0, 0, 0, 0, 0, 0, 0, 0, 0, 0, 0, 0, 0, 0, 0, 0, 0, 0, 0, 0, 0, 0, 0, 0, 0, 0, 0]
def E1 : List Int := [0, 0, 1, 0, 1, 0, 1, 0, 1, 0, 1, 0, 1, 0, 1, 0, 1, 0, 1, 0, 1, 0, 1, 0, 1, 0, 1, 0, 1, 0, 1, 0, 1, 0, 1, 0, 1, 0, 1, 0, 1, 0, 0, 0, 0, 0, 0, 0, 0, 0, 1, 0, 0, 0, 0, 0, 0, 0, 0, 0, 0, 0, 0, 0, 0, 0, 0, 0, 0, 0, 0, 0, 0, 0, 0, 0, 0, 0, 0, 0, 0, 0, 0, 0, 0, 0, 0, 0, 0, 0, 0, 0, 0, 0, 0, 0, 0, 0, 0, 0, 0, 0, 0, 0, 0, 0, 0, 0, 0, 0, 0, 0, 0, 0, 0, 0, 0, 0, 0, 0, 0, 0, 0, 0, 0, 0, 0, 0, 0, 0, 0, 0, 0, 0, 0, 0, 0, 0, 0, 0, 0, 0, 0, 0, 0, 0, 0, 0, 0, 0, 0, 0, 0, 0, 0, 0, 0, 0, 0, 0, 0, 0, 0, 0, 0, 0, 0, 0, 0, 0, 0, 0, 0, 0, 0, 0, 0, 0, 0, 0, 0]
def E2 : List Int := [0, 0, 0, 1, 2, 3, 4, 4, 7, 5, 9, 7, 11, 8, 14, 9, 16, 11, 18, 12, 21, 13, 23, 14, 24, 14, 26, 15, 27, 16, 28, 16, 30, 16, 31, 17, 32, 17, 34, 17, 35, 18, 36, 17, 35, 15, 33, 15, 30, 14, 29, 13, 30, 14, 27, 12, 27, 10, 24, 11, 21, 9, 21, 8, 19, 9, 17, 7, 17, 6, 15, 6, 12, 5, 12, 5, 10, 5, 8, 4, 8, 3, 6, 4, 5, 3, 6, 2, 5, 3, 4, 2, 3, 1, 2, 2, 1, 1, 2, 0, 2, 1, 0, 0, 1, 0, 0, 1, 0, 0, 1, 0, 0, 0, 0, 0, 0, 0, 0, 0, 0, 0, 0, 0, 0, 0, 0, 0, 0, 0, 0, 0, 0, 0, 0, 0, 0, 0, 0, 0, 0, 0, 0, 0, 0, 0, 0, 0, 0, 0, 0, 0, 0, 0, 0, 0, 0, 0, 0, 0, 0, 0, 0, 0, 0, 0, 0, 0, 0, 0, 0, 0, 0, 0, 0, 0, 0, 0, 0, 0, 0]
def E3 : List Int := [0, 0, 0, 0, 1, 4, 9, 16, 23, 34, 45, 58, 74, 88, 111, 124, 154, 168, 204, 216, 264, 270, 328, 334, 397, 394, 470, 452, 541, 518, 613, 578, 689, 638, 759, 702, 830, 758, 907, 814, 976, 876, 1046, 928, 1124, 976, 1183, 1022, 1233, 1048, 1281, 1068, 1310, 1096, 1339, 1110, 1369, 1112, 1380, 1120, 1377, 1108, 1381, 1084, 1362, 1080, 1337, 1056, 1329, 1022, 1296, 1010, 1257, 966, 1231, 918, 1182, 900, 1127, 852, 1091, 802, 1030, 774, 964, 722, 924, 672, 862, 650, 801, 602, 770, 552, 705, 528, 639, 478, 603, 430, 544, 412, 489, 368, 460, 318, 407, 304, 351, 266, 331, 226, 285, 224, 242, 188, 233, 154, 194, 154, 162, 124, 156, 102, 128, 106, 104, 82, 102, 64, 80, 66, 60, 50, 63, 38, 48, 42, 35, 30, 40, 20, 26, 26, 17, 18, 22, 10, 15, 14, 9, 8, 11, 2, 6, 8, 1, 4, 6, 0, 3, 4, 0, 0, 3, 0, 0, 2, 0, 0, 1, 0, 0, 0, 0, 0, 0, 0, 0, 0, 0]
theorem tA1 : tab 181 (cntW 1) = A1 := by kernel_rfl
theorem tA2 : tab 181 (cntW 2) = A2 := (tab_next tA1).trans (by kernel_rfl)
theorem tE1 : tab 181 (cntE 0) = E1 := by kernel_rfl
theorem tE2 : tab 181 (cntE 1) = E2 := (tab_next tA1).trans (by kernel_rfl)
theorem tE3 : tab 181 (cntE 2) = E3 := (tab_next tA2).trans (by kernel_rfl)
theorem daCount_ways (n m : Nat) (hn : n ≤ 1000) (hm : m ≤ 1001) : Ev (fun k => spec_daCount.f k (n : Int) (m : Int) false) (tab (m + 1) (cntW n)) := by
  have := daCount false n m hn hm
  rw [show one = cntW 0 from rfl, runS_ways, Nat.zero_add] at this
  exact this
theorem daCount_ends (n m : Nat) (hn : n ≤ 999) (hm : m ≤ 1001) : Ev (fun k => spec_daCount.f k ((n + 1 : Nat) : Int) (m : Int) true) (tab (m + 1) (cntE n)) := by
  have := daCount true (n + 1) m (by omega) hm
  rw [show one = cntW 0 from rfl, runS_ends, Nat.zero_add] at this
  exact this
theorem daFinishes (n m : Nat) (hn : n ≤ 999) (hm : m ≤ 1001) : Ev (fun k => spec_daFinishes.f k (m : Int) ((n + 1 : Nat) : Int)) (cntE n m) := by
  refine Ev.bind (daCount_ends n m hn hm) ?_
  rw [tab_len]
  exact Ev.congr (fun k => by rw [if_pos (by omega), if_pos (by omega), tab_rd _ (by omega)]) (Ev.now _)
/-- What a law asks first: a score in 0..1001, one to three darts. -/
def askB (a b : Int) : Bool := decide (0 ≤ a ∧ a ≤ 1001) && decide (1 ≤ b ∧ b ≤ 3)
theorem daLeft (a : Int) : spec_daLeft.f a = some (decide (0 ≤ a ∧ a ≤ 1001)) := by unfold spec_daLeft.f; rw [in_eq]; rfl
theorem daDarts (b : Int) : spec_daDarts.f b = some (decide (1 ≤ b ∧ b ≤ 3)) := by unfold spec_daDarts.f; rw [in_eq]; rfl
theorem isFew (b : Int) : impl_isFew.f b = some (decide (1 ≤ b ∧ b ≤ 3)) := by unfold impl_isFew.f; rw [within_eq]; rfl
end Go.Proofs.Ytoaiajgbiaedfaa.Lib
