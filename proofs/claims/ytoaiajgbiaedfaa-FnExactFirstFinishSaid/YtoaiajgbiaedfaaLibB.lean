/- Plain lemmas on the printed counting functions of the darts: the program's waysTo and the reference's daCount fill the same table, told by what one round does at one score. -/
import Derived.Test.YtoaiajgbiaedfaaLibAz
import Derived.Test.YtoaiajgbiaedfaaPAx30
import Derived.Test.YtoaiajgbiaedfaaPAx39
import Derived.KernelRfl
namespace Go.Proofs.Ytoaiajgbiaedfaa.Lib
open Go.RowKit Go.Proofs.Ytoaiajgbiaedfaa.PA Go.Proofs.YtoaiajgbiaedfaaW.PrintWords Go.Proofs.YtoaiajgbiaedfaaW.PrintLast

/-- All darts in their order. -/
def boardL : List S58 := [⟨20, 3⟩, ⟨19, 3⟩, ⟨18, 3⟩, ⟨17, 3⟩, ⟨25, 2⟩, ⟨16, 3⟩, ⟨15, 3⟩, ⟨14, 3⟩, ⟨20, 2⟩, ⟨13, 3⟩, ⟨19, 2⟩, ⟨12, 3⟩, ⟨18, 2⟩, ⟨17, 2⟩, ⟨11, 3⟩, ⟨16, 2⟩, ⟨10, 3⟩, ⟨15, 2⟩, ⟨14, 2⟩, ⟨9, 3⟩, ⟨13, 2⟩, ⟨25, 1⟩, ⟨8, 3⟩, ⟨12, 2⟩, ⟨11, 2⟩, ⟨7, 3⟩, ⟨10, 2⟩, ⟨20, 1⟩, ⟨19, 1⟩, ⟨6, 3⟩, ⟨9, 2⟩, ⟨18, 1⟩, ⟨17, 1⟩, ⟨8, 2⟩, ⟨16, 1⟩, ⟨5, 3⟩, ⟨15, 1⟩, ⟨7, 2⟩, ⟨14, 1⟩, ⟨13, 1⟩, ⟨4, 3⟩, ⟨6, 2⟩, ⟨12, 1⟩, ⟨11, 1⟩, ⟨5, 2⟩, ⟨10, 1⟩, ⟨3, 3⟩, ⟨9, 1⟩, ⟨4, 2⟩, ⟨8, 1⟩, ⟨7, 1⟩, ⟨2, 3⟩, ⟨3, 2⟩, ⟨6, 1⟩, ⟨5, 1⟩, ⟨2, 2⟩, ⟨4, 1⟩, ⟨1, 3⟩, ⟨3, 1⟩, ⟨1, 2⟩, ⟨2, 1⟩, ⟨1, 1⟩]
theorem board_at : impl_board.f 400 = some boardL := by kernel_rfl
theorem daAll_at : spec_daAll.f 400 = some boardL := by kernel_rfl
theorem board : Ev (fun k => impl_board.f k) boardL := Ev.of (fun k => impl_board.mono k) board_at
theorem daAll : Ev (fun k => spec_daAll.f k) boardL := Ev.of (fun k => spec_daAll.mono k) daAll_at
theorem board_len : boardL.length = 62 := by rfl
def sc (d : S58) : Nat := (d.f0 * d.f1).toNat
def okD (d : S58) : Bool := decide (wrap64 (d.f0 * d.f1) = ((d.f0 * d.f1).toNat : Int) ∧ 1 ≤ (d.f0 * d.f1).toNat ∧ (d.f0 * d.f1).toNat ≤ 60)
theorem board_ok : boardL.all okD = true := by kernel_rfl
theorem okD_of {d : S58} (h : okD d = true) : wrap64 (d.f0 * d.f1) = (sc d : Int) ∧ 1 ≤ sc d ∧ sc d ≤ 60 := of_decide_eq_true h

/-! ### Tables -/
def tab (n : Nat) (f : Nat → Int) : List Int := (List.range n).map f
theorem tab_len (n : Nat) (f : Nat → Int) : (tab n f).length = n := by simp [tab]
theorem tab_rd {n : Nat} (f : Nat → Int) {i : Nat} (h : i < n) : rd (tab n f) (i : Int) = f i := by
  unfold rd tab
  rw [Int.toNat_natCast, List.getD_eq_getElem?_getD, List.getElem?_map, List.getElem?_range h]; rfl
theorem tab_congr {n : Nat} {f g : Nat → Int} (h : ∀ j, j < n → f j = g j) : tab n f = tab n g := List.map_congr_left fun j hj => h j (List.mem_range.1 hj)
theorem tab_set (n : Nat) (f : Nat → Int) (i : Nat) (v : Int) : (tab n f).set i v = tab n (fun j => if j = i then v else f j) := by
  apply List.ext_getElem
  · simp [tab]
  · intro j h1 h2
    simp only [tab, List.getElem_set, List.getElem_map, List.getElem_range]
    by_cases h : i = j
    · subst h; simp
    · rw [if_neg h, if_neg (by omega)]
theorem tab_zero (n : Nat) : List.replicate n (0 : Int) = tab n (fun _ => 0) := by
  apply List.ext_getElem
  · simp [tab]
  · intro j h1 h2; simp [tab]
/-- One dart added: to the score i behind its own. -/
def mid (f g : Nat → Int) (s i : Nat) : Nat → Int := fun j => if s ≤ j ∧ j < s + i then wrap64 (f j + g (j - s)) else f j
def full (f g : Nat → Int) (s : Nat) : Nat → Int := fun j => if s ≤ j then wrap64 (f j + g (j - s)) else f j
theorem mid_zero (f g : Nat → Int) (s : Nat) : mid f g s 0 = f := by
  funext j; unfold mid; rw [if_neg (by omega)]
theorem mid_succ (n : Nat) (f g : Nat → Int) (s i : Nat) : (tab n (mid f g s i)).set (s + i) (wrap64 (f (s + i) + g i)) = tab n (mid f g s (i + 1)) := by
  rw [tab_set]
  refine tab_congr fun j hj => ?_
  unfold mid
  by_cases h : j = s + i
  · subst h
    rw [if_pos rfl, if_pos (by omega)]
    congr 3; omega
  · rw [if_neg h]
    by_cases h2 : s ≤ j ∧ j < s + i
    · rw [if_pos h2, if_pos (by omega)]
    · rw [if_neg h2, if_neg (by omega)]
theorem mid_full (n : Nat) (f g : Nat → Int) (s i : Nat) (h : n ≤ s + i) : tab n (mid f g s i) = tab n (full f g s) := by
  refine tab_congr fun j hj => ?_
  unfold mid full
  by_cases h2 : s ≤ j
  · rw [if_pos (by omega), if_pos h2]
  · rw [if_neg (by omega), if_neg h2]

/-- What a round does to the table: each dart that is let by is added. -/
def foldD (al : S58 → Bool) (l : List S58) (f g : Nat → Int) : Nat → Int := l.foldl (fun f d => if al d = true then full f g (sc d) else f) f
def one : Nat → Int := fun j => if j = 0 then 1 else 0
/-! ### The reference's loops -/
theorem count_l2 (x0 : Int) (m : Nat) (hm : m ≤ 1001) (x2 : Bool) (g f : Nat → Int) (l8 l : List S58) (x9 x29 x30 : Int) (dd : S58) (hok : okD dd = true) (r : List Int)
    (hr : Ev (fun k => spec_daCount.l1 k x0 (m : Int) x2 (tab (m + 1) g) l8 x9 (tab (m + 1) (full f g (sc dd))) l x29 (wrap64 (x30 + 1))) r) (d : Nat) : ∀ i : Nat, sc dd + i + d = max (m + 1) (sc dd) →
    Ev (fun k => spec_daCount.l2 k x0 (m : Int) x2 (tab (m + 1) g) l8 x9 (tab (m + 1) (mid f g (sc dd) i)) ((sc dd + i : Nat) : Int) l x29 x30 dd.f0 dd.f1) r := by
  obtain ⟨hw, h1, h60⟩ := okD_of hok
  induction d with
  | zero =>
    intro i hi
    refine Ev.step (fun k => ?_) hr
    simp only [spec_daCount.l2]
    rw [if_neg (by omega), mid_full _ _ _ _ _ (by omega)]
  | succ d ih =>
    intro i hi
    refine Ev.step (fun k => ?_) (ih (i + 1) (by omega))
    simp only [spec_daCount.l2]
    rw [if_pos (by omega), if_pos (by omega), if_pos (by rw [tab_len]; omega), hw, w64 (i := ((sc dd + i : Nat) : Int) - (sc dd : Int)) (by omega) (by omega), show ((sc dd + i : Nat) : Int) - (sc dd : Int) = (i : Int) by omega, if_pos (by omega), if_pos (by rw [tab_len]; omega), tab_rd _ (by omega), tab_rd _ (by omega), Int.toNat_natCast]
    rw [show mid f g (sc dd) i (sc dd + i) = f (sc dd + i) from if_neg (by omega), mid_succ, w64s (n := 2000) (by omega) (by omega)]
    rfl
def alS (x2 : Bool) (last : Bool) (d : S58) : Bool := !(x2 && (last && (d.f1 != 2)))
theorem count_l1 (x0 : Int) (m : Nat) (hm : m ≤ 1001) (x2 : Bool) (g : Nat → Int) (l8 l : List S58) (x9 : Int) (hl : l.length ≤ 1000) (hok : l.all okD = true) (r : List Int) (d : Nat) : ∀ (i : Nat) (f : Nat → Int), i + d = l.length →
    Ev (fun k => spec_daCount.l0 k x0 (m : Int) x2 (tab (m + 1) (foldD (alS x2 (decide (x9 = x0))) (l.drop i) f g)) l8 (wrap64 (x9 + 1))) r →
    Ev (fun k => spec_daCount.l1 k x0 (m : Int) x2 (tab (m + 1) g) l8 x9 (tab (m + 1) f) l (l.length : Int) (i : Int)) r := by
  induction d with
  | zero =>
    intro i f hi hr
    rw [List.drop_of_length_le (by omega)] at hr
    refine Ev.step (fun k => ?_) hr
    simp only [spec_daCount.l1]
    rw [if_neg (by omega)]; rfl
  | succ d ih =>
    intro i f hi hr
    rw [List.drop_eq_getElem_cons (by omega)] at hr
    obtain ⟨dd, hd⟩ : ∃ dd, dd = l[i]'(by omega) := ⟨_, rfl⟩
    rw [← hd] at hr
    have hdd : okD dd = true := by rw [hd]; exact List.all_eq_true.1 hok _ (List.getElem_mem _)
    obtain ⟨hw, h1, h60⟩ := okD_of hdd
    refine Ev.step (f := fun k => spec_daCount.j2 k x0 (m : Int) x2 (tab (m + 1) g) l8 x9 (tab (m + 1) f) l (l.length : Int) (i : Int) (!(alS x2 (decide (x9 = x0)) dd)) dd.f0 dd.f1) (fun k => ?_) ?_
    · simp only [spec_daCount.l1]
      rw [if_pos (by omega), if_pos (by omega), if_pos (by omega), rd58 l i (by omega), ← hd]
      unfold alS
      cases x2
      · simp
      · by_cases h6 : x9 = x0
        · simp [h6]
        · simp [h6]
    · cases ha : alS x2 (decide (x9 = x0)) dd
      · have e : foldD (alS x2 (decide (x9 = x0))) (dd :: l.drop (i + 1)) f g = foldD (alS x2 (decide (x9 = x0))) (l.drop (i + 1)) f g := by
          simp only [foldD, List.foldl_cons, ha, Bool.false_eq_true, if_false]
        rw [e] at hr
        refine Ev.step (fun k => ?_) (ih (i + 1) f (by omega) hr)
        simp only [spec_daCount.j2, Bool.not_false, if_true]
        rw [w64s (n := 1000) (by omega) (by omega)]
      · have e : foldD (alS x2 (decide (x9 = x0))) (dd :: l.drop (i + 1)) f g = foldD (alS x2 (decide (x9 = x0))) (l.drop (i + 1)) (full f g (sc dd)) g := by
          simp only [foldD, List.foldl_cons, ha, if_true]
        rw [e] at hr
        have h2 := ih (i + 1) (full f g (sc dd)) (by omega) hr
        have h3 := count_l2 x0 m hm x2 g f l8 l x9 (l.length : Int) (i : Int) dd hdd r (by rw [w64s (n := 1000) (by omega) (by omega)]; exact h2) (max (m + 1) (sc dd) - sc dd) 0 (by omega)
        rw [mid_zero] at h3
        refine Ev.step (fun k => ?_) h3
        simp only [spec_daCount.j2, Bool.not_true, Bool.false_eq_true, if_false]
        rw [hw]; rfl
def runS (x2 : Bool) : Nat → (Nat → Int) → Nat → Int
  | 0, g => g
  | d + 1, g => runS x2 d (foldD (alS x2 (decide (d = 0))) boardL (fun _ => 0) g)
theorem count_l0 (m : Nat) (hm : m ≤ 1001) (x2 : Bool) (d : Nat) : ∀ (i n : Nat) (g : Nat → Int), i + d = n + 1 → n ≤ 1000 → Ev (fun k => spec_daCount.l0 k (n : Int) (m : Int) x2 (tab (m + 1) g) boardL (i : Int)) (tab (m + 1) (runS x2 d g)) := by
  induction d with
  | zero =>
    intro i n g hi hn
    refine Ev.step (f := fun _ => some (tab (m + 1) g)) (fun k => ?_) (Ev.now _)
    simp only [spec_daCount.l0]
    rw [if_neg (by omega)]
  | succ d ih =>
    intro i n g hi hn
    have h := ih (i + 1) n (foldD (alS x2 (decide (d = 0))) boardL (fun _ => 0) g) (by omega) hn
    have e : decide ((i : Int) = (n : Int)) = decide (d = 0) := by
      by_cases h0 : d = 0
      · rw [decide_eq_true h0, decide_eq_true (by omega)]
      · rw [decide_eq_false h0, decide_eq_false (by omega)]
    have h2 := count_l1 (n : Int) m hm x2 g boardL boardL (i : Int) (by rw [board_len]; omega) board_ok _ boardL.length 0 (fun _ => 0) (by omega) (by rw [List.drop_zero, w64s (n := 2000) (by omega) (by omega), e]; exact h)
    refine Ev.step (fun k => ?_) h2
    simp only [spec_daCount.l0]
    rw [if_pos (by omega), w64 (by omega) (by omega), show ((m : Int) + 1) = ((m + 1 : Nat) : Int) by omega, Int.toNat_natCast, if_pos (by omega), if_pos (by omega), tab_zero]
    rfl
theorem daCount (x2 : Bool) (n m : Nat) (hn : n ≤ 1000) (hm : m ≤ 1001) : Ev (fun k => spec_daCount.f k (n : Int) (m : Int) x2) (tab (m + 1) (runS x2 n one)) := by
  refine Ev.congr (f := fun k => (spec_daAll.f k).bind fun t => spec_daCount.l0 k (n : Int) (m : Int) x2 (tab (m + 1) one) t 1) (fun k => ?_) (Ev.bind daAll (count_l0 m hm x2 n 1 n one (by omega) hn))
  unfold spec_daCount.f
  rw [w64 (by omega) (by omega), show ((m : Int) + 1) = ((m + 1 : Nat) : Int) by omega, Int.toNat_natCast, if_pos (by omega), if_pos (by omega)]
  simp only [Option.bind_some]
  rw [if_pos (by rw [List.length_replicate]; omega), tab_zero, show (0 : Int).toNat = 0 from rfl, tab_set]
  rfl
/-- One score of a round. -/
def stepJ (al : S58 → Bool) (g : Nat → Int) (j : Nat) : Int := boardL.foldl (fun a d => if al d = true ∧ sc d ≤ j then wrap64 (a + g (j - sc d)) else a) 0
theorem foldD_at (al : S58 → Bool) (g : Nat → Int) (j : Nat) : ∀ (l : List S58) (f : Nat → Int), foldD al l f g j = l.foldl (fun a d => if al d = true ∧ sc d ≤ j then wrap64 (a + g (j - sc d)) else a) (f j)
  | [], f => rfl
  | d :: l, f => by
    simp only [foldD, List.foldl_cons]
    have := foldD_at al g j l (if al d = true then full f g (sc d) else f)
    simp only [foldD] at this
    rw [this]
    congr 1
    by_cases h : al d = true
    · rw [if_pos h]; unfold full
      by_cases h2 : sc d ≤ j
      · rw [if_pos h2, if_pos ⟨h, h2⟩]
      · rw [if_neg h2, if_neg (fun h3 => h2 h3.2)]
    · rw [if_neg h, if_neg (fun h3 => h h3.1)]
theorem foldD_step (al : S58 → Bool) (g : Nat → Int) : foldD al boardL (fun _ => 0) g = stepJ al g := by
  funext j; exact foldD_at al g j boardL (fun _ => 0)
end Go.Proofs.Ytoaiajgbiaedfaa.Lib
