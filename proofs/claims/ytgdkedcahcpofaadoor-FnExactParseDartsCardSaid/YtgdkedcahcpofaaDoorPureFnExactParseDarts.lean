/- For every text, the program's ParseDarts answers what the reference's answers. (The pure statement behind the row: over numbers and lists alone.) -/
import Derived.Test.YtgdkedcahcpofaaDoorPAx42
import Derived.Test.YtgdkedcahcpofaaDoorPAx34
import Derived.Test.YtgdkedcahcpofaaDoorPAx39
import Derived.Test.YtgdkedcahcpofaaDoorPAx33
import Derived.Test.YtgdkedcahcpofaaDoorPAx38
import Derived.Test.YtgdkedcahcpofaaDoorPAx31
import Derived.Test.YtgdkedcahcpofaaDoorPAx21
import Derived.Test.YtgdkedcahcpofaaDoorPAx4
import Derived.Test.YtgdkedcahcpofaaDoorPAx1
import Derived.Test.YtgdkedcahcpofaaDoorPAx20
import Derived.Test.YtgdkedcahcpofaaDoorPAx13
import Derived.Test.YtgdkedcahcpofaaDoorPAx8
import Derived.Test.YtgdkedcahcpofaaDoorPAx30
import Derived.Test.YtgdkedcahcpofaaDoorPAx40
import Derived.Test.YtgdkedcahcpofaaDoorPAx41
import Derived.Test.YtgdkedcahcpofaaDoorPAx18
import Derived.Test.YtgdkedcahcpofaaDoorPAx17
import Derived.Test.YtgdkedcahcpofaaDoorPAx7
import Derived.KernelRfl
import Derived.Laws.Strings
import Derived.Lib.SplitLaws
set_option linter.unusedSimpArgs false
set_option linter.unusedVariables false
namespace Go.Proofs.YtgdkedcahcpofaaDoor.Pure
open Go.RowKit Go.Proofs.YtgdkedcahcpofaaDoor.PA Go.Proofs.YtgdkedcahcpofaaDoorW.PrintWords Go.Proofs.YtgdkedcahcpofaaDoorW.PrintLast Go.Proofs.YtgdkedcahcpofaaDoorW.PrintMore

theorem in_eq (a b c : Int) : spec_l1In.f a b c = some (decide (b ≤ a ∧ a ≤ c)) := by
 unfold spec_l1In.f; by_cases h : b ≤ a <;> simp [h]
theorem within_eq (a b c : Int) : impl_within.f a b c = some (decide (b ≤ a ∧ a ≤ c)) := by
 unfold impl_within.f; by_cases h : b ≤ a <;> simp [h]
/-- A dart, told as the reference tells it. -/
def good (a b : Int) : Bool := if a = 25 then decide (1 ≤ b ∧ b ≤ 2) else decide ((1 ≤ a ∧ a ≤ 20) ∧ 1 ≤ b ∧ b ≤ 3)
theorem daGood (a b : Int) : spec_daGood.f a b = some (good a b) := by
 simp only [spec_daGood.f, good, in_eq, Option.bind_some]
 by_cases h : a = 25
 ·
  simp [h]
 ·
  by_cases h1 : 1 ≤ a ∧ a ≤ 20
  ·
   simp [h, h1]
  ·
   simp only [h, h1, if_false, decide_false, Bool.false_eq_true, false_and]
theorem isDart (a b : Int) : impl_IsDart.f a b = some (good a b) := by
 simp only [impl_IsDart.f, good, within_eq, Option.bind_some]
 by_cases h : a = 25
 ·
  subst h; simp
 ·
  by_cases h1 : 1 ≤ a ∧ a ≤ 20
  ·
   by_cases h2 : 1 ≤ b ∧ b ≤ 3
   ·
    simp [h, h1, h2]
   ·
    simp [h, h1, h2]
  ·
   simp only [h, h1, if_false, decide_false, Bool.false_eq_true, false_and]
theorem good_small {a b : Int} (h : good a b = true) : ∃ i j : Nat, i < 26 ∧ j < 4 ∧ a = (i : Int) ∧ b = (j : Int) := by
 refine ⟨a.toNat, b.toNat, ?_⟩
 unfold good at h
 by_cases h1 : a = 25
 ·
  rw [if_pos h1] at h
  have := of_decide_eq_true h
  omega
 ·
  rw [if_neg h1] at h
  have := of_decide_eq_true h
  omega
theorem w64 {i : Int} (h0 : -9223372036854775808 ≤ i) (h : i ≤ 9223372036854775807) : wrap64 i = i := by unfold wrap64; omega
theorem list_inj {x y : ByteArray} : (x.toList = y.toList) ↔ x = y := by
 rw [ByteArray.toList_eq, ByteArray.toList_eq]
 constructor
 ·
  intro h; cases x; cases y; simp only at h; congr 1; exact Array.toList_inj.1 h
 ·
  intro h; rw [h]
theorem list_beq (x y : ByteArray) : (x.toList == y.toList) = decide (x = y) := by
 by_cases h : x = y
 ·
  rw [decide_eq_true h, h]; exact beq_self_eq_true _
 ·
  rw [decide_eq_false h]; exact beq_eq_false_iff_ne.2 (fun e => h (list_inj.1 e))
/-! ### Reading ends -/
theorem read_l0 (s : ByteArray) (hs : s.size ≤ 6) (d : Nat) : ∀ (i : Nat) (x : Int), i + d = s.size → ∃ r, Ev (fun k => spec_l1Read.l0 k s x (i : Int)) r := by
 induction d with
 | zero =>
  intro i x hi
  refine ⟨x, Ev.step (f := fun _ => some x) (fun k => ?_) (Ev.now _)⟩
  simp only [spec_l1Read.l0]
  rw [if_neg (by omega)]
 | succ d ih =>
  intro i x hi
  by_cases h1 : bt s (i : Int) < 48
  ·
   refine ⟨-1, Ev.step (f := fun _ => some (-1)) (fun k => ?_) (Ev.now _)⟩
   simp only [spec_l1Read.l0]
   rw [if_pos (by omega), if_pos (by omega), if_pos h1]
  ·
   by_cases h2 : bt s (i : Int) > 57
   ·
    refine ⟨-1, Ev.step (f := fun _ => some (-1)) (fun k => ?_) (Ev.now _)⟩
    simp only [spec_l1Read.l0]
    rw [if_pos (by omega), if_pos (by omega), if_neg h1, if_pos h2]
   ·
    obtain ⟨r, hr⟩ := ih (i + 1) (wrap64 ((wrap64 (10 * x)) + (((bt s (i : Int)) - 48) % 256))) (by omega)
    refine ⟨r, Ev.step (fun k => ?_) hr⟩
    simp only [spec_l1Read.l0]
    rw [if_pos (by omega), if_pos (by omega), if_neg h1, if_neg h2, w64 (i := (i : Int) + 1) (by omega) (by omega)]
    rfl
theorem read_ends (s : ByteArray) : ∃ r, Ev (fun k => spec_l1Read.f k s) r := by
 have ht : Ev (fun k => spec_l1Read.j0 k s true) (-1) := Ev.step (f := fun _ => some (-1)) (fun k => by simp only [spec_l1Read.j0]; rw [if_pos trivial]) (Ev.now _)
 by_cases h : 1 ≤ (s.size : Int) ∧ (s.size : Int) ≤ 6
 ·
  obtain ⟨r, hr⟩ := read_l0 s (by omega) s.size 0 0 (by omega)
  have hf : Ev (fun k => spec_l1Read.j0 k s false) r := Ev.step (fun k => by simp only [spec_l1Read.j0]; rw [if_neg Bool.false_ne_true]; rfl) hr
  by_cases h2 : bt s 0 = 48
  ·
   cases h3 : decide ((s.size : Int) > 1)
   ·
    exact ⟨r, Ev.congr (fun k => by unfold spec_l1Read.f; rw [in_eq, decide_eq_true h, Option.bind_some, if_pos rfl, if_pos (by omega), if_pos h2, h3]) hf⟩
   ·
    exact ⟨-1, Ev.congr (fun k => by unfold spec_l1Read.f; rw [in_eq, decide_eq_true h, Option.bind_some, if_pos rfl, if_pos (by omega), if_pos h2, h3]) ht⟩
  ·
   exact ⟨r, Ev.congr (fun k => by unfold spec_l1Read.f; rw [in_eq, decide_eq_true h, Option.bind_some, if_pos rfl, if_pos (by omega), if_neg h2]) hf⟩
 ·
  exact ⟨-1, Ev.congr (fun k => by unfold spec_l1Read.f; rw [in_eq, decide_eq_false h, Option.bind_some, if_neg Bool.false_ne_true]) ht⟩
/-! ### Texts -/
def txt (i j : Nat) : ByteArray := match spec_daText.f 10 (i : Int) (j : Int) with
 | some x => x
 | none => ByteArray.empty
theorem txt_all : (List.range 26).all (fun i => (List.range 4).all (fun j => !(good (i : Int) (j : Int)) || (spec_daText.f 10 (i : Int) (j : Int)).isSome)) = true := by kernel_rfl
theorem txt_ev (i j : Nat) (hi : i < 26) (hj : j < 4) (hg : good (i : Int) (j : Int) = true) : Ev (fun k => spec_daText.f k (i : Int) (j : Int)) (txt i j) := by
 have h := List.all_eq_true.1 (List.all_eq_true.1 txt_all i (List.mem_range.2 hi)) j (List.mem_range.2 hj)
 rw [hg, Bool.not_true, Bool.false_or] at h
 refine Ev.of (fun k => spec_daText.mono _ _ k) (k := 10) ?_
 unfold txt
 revert h
 cases spec_daText.f 10 (i : Int) (j : Int) with
 | none => intro h; cases h
 | some x => intro _; rfl
/-- What a reading that ends well has read. -/
def Told (s : ByteArray) (r : Int × Int × Bool) : Prop := r.2.2 = true → ∃ i j : Nat, i < 26 ∧ j < 4 ∧ good (i : Int) (j : Int) = true ∧ s = txt i j
theorem tail_ends (t b : Int) (s : ByteArray) : ∃ r, Ev (fun k => (spec_daGood.f t b).bind fun t220 => (if t220 = true then ((spec_daText.f k t b).bind fun t221 => (some (t, b, (t221.toList == s.toList)))) else (some (t, b, false)))) r ∧ Told s r := by
 cases hg : good t b
 ·
  exact ⟨(t, b, false), Ev.congr (fun k => by rw [daGood, hg, Option.bind_some, if_neg Bool.false_ne_true]) (Ev.now _), fun h => by cases h⟩
 ·
  obtain ⟨i, j, hi, hj, rfl, rfl⟩ := good_small hg
  refine ⟨((i : Int), (j : Int), (txt i j).toList == s.toList), Ev.congr (f := fun k => (spec_daText.f k (i : Int) (j : Int)).bind fun t221 => some ((i : Int), (j : Int), (t221.toList == s.toList))) (fun k => by rw [daGood, hg, Option.bind_some, if_pos rfl]) (Ev.bind (txt_ev i j hi hj hg) (Ev.now _)), fun h => ?_⟩
  rw [list_beq] at h
  exact ⟨i, j, hi, hj, hg, (of_decide_eq_true h).symm⟩
theorem parse_ends (s : ByteArray) : ∃ r, Ev (fun k => spec_daParse.f k s) r ∧ Told s r := by
 by_cases h : 1 ≤ (s.size : Int) ∧ (s.size : Int) ≤ 3
 ·
  obtain ⟨t, ht⟩ := read_ends s
  obtain ⟨u, hu⟩ := read_ends (s.extract 1 s.size)
  by_cases h1 : bt s 0 = 100
  ·
   obtain ⟨r, hr, htold⟩ := tail_ends u 2 s
   refine ⟨r, ?_, htold⟩
   refine Ev.congr (f := fun k => (spec_l1Read.f k s).bind fun _ => (spec_l1Read.f k (s.extract 1 s.size)).bind fun t219 => ((spec_daGood.f t219 2).bind fun t220 => (if t220 = true then ((spec_daText.f k t219 2).bind fun t221 => (some (t219, 2, (t221.toList == s.toList)))) else (some (t219, 2, false))))) (fun k => ?_) (Ev.bind ht (Ev.bind hu hr))
   unfold spec_daParse.f
   rw [in_eq, decide_eq_true h, Option.bind_some, if_pos rfl]
   congr 1; funext t217
   rw [if_pos (by omega), if_pos h1, if_pos (by omega)]
  ·
   by_cases h2 : bt s 0 = 116
   ·
    obtain ⟨r, hr, htold⟩ := tail_ends u 3 s
    refine ⟨r, ?_, htold⟩
    refine Ev.congr (f := fun k => (spec_l1Read.f k s).bind fun _ => (spec_l1Read.f k (s.extract 1 s.size)).bind fun t219 => ((spec_daGood.f t219 3).bind fun t220 => (if t220 = true then ((spec_daText.f k t219 3).bind fun t221 => (some (t219, 3, (t221.toList == s.toList)))) else (some (t219, 3, false))))) (fun k => ?_) (Ev.bind ht (Ev.bind hu hr))
    unfold spec_daParse.f
    rw [in_eq, decide_eq_true h, Option.bind_some, if_pos rfl]
    congr 1; funext t217
    rw [if_pos (by omega), if_neg h1, if_pos h2, if_pos (by omega)]
   ·
    obtain ⟨r, hr, htold⟩ := tail_ends t 1 s
    refine ⟨r, ?_, htold⟩
    refine Ev.congr (f := fun k => (spec_l1Read.f k s).bind fun t217 => ((spec_daGood.f t217 1).bind fun t220 => (if t220 = true then ((spec_daText.f k t217 1).bind fun t221 => (some (t217, 1, (t221.toList == s.toList)))) else (some (t217, 1, false))))) (fun k => ?_) (Ev.bind ht hr)
    unfold spec_daParse.f
    rw [in_eq, decide_eq_true h, Option.bind_some, if_pos rfl]
    congr 1; funext t217
    rw [if_pos (by omega), if_neg h1, if_neg h2]
 ·
  exact ⟨(0, 0, false), Ev.congr (fun k => by unfold spec_daParse.f; rw [in_eq, decide_eq_false h, Option.bind_some, if_neg Bool.false_ne_true]) (Ev.now _), fun h => by cases h⟩
/-! ### A dart's text is read as that dart -/
def parse2 (k : Nat) (a0 : ByteArray) : Option (Int × Int × Bool) := (spec_l1In.f (a0.size : Int) 1 3).bind fun t216 => (if t216 = true then ((spec_l1Read.f k a0).bind fun t217 => (if 0 < (a0.size : Int) then (if (bt a0 0) = 100 then (if 1 ≤ (a0.size : Int) then ((spec_l1Read.f k (a0.extract 1 a0.size)).bind fun t219 => ((spec_daGood.f t219 2).bind fun t220 => (if t220 = true then ((spec_daText.f k t219 2).bind fun t221 => (some (t219, 2, (decide (t221 = a0))))) else (some (t219, 2, false))))) else (none)) else (if (bt a0 0) = 116 then (if 1 ≤ (a0.size : Int) then ((spec_l1Read.f k (a0.extract 1 a0.size)).bind fun t222 => ((spec_daGood.f t222 3).bind fun t223 => (if t223 = true then ((spec_daText.f k t222 3).bind fun t224 => (some (t222, 3, (decide (t224 = a0))))) else (some (t222, 3, false))))) else (none)) else ((spec_daGood.f t217 1).bind fun t225 => (if t225 = true then ((spec_daText.f k t217 1).bind fun t226 => (some (t217, 1, (decide (t226 = a0))))) else (some (t217, 1, false)))))) else (none))) else (some (0, 0, false)))
theorem parse_eq (k : Nat) (s : ByteArray) : spec_daParse.f k s = parse2 k s := by
 unfold spec_daParse.f parse2
 simp only [list_beq]
theorem back_all : (List.range 26).all (fun i => (List.range 4).all (fun j => !(good (i : Int) (j : Int)) || decide (parse2 20 (txt i j) = some ((i : Int), (j : Int), true)))) = true := by kernel_rfl
theorem back (i j : Nat) (hi : i < 26) (hj : j < 4) (hg : good (i : Int) (j : Int) = true) : Ev (fun k => spec_daParse.f k (txt i j)) ((i : Int), (j : Int), true) := by
 have h := List.all_eq_true.1 (List.all_eq_true.1 back_all i (List.mem_range.2 hi)) j (List.mem_range.2 hj)
 rw [hg, Bool.not_true, Bool.false_or] at h
 exact Ev.of (fun k => spec_daParse.mono _ k) (k := 20) ((parse_eq 20 _).trans (of_decide_eq_true h))
/-! ### The program's -/
def boardL : List S31 := [⟨20, 3⟩, ⟨19, 3⟩, ⟨18, 3⟩, ⟨17, 3⟩, ⟨25, 2⟩, ⟨16, 3⟩, ⟨15, 3⟩, ⟨14, 3⟩, ⟨20, 2⟩, ⟨13, 3⟩, ⟨19, 2⟩, ⟨12, 3⟩, ⟨18, 2⟩, ⟨17, 2⟩, ⟨11, 3⟩, ⟨16, 2⟩, ⟨10, 3⟩, ⟨15, 2⟩, ⟨14, 2⟩, ⟨9, 3⟩, ⟨13, 2⟩, ⟨25, 1⟩, ⟨8, 3⟩, ⟨12, 2⟩, ⟨11, 2⟩, ⟨7, 3⟩, ⟨10, 2⟩, ⟨20, 1⟩, ⟨19, 1⟩, ⟨6, 3⟩, ⟨9, 2⟩, ⟨18, 1⟩, ⟨17, 1⟩, ⟨8, 2⟩, ⟨16, 1⟩, ⟨5, 3⟩, ⟨15, 1⟩, ⟨7, 2⟩, ⟨14, 1⟩, ⟨13, 1⟩, ⟨4, 3⟩, ⟨6, 2⟩, ⟨12, 1⟩, ⟨11, 1⟩, ⟨5, 2⟩, ⟨10, 1⟩, ⟨3, 3⟩, ⟨9, 1⟩, ⟨4, 2⟩, ⟨8, 1⟩, ⟨7, 1⟩, ⟨2, 3⟩, ⟨3, 2⟩, ⟨6, 1⟩, ⟨5, 1⟩, ⟨2, 2⟩, ⟨4, 1⟩, ⟨1, 3⟩, ⟨3, 1⟩, ⟨1, 2⟩, ⟨2, 1⟩, ⟨1, 1⟩]
theorem board : Ev (fun k => impl_board.f k) boardL := Ev.of (fun k => impl_board.mono k) (k := 400) (by kernel_rfl)
def dtxt (d : S31) : ByteArray := txt d.f0.toNat d.f1.toNat
def okd (d : S31) : Bool := good d.f0 d.f1 && (decide (impl_DartText.f d.f0 d.f1 = some (dtxt d, true)) && (decide (d.f0.toNat < 26 ∧ d.f1.toNat < 4 ∧ ((d.f0.toNat : Nat) : Int) = d.f0 ∧ ((d.f1.toNat : Nat) : Int) = d.f1)))
theorem board_ok : boardL.all okd = true := by kernel_rfl
theorem board_has : (List.range 26).all (fun i => (List.range 4).all (fun j => !(good (i : Int) (j : Int)) || boardL.any (fun d => decide (d.f0 = (i : Int)) && decide (d.f1 = (j : Int))))) = true := by kernel_rfl
theorem rd26 (l : List S31) (i : Nat) (h : i < l.length) : rd_T31 l (i : Int) = l[i] := by simp [rd_T31, List.getD, h]
theorem board_len : boardL.length = 62 := by rfl
theorem impl_l0 (s : ByteArray) (d : Nat) : ∀ i : Nat, i + d = boardL.length → Ev (fun k => impl_ParseDart.l0 k s boardL (boardL.length : Int) (i : Int)) (match (boardL.drop i).find? (fun e => decide (dtxt e = s)) with | some e => (e.f0, e.f1, true) | none => (0, 0, false)) := by
 have hl := board_len
 induction d with
 | zero =>
  intro i hi
  rw [List.drop_of_length_le (by omega)]
  refine Ev.step (f := fun _ => some (0, 0, false)) (fun k => ?_) (Ev.now _)
  simp only [impl_ParseDart.l0]
  rw [if_neg (by omega)]
 | succ d ih =>
  intro i hi
  have hlt : i < boardL.length := by omega
  have h2 := ih (i + 1) (by omega)
  rw [List.drop_eq_getElem_cons hlt]
  have hok := List.all_eq_true.1 board_ok boardL[i] (List.getElem_mem _)
  unfold okd at hok
  rw [Bool.and_eq_true, Bool.and_eq_true] at hok
  have htx := of_decide_eq_true hok.2.1
  have hs : ∀ k, impl_ParseDart.l0 (k + 1) s boardL (boardL.length : Int) (i : Int) = if dtxt boardL[i] = s then some (boardL[i].f0, boardL[i].f1, true) else impl_ParseDart.l0 k s boardL (boardL.length : Int) ((i + 1 : Nat) : Int) := by
   intro k
   simp only [impl_ParseDart.l0]
   rw [if_pos (by omega), if_pos (by omega), if_pos (by omega), rd26 boardL i hlt, htx, Option.bind_some, w64 (i := (i : Int) + 1) (by omega) (by omega)]
   by_cases h : dtxt boardL[i] = s
   ·
    rw [if_pos h, if_pos (list_inj.2 h)]
   ·
    rw [if_neg h, if_neg (fun e => h (list_inj.1 e))]; rfl
  by_cases h : dtxt boardL[i] = s
  ·
   rw [List.find?_cons_of_pos (p := fun e => decide (dtxt e = s)) (decide_eq_true h)]
   exact Ev.step (fun k => by rw [hs, if_pos h]) (Ev.now _)
  ·
   rw [List.find?_cons_of_neg (p := fun e => decide (dtxt e = s)) (fun e => h (of_decide_eq_true e))]
   exact Ev.step (fun k => by rw [hs, if_neg h]) h2
theorem w64s {i n : Nat} (h : i < n) (hn : n ≤ 4611686018427387904) : wrap64 ((i : Int) + 1) = ((i + 1 : Nat) : Int) := by rw [w64 (by omega) (by omega)]; omega
theorem eqDs_l0 (l : List S31) (hl : l.length ≤ 4611686018427387904) (d : Nat) : ∀ i : Nat, i + d = l.length → Ev (fun k => laws_eqDartS.l0 k l l (i : Int)) true := by
  induction d with
  | zero =>
    intro i hi
    refine Ev.step (f := fun _ => some true) (fun k => ?_) (Ev.now _)
    simp only [laws_eqDartS.l0]
    rw [if_neg (by omega)]
  | succ d ih =>
    intro i hi
    refine Ev.step (f := fun k => laws_eqDartS.l0 k l l ((i + 1 : Nat) : Int)) (fun k => ?_) (ih (i + 1) (by omega))
    simp only [laws_eqDartS.l0]
    rw [if_pos (by omega), if_pos (by omega), if_pos (by omega)]
    simp only [laws_eqDart.f, if_true, Option.bind_some]
    rw [w64s (by omega) hl]
theorem eqDs (l : List S31) (hl : l.length ≤ 4611686018427387904) : Ev (fun k => laws_eqDartS.f k l l) true := by
  refine Ev.congr (fun k => ?_) (eqDs_l0 l hl l.length 0 (by omega))
  unfold laws_eqDartS.f
  rw [if_pos rfl]; rfl
def tabD (n : Nat) (f : Nat → S31) : List S31 := (List.range n).map f
theorem tabD_len (n : Nat) (f : Nat → S31) : (tabD n f).length = n := by simp [tabD]
theorem tabD_rd {n : Nat} (f : Nat → S31) {i : Nat} (h : i < n) : rd_T31 (tabD n f) (i : Int) = f i := by
  rw [rd26 _ i (by rw [tabD_len]; exact h)]
  simp [tabD]
theorem tabD_congr {n : Nat} {f g : Nat → S31} (h : ∀ j, j < n → f j = g j) : tabD n f = tabD n g := List.map_congr_left fun j hj => h j (List.mem_range.1 hj)
theorem tabD_set (n : Nat) (f : Nat → S31) (i : Nat) (v : S31) : (tabD n f).set i v = tabD n (fun j => if j = i then v else f j) := by
  apply List.ext_getElem
  · simp [tabD]
  · intro j h1 h2
    simp only [tabD, List.getElem_set, List.getElem_map, List.getElem_range]
    by_cases h : i = j
    · subst h; simp
    · rw [if_neg h, if_neg (by omega)]
theorem tabD_self (l : List S31) : tabD l.length (fun j => l.getD j z31) = l := by
  apply List.ext_getElem
  · simp [tabD]
  · intro j h1 h2
    simp [tabD, List.getD, h2]
def mk2 (j : Nat) : S31 := ⟨((2 * j + 1 : Nat) : Int), ((2 * j + 2 : Nat) : Int)⟩
def markD (f : Nat → S31) (i : Nat) : Nat → S31 := fun j => if j < i then mk2 j else f j
theorem markD_set (n : Nat) (f : Nat → S31) (i : Nat) (v : S31) : ((tabD n (markD f i)).set i v).set i (mk2 i) = tabD n (markD f (i + 1)) := by
  rw [tabD_set, tabD_set]
  refine tabD_congr fun j _ => ?_
  unfold markD
  by_cases h : j = i
  · rw [if_pos h, if_pos (by omega), h]
  · rw [if_neg h, if_neg h]
    by_cases h2 : j < i
    · rw [if_pos h2, if_pos (by omega)]
    · rw [if_neg h2, if_neg (by omega)]
theorem set_rd (n : Nat) (f : Nat → S31) (i : Nat) (h : i < n) (v : S31) : rd_T31 ((tabD n f).set i v) (i : Int) = v := by
  rw [tabD_set, tabD_rd _ h, if_pos rfl]
theorem markDs_l0 (n : Nat) (hn : n ≤ 1000000000000000000) (f : Nat → S31) (d : Nat) : ∀ i : Nat, i + d = n → Ev (fun k => laws_markDartS.l0 k (tabD n (markD f i)) ((2 * i + 1 : Nat) : Int) (i : Int)) (((2 * n + 1 : Nat) : Int), tabD n mk2) := by
  induction d with
  | zero =>
    intro i hi
    refine Ev.step (f := fun _ => some (((2 * n + 1 : Nat) : Int), tabD n mk2)) (fun k => ?_) (Ev.now _)
    simp only [laws_markDartS.l0]
    rw [if_neg (by rw [tabD_len]; omega), show i = n by omega]
    congr 2
    exact tabD_congr fun j hj => if_pos hj
  | succ d ih =>
    intro i hi
    refine Ev.step (fun k => ?_) (ih (i + 1) (by omega))
    simp only [laws_markDartS.l0]
    rw [if_pos (by rw [tabD_len]; omega), if_pos (by omega), Int.toNat_natCast, Option.bind_some, set_rd n _ i (by omega), tabD_rd _ (by omega), w64s (n := 4611686018427387904) (by omega) (by omega), w64s (n := 4611686018427387904) (by omega) (by omega), w64s (n := 4611686018427387904) (by omega) (by omega)]
    congr 1
    exact markD_set n f i _
theorem markDs (l : List S31) (hl : l.length ≤ 1000000000000000000) : Ev (fun k => laws_markDartS.f k l 1) (((2 * l.length + 1 : Nat) : Int), tabD l.length mk2) := by
  have h := markDs_l0 l.length hl (fun j => l.getD j z31) l.length 0 (by omega)
  rw [show tabD l.length (markD (fun j => l.getD j z31) 0) = l from (tabD_congr fun j _ => if_neg (by omega)).trans (tabD_self l)] at h
  exact Ev.congr (fun k => rfl) h
theorem heldDs_l0 (n : Nat) (hn : n ≤ 1000000000000000000) (d : Nat) : ∀ i : Nat, i + d = n → Ev (fun k => laws_heldDartS.l0 k (tabD n mk2) ((2 * i + 1 : Nat) : Int) (i : Int)) ((2 * n + 1 : Nat) : Int) := by
  induction d with
  | zero =>
    intro i hi
    refine Ev.step (f := fun _ => some ((2 * n + 1 : Nat) : Int)) (fun k => ?_) (Ev.now _)
    simp only [laws_heldDartS.l0]
    rw [if_neg (by rw [tabD_len]; omega), show i = n by omega]
  | succ d ih =>
    intro i hi
    refine Ev.step (fun k => ?_) (ih (i + 1) (by omega))
    simp only [laws_heldDartS.l0]
    rw [if_pos (by rw [tabD_len]; omega), if_pos (by omega), tabD_rd _ (by omega), w64s (n := 4611686018427387904) (by omega) (by omega), if_pos (show (mk2 i).f0 = ((2 * i + 1 : Nat) : Int) from rfl), if_pos (show (mk2 i).f1 = ((2 * i + 1 + 1 : Nat) : Int) from rfl), w64s (n := 4611686018427387904) (by omega) (by omega), w64s (n := 4611686018427387904) (by omega) (by omega)]
    rfl
theorem heldDs (n : Nat) (hn : n ≤ 1000000000000000000) : Ev (fun k => laws_heldDartS.f k (tabD n mk2) 1) ((2 * n + 1 : Nat) : Int) :=
  Ev.congr (fun k => rfl) (heldDs_l0 n hn n 0 (by omega))
/-! ### One word -/
def outD (s : ByteArray) : Option S31 := boardL.find? (fun e => decide (dtxt e = s))
theorem one (s : ByteArray) : (∃ d, outD s = some d ∧ Ev (fun k => spec_daParse.f k s) (d.f0, d.f1, true) ∧ Ev (fun k => impl_ParseDart.f k s) (d.f0, d.f1, true)) ∨
    (outD s = none ∧ (∃ x y, Ev (fun k => spec_daParse.f k s) (x, y, false)) ∧ Ev (fun k => impl_ParseDart.f k s) (0, 0, false)) := by
  have hi : Ev (fun k => impl_ParseDart.f k s) (match boardL.find? (fun e => decide (dtxt e = s)) with | some e => (e.f0, e.f1, true) | none => (0, 0, false)) := by
    have := impl_l0 s boardL.length 0 (by omega)
    rw [List.drop_zero] at this
    exact Ev.bind board this
  cases hf : boardL.find? (fun e => decide (dtxt e = s)) with
  | some e =>
    rw [hf] at hi
    have hm := List.mem_of_find?_eq_some hf
    have ht : dtxt e = s := by have h1 := List.find?_some hf; simp only [decide_eq_true_eq] at h1; exact h1
    have hok := List.all_eq_true.1 board_ok e hm
    unfold okd at hok
    rw [Bool.and_eq_true, Bool.and_eq_true] at hok
    have hsm := of_decide_eq_true hok.2.2
    have hb := back e.f0.toNat e.f1.toNat hsm.1 hsm.2.1 (by rw [hsm.2.2.1, hsm.2.2.2]; exact hok.1)
    rw [hsm.2.2.1, hsm.2.2.2, show txt e.f0.toNat e.f1.toNat = s from ht] at hb
    exact .inl ⟨e, hf, hb, hi⟩
  | none =>
    rw [hf] at hi
    obtain ⟨⟨x, y, b⟩, hr, htold⟩ := parse_ends s
    refine .inr ⟨hf, ⟨x, y, ?_⟩, hi⟩
    cases b with
    | false => exact hr
    | true =>
      obtain ⟨i, j, hi', hj, hg, hs⟩ := htold rfl
      have h := List.all_eq_true.1 (List.all_eq_true.1 board_has i (List.mem_range.2 hi')) j (List.mem_range.2 hj)
      rw [hg, Bool.not_true, Bool.false_or] at h
      obtain ⟨d, hd, he⟩ := List.any_eq_true.1 h
      rw [Bool.and_eq_true] at he
      have e0 := of_decide_eq_true he.1
      have e1 := of_decide_eq_true he.2
      have hnone := List.find?_eq_none.1 hf d hd
      exact absurd (decide_eq_true (by unfold dtxt; rw [e0, e1, Int.toNat_natCast, Int.toNat_natCast]; exact hs.symm)) hnone
/-! ### The words of a text -/
def spL : List UInt8 → List UInt8 → List (List UInt8)
  | cur, [] => [cur]
  | cur, c :: l => if c = 45 then cur :: spL [] l else spL (cur ++ [c]) l
theorem split_nil : Lib.split [] [45] = [[]] := by decide +kernel
theorem split_dash (l : List UInt8) : Lib.split (45 :: l) [45] = [] :: Lib.split l [45] := by
  unfold Lib.split
  have hix : Lib.index (45 :: l) [45] = 0 := by rw [Lib.index]; simp [List.isPrefixOf]
  rw [Lib.count_cons_eq, Nat.add_comm 1]
  conv => lhs; unfold Lib.splitK
  rw [hix, if_neg (by decide)]
  simp
theorem split_other (c : UInt8) (l : List UInt8) (hc : c ≠ 45) : ∃ h t, Lib.split l [45] = h :: t ∧ Lib.split (c :: l) [45] = (c :: h) :: t := by
  unfold Lib.split
  rw [Lib.count_cons_ne c 45 l hc]
  have hp : ([45] : List UInt8).isPrefixOf (c :: l) = false := by simp [List.isPrefixOf, Ne.symm hc]
  have hix : Lib.index (c :: l) [45] = if Lib.index l [45] == -1 then -1 else Lib.index l [45] + 1 := by rw [Lib.index, hp]; simp
  cases hk : Lib.count l [45] with
  | zero => exact ⟨l, [], rfl, rfl⟩
  | succ k =>
    have hge := Lib.index_ge l [45]
    by_cases hm : Lib.index l [45] = -1
    · rw [Lib.count_miss hm] at hk; cases hk
    · obtain ⟨j, hj⟩ : ∃ j : Nat, Lib.index l [45] = j := ⟨(Lib.index l [45]).toNat, by omega⟩
      refine ⟨l.take j, Lib.splitK [45] 0 k (l.drop (j + 1)), ?_, ?_⟩
      · conv => lhs; unfold Lib.splitK
        rw [hj, if_neg (fun e => by have := beq_iff_eq.1 e; omega)]
        simp
      · conv => lhs; unfold Lib.splitK
        rw [hix, if_neg (fun e => hm (beq_iff_eq.1 e)), hj, if_neg (fun e => by have := beq_iff_eq.1 e; omega)]
        have e1 : ((j : Int) + 1).toNat = j + 1 := by omega
        rw [e1]
        simp
theorem spL_split (l : List UInt8) : ∀ cur, ∃ h t, Lib.split l [45] = h :: t ∧ spL cur l = (cur ++ h) :: t := by
  induction l with
  | nil => intro cur; exact ⟨[], [], split_nil, by simp [spL]⟩
  | cons c l ih =>
    intro cur
    by_cases hc : c = 45
    · subst hc
      obtain ⟨h, t, h1, h2⟩ := ih []
      refine ⟨[], Lib.split l [45], split_dash l, ?_⟩
      simp only [spL]
      rw [if_pos trivial, h2, h1, List.append_nil, List.nil_append]
    · obtain ⟨h, t, h1, h2⟩ := split_other c l hc
      obtain ⟨h', t', h3, h4⟩ := ih (cur ++ [c])
      rw [h1] at h3
      injection h3 with e1 e2
      subst e1; subst e2
      refine ⟨c :: h, t, h2, ?_⟩
      simp only [spL]
      rw [if_neg hc, h4]
      simp
theorem spL_nil (l : List UInt8) : spL [] l = Lib.split l [45] := by
  obtain ⟨h, t, h1, h2⟩ := spL_split l []
  rw [h2, h1]; rfl
def pieces (s : ByteArray) (fr : Nat) : Nat → Nat → List ByteArray
  | _, 0 => [s.extract fr s.size]
  | i, d + 1 => if bt s (i : Int) = 45 then s.extract fr i :: pieces s (i + 1) (i + 1) d else pieces s fr (i + 1) d
theorem pieces_len (s : ByteArray) (d : Nat) : ∀ fr i, (pieces s fr i d).length ≤ d + 1 := by
  induction d with
  | zero => intro fr i; exact Nat.le_refl 1
  | succ d ih =>
    intro fr i
    simp only [pieces]
    by_cases h : bt s (i : Int) = 45
    · rw [if_pos h, List.length_cons]; have := ih (i + 1) (i + 1); omega
    · rw [if_neg h]; have := ih fr (i + 1); omega
theorem bt_get (s : ByteArray) (j : Nat) (h : j < s.size) : bt s (j : Int) = ((s[j]'h).toNat : Int) := by
  have := bt_at s (j : Int) (by simpa using h)
  rw [← this]
  rfl
theorem ext_data (s : ByteArray) (a b : Nat) : (s.extract a b).data.toList = (s.data.toList.take b).drop a := by
  rw [ByteArray.data_extract, Array.toList_extract]
  simp [List.extract, List.drop_take]
theorem pieces_spL (s : ByteArray) (d : Nat) : ∀ fr i, fr ≤ i → i + d = s.size → (pieces s fr i d).map (·.data.toList) = spL (s.extract fr i).data.toList (s.data.toList.drop i) := by
  induction d with
  | zero =>
    intro fr i hf hi
    rw [List.drop_of_length_le (by rw [Array.length_toList]; show s.size ≤ i; omega)]
    simp only [pieces, spL, List.map_cons, List.map_nil]
    rw [show i = s.size by omega]
  | succ d ih =>
    intro fr i hf hi
    have hlt : i < s.data.toList.length := by rw [Array.length_toList]; show i < s.size; omega
    rw [List.drop_eq_getElem_cons hlt]
    simp only [pieces, spL]
    have hc : bt s (i : Int) = 45 ↔ s.data.toList[i] = 45 := by
      rw [bt_get s i (by omega)]
      have e : (s[i]'(by omega)) = s.data.toList[i] := rfl
      rw [e]
      constructor
      · intro h; exact UInt8.toNat_inj.1 (by show _ = 45; omega)
      · intro h; rw [h]; rfl
    by_cases h : bt s (i : Int) = 45
    · rw [if_pos h, if_pos (hc.1 h), List.map_cons, ih (i + 1) (i + 1) (Nat.le_refl _) (by omega)]
      have e0 : (s.extract (i + 1) (i + 1)).data.toList = [] := by rw [ext_data]; simp
      rw [e0]
    · rw [if_neg h, if_neg (fun e => h (hc.2 e)), ih fr (i + 1) (by omega) (by omega)]
      congr 1
      rw [ext_data, ext_data, List.take_succ_eq_append_getElem hlt, List.drop_append_of_le_length (by rw [List.length_take]; omega)]
def words (s : ByteArray) : List ByteArray := pieces s 0 0 s.size
theorem data_inj {a b : List ByteArray} (h : a.map (·.data.toList) = b.map (·.data.toList)) : a = b := by
  induction a generalizing b with
  | nil => cases b with
    | nil => rfl
    | cons y b => cases h
  | cons x a ih => cases b with
    | nil => cases h
    | cons y b =>
      simp only [List.map_cons, List.cons.injEq] at h
      have e : x = y := by cases x; cases y; simp only at h; congr 1; exact Array.toList_inj.1 h.1
      rw [e, ih h.2]
theorem words_split (s : ByteArray) : Lib.splitB ⟨#[45]⟩ 0 (Lib.countB s ⟨#[45]⟩) s = words s := by
  apply data_inj
  rw [Lib.splitB_data]
  show Lib.split s.data.toList [45] = _
  unfold words
  rw [pieces_spL s s.size 0 0 (Nat.le_refl _) (by omega), ext_data]
  simp only [List.take_zero, List.drop_zero]
  exact (spL_nil _).symm
theorem split_l0 (s : ByteArray) (hs : s.size ≤ 1048576) (d : Nat) : ∀ (fr i : Nat) (acc : List ByteArray), fr ≤ i → i + d = s.size → acc.length ≤ i → Ev (fun k => spec_l1Split.l0 k s 45 acc (fr : Int) (i : Int)) (acc ++ pieces s fr i d) := by
  induction d with
  | zero =>
    intro fr i acc hf hi ha
    refine Ev.step (f := fun _ => some (acc ++ [s.extract fr s.size])) (fun k => ?_) (Ev.now _)
    simp only [spec_l1Split.l0]
    rw [if_neg (by omega), if_pos (by omega), if_pos (by omega), if_pos (by omega), Int.toNat_natCast]
  | succ d ih =>
    intro fr i acc hf hi ha
    by_cases h : bt s (i : Int) = 45
    · have hn := ih (i + 1) (i + 1) (acc ++ [s.extract fr i]) (Nat.le_refl _) (by omega) (by rw [List.length_append]; show acc.length + 1 ≤ i + 1; omega)
      have e : acc ++ pieces s fr i (d + 1) = (acc ++ [s.extract fr i]) ++ pieces s (i + 1) (i + 1) d := by
        simp only [pieces]; rw [if_pos h]; simp
      rw [e]
      refine Ev.step (fun k => ?_) hn
      simp only [spec_l1Split.l0]
      rw [if_pos (by omega), if_pos (by omega), if_pos h, if_pos (by omega), if_pos (by omega), if_pos (by omega), if_pos (by omega), Int.toNat_natCast, Int.toNat_natCast, w64s (n := 10000000) (by omega) (by omega)]
    · have hn := ih fr (i + 1) acc (by omega) (by omega) (by omega)
      have e : acc ++ pieces s fr i (d + 1) = acc ++ pieces s fr (i + 1) d := by
        simp only [pieces]; rw [if_neg h]
      rw [e]
      refine Ev.step (fun k => ?_) hn
      simp only [spec_l1Split.l0]
      rw [if_pos (by omega), if_pos (by omega), if_neg h, w64s (n := 10000000) (by omega) (by omega)]
theorem split_spec (s : ByteArray) (hs : s.size ≤ 1048576) : Ev (fun k => spec_l1Split.f k s 45) (words s) := by
  have h := split_l0 s hs s.size 0 0 [] (Nat.le_refl _) (by omega) (Nat.zero_le _)
  exact Ev.congr (fun k => rfl) h
theorem split_impl (s : ByteArray) (hs : s.size ≤ 1048576) : strings_Split.f s (⟨#[45]⟩ : ByteArray) = some (words s) := by
  unfold strings_Split.f
  rw [if_pos ⟨rfl, by omega⟩, words_split]
/-! ### All words -/
theorem rdB (l : List ByteArray) (i : Nat) (h : i < l.length) : rdOf ByteArray.empty l (i : Int) = l[i] := by
  unfold rdOf
  rw [Int.toNat_natCast, List.getD_eq_getElem?_getD, List.getElem?_eq_getElem h]; rfl
def seq : List (Option S31) → Option (List S31)
  | [] => some []
  | none :: _ => none
  | some d :: l => (seq l).map (d :: ·)
def fin (acc : List S31) (l : List (Option S31)) : List S31 × Bool := match seq l with
  | some r => (acc ++ r, true)
  | none => ([], false)
theorem fin_none (acc : List S31) (l : List (Option S31)) : fin acc (none :: l) = ([], false) := rfl
theorem fin_some (acc : List S31) (d : S31) (l : List (Option S31)) : fin acc (some d :: l) = fin (acc ++ [d]) l := by
  unfold fin
  rw [show seq (some d :: l) = (seq l).map (d :: ·) from rfl]
  cases seq l with
  | none => rfl
  | some r => simp
theorem fin_nil (acc : List S31) : fin acc [] = (acc, true) := by simp [fin, seq]
theorem spec_all (ps : List ByteArray) (hp : ps.length ≤ 9) (d : Nat) : ∀ (i : Nat) (acc : List S31), i + d = ps.length → acc.length = i → Ev (fun k => spec_ParseDarts.l0 k acc ps (ps.length : Int) (i : Int)) (fin acc ((ps.drop i).map outD)) := by
  induction d with
  | zero =>
    intro i acc hi ha
    rw [List.drop_of_length_le (by omega), List.map_nil, fin_nil]
    refine Ev.step (f := fun _ => some (acc, true)) (fun k => ?_) (Ev.now _)
    simp only [spec_ParseDarts.l0]
    rw [if_neg (by omega)]
  | succ d ih =>
    intro i acc hi ha
    rw [List.drop_eq_getElem_cons (by omega), List.map_cons]
    have hstep : ∀ k, spec_ParseDarts.l0 (k + 1) acc ps (ps.length : Int) (i : Int) = (spec_daParse.f k ps[i]).bind fun bt309 => (if bt309.2.2 = true then (if acc.length < 8796093022208 then (spec_ParseDarts.l0 k (acc ++ [(⟨bt309.1, bt309.2.1⟩ : S31)]) ps (ps.length : Int) ((i + 1 : Nat) : Int)) else (none)) else (some (([] : List (S31)), false))) := by
      intro k
      simp only [spec_ParseDarts.l0]
      rw [if_pos (by omega), if_pos (by omega), if_pos (by omega), rdB ps i (by omega), w64s (n := 100) (by omega) (by omega)]
    rcases one (ps[i]'(by omega)) with ⟨e, h1, h2, h3⟩ | ⟨h1, ⟨x, y, h2⟩, h3⟩
    · rw [h1, fin_some]
      refine Ev.step hstep (Ev.bind h2 (Ev.congr (fun k => ?_) (ih (i + 1) (acc ++ [e]) (by omega) (by rw [List.length_append, ha]; rfl))))
      rw [if_pos rfl, if_pos (by omega)]
    · rw [h1, fin_none]
      exact Ev.step hstep (Ev.bind h2 (Ev.congr (fun k => by rw [if_neg Bool.false_ne_true]) (Ev.now (([] : List S31), false))))
theorem impl_all (ps : List ByteArray) (hp : ps.length ≤ 10000000) (d : Nat) : ∀ (i : Nat) (acc : List S31), i + d = ps.length → acc.length = i → i ≤ 9 → Ev (fun k => impl_ParseDarts.l0 k acc ps (ps.length : Int) (i : Int)) (if ps.length ≤ 9 then fin acc ((ps.drop i).map outD) else ([], false)) := by
  induction d with
  | zero =>
    intro i acc hi ha h9
    rw [if_pos (by omega), List.drop_of_length_le (by omega), List.map_nil, fin_nil]
    refine Ev.step (f := fun _ => some (acc, true)) (fun k => ?_) (Ev.now _)
    simp only [impl_ParseDarts.l0]
    rw [if_neg (by omega)]
  | succ d ih =>
    intro i acc hi ha h9
    have hstep : ∀ k, impl_ParseDarts.l0 (k + 1) acc ps (ps.length : Int) (i : Int) = (impl_ParseDart.f k ps[i]).bind fun bt325 => (if bt325.2.2 = true then (if (acc.length : Int) = 9 then (some (([] : List (S31)), false)) else (if acc.length < 8796093022208 then (impl_ParseDarts.l0 k (acc ++ [(⟨bt325.1, bt325.2.1⟩ : S31)]) ps (ps.length : Int) ((i + 1 : Nat) : Int)) else (none))) else (some (([] : List (S31)), false))) := by
      intro k
      simp only [impl_ParseDarts.l0]
      rw [if_pos (by omega), if_pos (by omega), if_pos (by omega), rdB ps i (by omega), w64s (n := 100) (by omega) (by omega)]
    rcases one (ps[i]'(by omega)) with ⟨e, h1, h2, h3⟩ | ⟨h1, _, h3⟩
    · by_cases hn : i = 9
      · rw [if_neg (by omega)]
        exact Ev.step hstep (Ev.bind h3 (Ev.congr (fun k => by rw [if_pos rfl, if_pos (by omega)]) (Ev.now (([] : List S31), false))))
      · have e2 : (if ps.length ≤ 9 then fin acc ((ps.drop i).map outD) else ([], false)) = (if ps.length ≤ 9 then fin (acc ++ [e]) ((ps.drop (i + 1)).map outD) else ([], false)) := by
          rw [List.drop_eq_getElem_cons (by omega), List.map_cons, h1, fin_some]
        rw [e2]
        refine Ev.step hstep (Ev.bind h3 (Ev.congr (fun k => ?_) (ih (i + 1) (acc ++ [e]) (by omega) (by rw [List.length_append, ha]; rfl) (by omega))))
        rw [if_pos rfl, if_neg (by omega), if_pos (by omega)]
    · have e2 : (if ps.length ≤ 9 then fin acc ((ps.drop i).map outD) else ([], false)) = ([], false) := by
        rw [List.drop_eq_getElem_cons (by omega), List.map_cons, h1, fin_none]
        by_cases h : ps.length ≤ 9
        · rw [if_pos h]
        · rw [if_neg h]
      rw [e2]
      exact Ev.step hstep (Ev.bind h3 (Ev.congr (fun k => by rw [if_neg Bool.false_ne_true]) (Ev.now (([] : List S31), false))))
theorem seq_len (l : List (Option S31)) : ∀ r, seq l = some r → r.length = l.length := by
  induction l with
  | nil => intro r h; cases h; rfl
  | cons o l ih =>
    intro r h
    match o, h with
    | some d, h =>
      simp only [seq] at h
      obtain ⟨r', h1, rfl⟩ := Option.map_eq_some_iff.1 h
      rw [List.length_cons, List.length_cons, ih r' h1]
def res (s : ByteArray) : List S31 × Bool := if (words s).length ≤ 9 then fin [] ((words s).map outD) else ([], false)
theorem res_len (s : ByteArray) : (res s).1.length ≤ 9 := by
  unfold res fin
  by_cases h : (words s).length ≤ 9
  · rw [if_pos h]
    cases hq : seq ((words s).map outD) with
    | none => exact Nat.zero_le _
    | some r =>
      have := seq_len _ r hq
      rw [List.length_map] at this
      show ([] ++ r).length ≤ 9
      rw [List.nil_append]; omega
  · rw [if_neg h]; exact Nat.zero_le _
theorem words_len (s : ByteArray) (hs : s.size ≤ 1048576) : (words s).length ≤ 10000000 := by have := pieces_len s s.size 0 0; unfold words; omega
theorem spec_r (s : ByteArray) (hs : s.size ≤ 1048576) : Ev (fun k => spec_ParseDarts.f k s) (res s) := by
  refine Ev.bind (split_spec s hs) ?_
  unfold res
  by_cases h : (words s).length ≤ 9
  · rw [if_pos h]
    have h0 : Ev (fun k => spec_ParseDarts.l0 k [] (words s) ((words s).length : Int) 0) (fin [] ((words s).map outD)) := Ev.congr (fun k => rfl) (spec_all (words s) h (words s).length 0 [] (by omega) rfl)
    exact Ev.congr (fun k => by rw [if_neg (by omega)]) h0
  · rw [if_neg h]
    exact Ev.congr (fun k => by rw [if_pos (by omega)]) (Ev.now (([] : List S31), false))
theorem impl_r (s : ByteArray) (hs : s.size ≤ 1048576) : Ev (fun k => impl_ParseDarts.f k s) (res s) := by
  refine Ev.congr (fun k => by unfold impl_ParseDarts.f; rw [split_impl s hs, Option.bind_some]) ?_
  exact Ev.congr (fun k => rfl) (impl_all (words s) (words_len s hs) (words s).length 0 [] (by omega) rfl (by omega))
theorem FnExactParseDarts : ∀ (a0 : ByteArray), (a0.size ≤ 140737488351232) → ∃ k, laws_FnExactParseDarts.f k a0 = some true := by
  intro s _
  by_cases hz : (s.size : Int) > 1048576
  · exact ⟨0, by unfold laws_FnExactParseDarts.f; rw [if_pos hz]⟩
  · have h1 := spec_r s (by omega)
    have h2 := impl_r s (by omega)
    have hl := res_len s
    generalize res s = r at h1 h2 hl
    have he := eqDs r.1 (by omega)
    have hm := markDs r.1 (by omega)
    have hh := heldDs r.1.length (by omega)
    refine Ev.rounds (Ev.congr (fun k => by unfold laws_FnExactParseDarts.f; rw [if_neg hz]) (Ev.bind h1 (Ev.bind h2 (Ev.bind he ?_))))
    refine Ev.congr (fun k => by rw [if_pos rfl, bne_self_eq_false]) (Ev.step (f := fun k => (laws_markDartS.f k r.1 1).bind fun bt345 => ((laws_heldDartS.f k bt345.2 1).bind fun t347 => (if t347 < 0 then (some false) else (if t347 = bt345.1 then ((impl_ParseDarts.f k s).bind fun bt348 => ((laws_eqDartS.f k bt348.1 r.1).bind fun t352 => (if t352 = true then (laws_FnExactParseDarts.j1 k bt345.2 bt345.1 (bt348.2 != r.2)) else (laws_FnExactParseDarts.j1 k bt345.2 bt345.1 true)))) else (some false))))) (fun k => by simp only [laws_FnExactParseDarts.j0]; rw [if_neg (by simp)]) (Ev.bind hm (Ev.bind hh ?_)))
    refine Ev.congr (fun k => by rw [if_neg (by omega), if_pos rfl]) (Ev.bind h2 (Ev.bind he ?_))
    refine Ev.congr (fun k => by rw [if_pos rfl, bne_self_eq_false]) (Ev.step (f := fun k => (laws_heldDartS.f k (tabD r.1.length mk2) 1).bind fun t353 => (if t353 < 0 then (some false) else (if t353 = ((2 * r.1.length + 1 : Nat) : Int) then (some true) else (some false)))) (fun k => by simp only [laws_FnExactParseDarts.j1]; rw [if_neg (by simp)]) (Ev.bind hh ?_))
    exact Ev.congr (fun k => by rw [if_neg (by omega), if_pos rfl]) (Ev.now true)

end Go.Proofs.YtgdkedcahcpofaaDoor.Pure
