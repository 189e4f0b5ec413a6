/- For every text, the program's ParseDart answers what the reference's answers. (The pure statement behind the row: over numbers and lists alone.) -/
import Derived.Test.YtgdkedcahcpofaaDoorPAx29
import Derived.KernelRfl
import Derived.Laws.Strings
set_option linter.unusedSimpArgs false
namespace Go.Proofs.YtgdkedcahcpofaaDoor.Pure
open Go.RowKit Go.Proofs.YtgdkedcahcpofaaDoor.PA Go.Proofs.YtgdkedcahcpofaaDoorW.PrintWords Go.Proofs.YtgdkedcahcpofaaDoorW.PrintLast Go.Proofs.YtgdkedcahcpofaaDoorW.PrintMore

theorem in_eq (a b c : Int) : spec_l1In.f a b c = some (decide (b ≤ a ∧ a ≤ c)) := by
 unfold spec_l1In.f; by_cases h : b ≤ a <;> simp [h]
theorem within_eq (a b c : Int) : impl_within.f a b c = some (decide (b ≤ a ∧ a ≤ c)) := by
 unfold impl_within.f; by_cases h : b ≤ a <;> simp [h]
/-- A dart, told as the reference tells it. -/
def good (a b : Int) : Bool := if a = 25 then decide (1 ≤ b ∧ b ≤ 2) else decide ((1 ≤ a ∧ a ≤ 20) ∧ 1 ≤ b ∧ b ≤ 3)
theorem daGood (a b : Int) : spec_daGood.f a b = some (good a b) := by
 simp only [spec_daGood.f, good, in_eq, Option.bind_some]
 by_cases h : a = 25
 ·
  simp [h]
 ·
  by_cases h1 : 1 ≤ a ∧ a ≤ 20
  ·
   simp [h, h1]
  ·
   simp only [h, h1, if_false, decide_false, Bool.false_eq_true, false_and]
theorem isDart (a b : Int) : impl_IsDart.f a b = some (good a b) := by
 simp only [impl_IsDart.f, good, within_eq, Option.bind_some]
 by_cases h : a = 25
 ·
  subst h; simp
 ·
  by_cases h1 : 1 ≤ a ∧ a ≤ 20
  ·
   by_cases h2 : 1 ≤ b ∧ b ≤ 3
   ·
    simp [h, h1, h2]
   ·
    simp [h, h1, h2]
  ·
   simp only [h, h1, if_false, decide_false, Bool.false_eq_true, false_and]
theorem good_small {a b : Int} (h : good a b = true) : ∃ i j : Nat, i < 26 ∧ j < 4 ∧ a = (i : Int) ∧ b = (j : Int) := by
 refine ⟨a.toNat, b.toNat, ?_⟩
 unfold good at h
 by_cases h1 : a = 25
 ·
  rw [if_pos h1] at h
  have := of_decide_eq_true h
  omega
 ·
  rw [if_neg h1] at h
  have := of_decide_eq_true h
  omega
theorem w64 {i : Int} (h0 : -9223372036854775808 ≤ i) (h : i ≤ 9223372036854775807) : wrap64 i = i := by unfold wrap64; omega
theorem list_inj {x y : ByteArray} : (x.toList = y.toList) ↔ x = y := by
 rw [ByteArray.toList_eq, ByteArray.toList_eq]
 constructor
 ·
  intro h; cases x; cases y; simp only at h; congr 1; exact Array.toList_inj.1 h
 ·
  intro h; rw [h]
theorem list_beq (x y : ByteArray) : (x.toList == y.toList) = decide (x = y) := by
 by_cases h : x = y
 ·
  rw [decide_eq_true h, h]; exact beq_self_eq_true _
 ·
  rw [decide_eq_false h]; exact beq_eq_false_iff_ne.2 (fun e => h (list_inj.1 e))
/-! ### Reading ends -/
theorem read_l0 (s : ByteArray) (hs : s.size ≤ 6) (d : Nat) : ∀ (i : Nat) (x : Int), i + d = s.size → ∃ r, Ev (fun k => spec_l1Read.l0 k s x (i : Int)) r := by
 induction d with
 | zero =>
  intro i x hi
  refine ⟨x, Ev.step (f := fun _ => some x) (fun k => ?_) (Ev.now _)⟩
  simp only [spec_l1Read.l0]
  rw [if_neg (by omega)]
 | succ d ih =>
  intro i x hi
  by_cases h1 : bt s (i : Int) < 48
  ·
   refine ⟨-1, Ev.step (f := fun _ => some (-1)) (fun k => ?_) (Ev.now _)⟩
   simp only [spec_l1Read.l0]
   rw [if_pos (by omega), if_pos (by omega), if_pos h1]
  ·
   by_cases h2 : bt s (i : Int) > 57
   ·
    refine ⟨-1, Ev.step (f := fun _ => some (-1)) (fun k => ?_) (Ev.now _)⟩
    simp only [spec_l1Read.l0]
    rw [if_pos (by omega), if_pos (by omega), if_neg h1, if_pos h2]
   ·
    obtain ⟨r, hr⟩ := ih (i + 1) (wrap64 ((wrap64 (10 * x)) + (((bt s (i : Int)) - 48) % 256))) (by omega)
    refine ⟨r, Ev.step (fun k => ?_) hr⟩
    simp only [spec_l1Read.l0]
    rw [if_pos (by omega), if_pos (by omega), if_neg h1, if_neg h2, w64 (i := (i : Int) + 1) (by omega) (by omega)]
    rfl
theorem read_ends (s : ByteArray) : ∃ r, Ev (fun k => spec_l1Read.f k s) r := by
 have ht : Ev (fun k => spec_l1Read.j0 k s true) (-1) := Ev.step (f := fun _ => some (-1)) (fun k => by simp only [spec_l1Read.j0]; rw [if_pos trivial]) (Ev.now _)
 by_cases h : 1 ≤ (s.size : Int) ∧ (s.size : Int) ≤ 6
 ·
  obtain ⟨r, hr⟩ := read_l0 s (by omega) s.size 0 0 (by omega)
  have hf : Ev (fun k => spec_l1Read.j0 k s false) r := Ev.step (fun k => by simp only [spec_l1Read.j0]; rw [if_neg Bool.false_ne_true]; rfl) hr
  by_cases h2 : bt s 0 = 48
  ·
   cases h3 : decide ((s.size : Int) > 1)
   ·
    exact ⟨r, Ev.congr (fun k => by unfold spec_l1Read.f; rw [in_eq, decide_eq_true h, Option.bind_some, if_pos rfl, if_pos (by omega), if_pos h2, h3]) hf⟩
   ·
    exact ⟨-1, Ev.congr (fun k => by unfold spec_l1Read.f; rw [in_eq, decide_eq_true h, Option.bind_some, if_pos rfl, if_pos (by omega), if_pos h2, h3]) ht⟩
  ·
   exact ⟨r, Ev.congr (fun k => by unfold spec_l1Read.f; rw [in_eq, decide_eq_true h, Option.bind_some, if_pos rfl, if_pos (by omega), if_neg h2]) hf⟩
 ·
  exact ⟨-1, Ev.congr (fun k => by unfold spec_l1Read.f; rw [in_eq, decide_eq_false h, Option.bind_some, if_neg Bool.false_ne_true]) ht⟩
/-! ### Texts -/
def txt (i j : Nat) : ByteArray := match spec_daText.f 10 (i : Int) (j : Int) with
 | some x => x
 | none => ByteArray.empty
theorem txt_all : (List.range 26).all (fun i => (List.range 4).all (fun j => !(good (i : Int) (j : Int)) || (spec_daText.f 10 (i : Int) (j : Int)).isSome)) = true := by kernel_rfl
theorem txt_ev (i j : Nat) (hi : i < 26) (hj : j < 4) (hg : good (i : Int) (j : Int) = true) : Ev (fun k => spec_daText.f k (i : Int) (j : Int)) (txt i j) := by
 have h := List.all_eq_true.1 (List.all_eq_true.1 txt_all i (List.mem_range.2 hi)) j (List.mem_range.2 hj)
 rw [hg, Bool.not_true, Bool.false_or] at h
 refine Ev.of (fun k => spec_daText.mono _ _ k) (k := 10) ?_
 unfold txt
 revert h
 cases spec_daText.f 10 (i : Int) (j : Int) with
 | none => intro h; cases h
 | some x => intro _; rfl
/-- What a reading that ends well has read. -/
def Told (s : ByteArray) (r : Int × Int × Bool) : Prop := r.2.2 = true → ∃ i j : Nat, i < 26 ∧ j < 4 ∧ good (i : Int) (j : Int) = true ∧ s = txt i j
theorem tail_ends (t b : Int) (s : ByteArray) : ∃ r, Ev (fun k => (spec_daGood.f t b).bind fun t220 => (if t220 = true then ((spec_daText.f k t b).bind fun t221 => (some (t, b, (t221.toList == s.toList)))) else (some (t, b, false)))) r ∧ Told s r := by
 cases hg : good t b
 ·
  exact ⟨(t, b, false), Ev.congr (fun k => by rw [daGood, hg, Option.bind_some, if_neg Bool.false_ne_true]) (Ev.now _), fun h => by cases h⟩
 ·
  obtain ⟨i, j, hi, hj, rfl, rfl⟩ := good_small hg
  refine ⟨((i : Int), (j : Int), (txt i j).toList == s.toList), Ev.congr (f := fun k => (spec_daText.f k (i : Int) (j : Int)).bind fun t221 => some ((i : Int), (j : Int), (t221.toList == s.toList))) (fun k => by rw [daGood, hg, Option.bind_some, if_pos rfl]) (Ev.bind (txt_ev i j hi hj hg) (Ev.now _)), fun h => ?_⟩
  rw [list_beq] at h
  exact ⟨i, j, hi, hj, hg, (of_decide_eq_true h).symm⟩
theorem parse_ends (s : ByteArray) : ∃ r, Ev (fun k => spec_daParse.f k s) r ∧ Told s r := by
 by_cases h : 1 ≤ (s.size : Int) ∧ (s.size : Int) ≤ 3
 ·
  obtain ⟨t, ht⟩ := read_ends s
  obtain ⟨u, hu⟩ := read_ends (s.extract 1 s.size)
  by_cases h1 : bt s 0 = 100
  ·
   obtain ⟨r, hr, htold⟩ := tail_ends u 2 s
   refine ⟨r, ?_, htold⟩
   refine Ev.congr (f := fun k => (spec_l1Read.f k s).bind fun _ => (spec_l1Read.f k (s.extract 1 s.size)).bind fun t219 => ((spec_daGood.f t219 2).bind fun t220 => (if t220 = true then ((spec_daText.f k t219 2).bind fun t221 => (some (t219, 2, (t221.toList == s.toList)))) else (some (t219, 2, false))))) (fun k => ?_) (Ev.bind ht (Ev.bind hu hr))
   unfold spec_daParse.f
   rw [in_eq, decide_eq_true h, Option.bind_some, if_pos rfl]
   congr 1; funext t217
   rw [if_pos (by omega), if_pos h1, if_pos (by omega)]
  ·
   by_cases h2 : bt s 0 = 116
   ·
    obtain ⟨r, hr, htold⟩ := tail_ends u 3 s
    refine ⟨r, ?_, htold⟩
    refine Ev.congr (f := fun k => (spec_l1Read.f k s).bind fun _ => (spec_l1Read.f k (s.extract 1 s.size)).bind fun t219 => ((spec_daGood.f t219 3).bind fun t220 => (if t220 = true then ((spec_daText.f k t219 3).bind fun t221 => (some (t219, 3, (t221.toList == s.toList)))) else (some (t219, 3, false))))) (fun k => ?_) (Ev.bind ht (Ev.bind hu hr))
    unfold spec_daParse.f
    rw [in_eq, decide_eq_true h, Option.bind_some, if_pos rfl]
    congr 1; funext t217
    rw [if_pos (by omega), if_neg h1, if_pos h2, if_pos (by omega)]
   ·
    obtain ⟨r, hr, htold⟩ := tail_ends t 1 s
    refine ⟨r, ?_, htold⟩
    refine Ev.congr (f := fun k => (spec_l1Read.f k s).bind fun t217 => ((spec_daGood.f t217 1).bind fun t220 => (if t220 = true then ((spec_daText.f k t217 1).bind fun t221 => (some (t217, 1, (t221.toList == s.toList)))) else (some (t217, 1, false))))) (fun k => ?_) (Ev.bind ht hr)
    unfold spec_daParse.f
    rw [in_eq, decide_eq_true h, Option.bind_some, if_pos rfl]
    congr 1; funext t217
    rw [if_pos (by omega), if_neg h1, if_neg h2]
 ·
  exact ⟨(0, 0, false), Ev.congr (fun k => by unfold spec_daParse.f; rw [in_eq, decide_eq_false h, Option.bind_some, if_neg Bool.false_ne_true]) (Ev.now _), fun h => by cases h⟩
/-! ### A dart's text is read as that dart -/
def parse2 (k : Nat) (a0 : ByteArray) : Option (Int × Int × Bool) := (spec_l1In.f (a0.size : Int) 1 3).bind fun t216 => (if t216 = true then ((spec_l1Read.f k a0).bind fun t217 => (if 0 < (a0.size : Int) then (if (bt a0 0) = 100 then (if 1 ≤ (a0.size : Int) then ((spec_l1Read.f k (a0.extract 1 a0.size)).bind fun t219 => ((spec_daGood.f t219 2).bind fun t220 => (if t220 = true then ((spec_daText.f k t219 2).bind fun t221 => (some (t219, 2, (decide (t221 = a0))))) else (some (t219, 2, false))))) else (none)) else (if (bt a0 0) = 116 then (if 1 ≤ (a0.size : Int) then ((spec_l1Read.f k (a0.extract 1 a0.size)).bind fun t222 => ((spec_daGood.f t222 3).bind fun t223 => (if t223 = true then ((spec_daText.f k t222 3).bind fun t224 => (some (t222, 3, (decide (t224 = a0))))) else (some (t222, 3, false))))) else (none)) else ((spec_daGood.f t217 1).bind fun t225 => (if t225 = true then ((spec_daText.f k t217 1).bind fun t226 => (some (t217, 1, (decide (t226 = a0))))) else (some (t217, 1, false)))))) else (none))) else (some (0, 0, false)))
theorem parse_eq (k : Nat) (s : ByteArray) : spec_daParse.f k s = parse2 k s := by
 unfold spec_daParse.f parse2
 simp only [list_beq]
theorem back_all : (List.range 26).all (fun i => (List.range 4).all (fun j => !(good (i : Int) (j : Int)) || decide (parse2 20 (txt i j) = some ((i : Int), (j : Int), true)))) = true := by kernel_rfl
theorem back (i j : Nat) (hi : i < 26) (hj : j < 4) (hg : good (i : Int) (j : Int) = true) : Ev (fun k => spec_daParse.f k (txt i j)) ((i : Int), (j : Int), true) := by
 have h := List.all_eq_true.1 (List.all_eq_true.1 back_all i (List.mem_range.2 hi)) j (List.mem_range.2 hj)
 rw [hg, Bool.not_true, Bool.false_or] at h
 exact Ev.of (fun k => spec_daParse.mono _ k) (k := 20) ((parse_eq 20 _).trans (of_decide_eq_true h))
/-! ### The program's -/
def boardL : List S31 := [⟨20, 3⟩, ⟨19, 3⟩, ⟨18, 3⟩, ⟨17, 3⟩, ⟨25, 2⟩, ⟨16, 3⟩, ⟨15, 3⟩, ⟨14, 3⟩, ⟨20, 2⟩, ⟨13, 3⟩, ⟨19, 2⟩, ⟨12, 3⟩, ⟨18, 2⟩, ⟨17, 2⟩, ⟨11, 3⟩, ⟨16, 2⟩, ⟨10, 3⟩, ⟨15, 2⟩, ⟨14, 2⟩, ⟨9, 3⟩, ⟨13, 2⟩, ⟨25, 1⟩, ⟨8, 3⟩, ⟨12, 2⟩, ⟨11, 2⟩, ⟨7, 3⟩, ⟨10, 2⟩, ⟨20, 1⟩, ⟨19, 1⟩, ⟨6, 3⟩, ⟨9, 2⟩, ⟨18, 1⟩, ⟨17, 1⟩, ⟨8, 2⟩, ⟨16, 1⟩, ⟨5, 3⟩, ⟨15, 1⟩, ⟨7, 2⟩, ⟨14, 1⟩, ⟨13, 1⟩, ⟨4, 3⟩, ⟨6, 2⟩, ⟨12, 1⟩, ⟨11, 1⟩, ⟨5, 2⟩, ⟨10, 1⟩, ⟨3, 3⟩, ⟨9, 1⟩, ⟨4, 2⟩, ⟨8, 1⟩, ⟨7, 1⟩, ⟨2, 3⟩, ⟨3, 2⟩, ⟨6, 1⟩, ⟨5, 1⟩, ⟨2, 2⟩, ⟨4, 1⟩, ⟨1, 3⟩, ⟨3, 1⟩, ⟨1, 2⟩, ⟨2, 1⟩, ⟨1, 1⟩]
theorem board : Ev (fun k => impl_board.f k) boardL := Ev.of (fun k => impl_board.mono k) (k := 400) (by kernel_rfl)
def dtxt (d : S31) : ByteArray := txt d.f0.toNat d.f1.toNat
def okd (d : S31) : Bool := good d.f0 d.f1 && (decide (impl_DartText.f d.f0 d.f1 = some (dtxt d, true)) && (decide (d.f0.toNat < 26 ∧ d.f1.toNat < 4 ∧ ((d.f0.toNat : Nat) : Int) = d.f0 ∧ ((d.f1.toNat : Nat) : Int) = d.f1)))
theorem board_ok : boardL.all okd = true := by kernel_rfl
theorem board_has : (List.range 26).all (fun i => (List.range 4).all (fun j => !(good (i : Int) (j : Int)) || boardL.any (fun d => decide (d.f0 = (i : Int)) && decide (d.f1 = (j : Int))))) = true := by kernel_rfl
theorem rd26 (l : List S31) (i : Nat) (h : i < l.length) : rd_T31 l (i : Int) = l[i] := by simp [rd_T31, List.getD, h]
theorem board_len : boardL.length = 62 := by rfl
theorem impl_l0 (s : ByteArray) (d : Nat) : ∀ i : Nat, i + d = boardL.length → Ev (fun k => impl_ParseDart.l0 k s boardL (boardL.length : Int) (i : Int)) (match (boardL.drop i).find? (fun e => decide (dtxt e = s)) with | some e => (e.f0, e.f1, true) | none => (0, 0, false)) := by
 have hl := board_len
 induction d with
 | zero =>
  intro i hi
  rw [List.drop_of_length_le (by omega)]
  refine Ev.step (f := fun _ => some (0, 0, false)) (fun k => ?_) (Ev.now _)
  simp only [impl_ParseDart.l0]
  rw [if_neg (by omega)]
 | succ d ih =>
  intro i hi
  have hlt : i < boardL.length := by omega
  have h2 := ih (i + 1) (by omega)
  rw [List.drop_eq_getElem_cons hlt]
  have hok := List.all_eq_true.1 board_ok boardL[i] (List.getElem_mem _)
  unfold okd at hok
  rw [Bool.and_eq_true, Bool.and_eq_true] at hok
  have htx := of_decide_eq_true hok.2.1
  have hs : ∀ k, impl_ParseDart.l0 (k + 1) s boardL (boardL.length : Int) (i : Int) = if dtxt boardL[i] = s then some (boardL[i].f0, boardL[i].f1, true) else impl_ParseDart.l0 k s boardL (boardL.length : Int) ((i + 1 : Nat) : Int) := by
   intro k
   simp only [impl_ParseDart.l0]
   rw [if_pos (by omega), if_pos (by omega), if_pos (by omega), rd26 boardL i hlt, htx, Option.bind_some, w64 (i := (i : Int) + 1) (by omega) (by omega)]
   by_cases h : dtxt boardL[i] = s
   ·
    rw [if_pos h, if_pos (list_inj.2 h)]
   ·
    rw [if_neg h, if_neg (fun e => h (list_inj.1 e))]; rfl
  by_cases h : dtxt boardL[i] = s
  ·
   rw [List.find?_cons_of_pos (p := fun e => decide (dtxt e = s)) (decide_eq_true h)]
   exact Ev.step (fun k => by rw [hs, if_pos h]) (Ev.now _)
  ·
   rw [List.find?_cons_of_neg (p := fun e => decide (dtxt e = s)) (fun e => h (of_decide_eq_true e))]
   exact Ev.step (fun k => by rw [hs, if_neg h]) h2
theorem both (s : ByteArray) : ∃ r, Ev (fun k => spec_ParseDart.f k s) r ∧ Ev (fun k => impl_ParseDart.f k s) r := by
 have hi : Ev (fun k => impl_ParseDart.f k s) (match boardL.find? (fun e => decide (dtxt e = s)) with | some e => (e.f0, e.f1, true) | none => (0, 0, false)) := by
  have := impl_l0 s boardL.length 0 (by omega)
  rw [List.drop_zero] at this
  exact Ev.bind board this
 cases hf : boardL.find? (fun e => decide (dtxt e = s)) with
 | some e =>
  rw [hf] at hi
  have hm := List.mem_of_find?_eq_some hf
  have ht : dtxt e = s := by have h1 := List.find?_some hf; simp only [decide_eq_true_eq] at h1; exact h1
  have hok := List.all_eq_true.1 board_ok e hm
  unfold okd at hok
  rw [Bool.and_eq_true, Bool.and_eq_true] at hok
  have hsm := of_decide_eq_true hok.2.2
  have hb := back e.f0.toNat e.f1.toNat hsm.1 hsm.2.1 (by rw [hsm.2.2.1, hsm.2.2.2]; exact hok.1)
  rw [hsm.2.2.1, hsm.2.2.2, show txt e.f0.toNat e.f1.toNat = s from ht] at hb
  exact ⟨(e.f0, e.f1, true), Ev.bind hb (Ev.congr (fun k => by rw [if_pos rfl]) (Ev.now _)), hi⟩
 | none =>
  rw [hf] at hi
  obtain ⟨r, hr, htold⟩ := parse_ends s
  refine ⟨(0, 0, false), Ev.bind hr ?_, hi⟩
  cases hb : r.2.2
  ·
   exact Ev.congr (fun k => by rw [if_neg Bool.false_ne_true]) (Ev.now _)
  ·
   obtain ⟨i, j, hi', hj, hg, hs⟩ := htold hb
   have h := List.all_eq_true.1 (List.all_eq_true.1 board_has i (List.mem_range.2 hi')) j (List.mem_range.2 hj)
   rw [hg, Bool.not_true, Bool.false_or] at h
   obtain ⟨d, hd, he⟩ := List.any_eq_true.1 h
   rw [Bool.and_eq_true] at he
   have e0 := of_decide_eq_true he.1
   have e1 := of_decide_eq_true he.2
   have hnone := List.find?_eq_none.1 hf d hd
   exact absurd (decide_eq_true (by unfold dtxt; rw [e0, e1, Int.toNat_natCast, Int.toNat_natCast]; exact hs.symm)) hnone
theorem FnExactParseDart : ∀ (a0 : ByteArray), (a0.size ≤ 140737488351232) → ∃ k, laws_FnExactParseDart.f k a0 = some true := by
 intro s _
 by_cases hz : (s.size : Int) > 1048576
 ·
  exact ⟨0, by unfold laws_FnExactParseDart.f; rw [if_pos hz]⟩
 ·
  obtain ⟨r, hs, hi⟩ := both s
  refine Ev.rounds ?_
  refine Ev.congr (fun k => by unfold laws_FnExactParseDart.f; rw [if_neg hz]) (Ev.bind hs (Ev.bind hi ?_))
  refine Ev.congr (f := fun _ => some true) (fun k => ?_) (Ev.now _)
  simp only [laws_eqDart.f, if_true, Option.bind_some]
  rw [bne_self_eq_false, if_neg Bool.false_ne_true]

end Go.Proofs.YtgdkedcahcpofaaDoor.Pure
