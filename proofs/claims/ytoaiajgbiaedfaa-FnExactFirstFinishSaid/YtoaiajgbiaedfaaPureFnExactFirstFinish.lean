/- For all numbers, the program's FirstFinish answers what the reference's answers, and another list each time. (The pure statement behind the row: over numbers and lists alone.) -/
import Derived.Test.YtoaiajgbiaedfaaPAx64
import Derived.Test.YtoaiajgbiaedfaaLibG
import Derived.Test.YtoaiajgbiaedfaaLibK
import Derived.Test.YtoaiajgbiaedfaaPureFnExactCanFinish
set_option linter.unusedSimpArgs false
namespace Go.Proofs.Ytoaiajgbiaedfaa.Pure
open Go.RowKit Go.Proofs.Ytoaiajgbiaedfaa.PA Go.Proofs.Ytoaiajgbiaedfaa.Lib Go.Proofs.YtoaiajgbiaedfaaW.PrintWords Go.Proofs.YtoaiajgbiaedfaaW.PrintLast

/-! ### The way, told plainly -/
def hit (n s : Nat) (d : S58) : Bool := if n = 1 then Nat.beq (sc d) s && (d.f1 == 2) else Nat.blt (sc d) s && Nat.beq (dG (s - sc d)) n
def path : Nat → Nat → List S58
  | 0, _ => []
  | n + 1, s => match boardL.find? (hit (n + 1) s) with
    | some d => d :: path n (s - sc d)
    | none => []
theorem path_len : ∀ n s, (path n s).length ≤ n
  | 0, _ => Nat.le_refl _
  | n + 1, s => by
    unfold path
    cases h : boardL.find? (hit (n + 1) s) with
    | none => exact Nat.zero_le _
    | some d => have := path_len n (s - sc d); show (d :: path n (s - sc d)).length ≤ n + 1; rw [List.length_cons]; omega
def chkQ (s : Nat) : Bool := Nat.ble 5 (dG s) || Nat.ble (dG s) 1 || boardL.any (hit (Nat.pred (dG s)) s)
def chkP (s : Nat) : Bool := Nat.ble 5 (dG s) || scoresN.all (fun c => Nat.ble s c || (Nat.beq (dG (Nat.sub s c)) 0 || Nat.ble (dG s) (Nat.succ (dG (Nat.sub s c)))))
theorem chkQ_all : upTo chkQ 1002 = true := by kernel_rfl
theorem chkP_all : upTo chkP 1002 = true := by kernel_rfl
theorem lG_dG (s n : Nat) : (lG s = (n : Int)) ↔ dG s = n + 1 := by unfold lG; omega
theorem hit_one (s : Nat) (d : S58) : hit 1 s d = decide (sc d = s ∧ d.f1 = 2) := by
  unfold hit
  rw [if_pos rfl]
  by_cases h : sc d = s
  · by_cases h2 : d.f1 = 2
    · rw [decide_eq_true ⟨h, h2⟩, h, h2, Nat.beq_refl]; rfl
    · rw [decide_eq_false (fun x => h2 x.2), beq_eq_false_iff_ne.2 h2, Bool.and_false]
  · rw [decide_eq_false (fun x => h x.1)]
    have : Nat.beq (sc d) s = false := by
      cases e : Nat.beq (sc d) s
      · rfl
      · exact absurd (Nat.eq_of_beq_eq_true e) h
    rw [this, Bool.false_and]
theorem beq_dec (a b : Nat) : Nat.beq a b = decide (a = b) := by
  by_cases h : a = b
  · rw [decide_eq_true h, h, Nat.beq_refl]
  · rw [decide_eq_false h]
    cases e : Nat.beq a b
    · rfl
    · exact absurd (Nat.eq_of_beq_eq_true e) h
theorem blt_dec (a b : Nat) : Nat.blt a b = decide (a < b) := by
  by_cases h : a < b
  · rw [decide_eq_true h]; exact Nat.ble_eq_true_of_le h
  · rw [decide_eq_false h]
    cases e : Nat.blt a b
    · rfl
    · exact absurd (Nat.le_of_ble_eq_true e) h
theorem hit_more (n s : Nat) (hn : 1 ≤ n) (d : S58) : hit (n + 1) s d = decide (sc d < s ∧ lG (s - sc d) = (n : Int)) := by
  unfold hit
  rw [if_neg (by omega), beq_dec, blt_dec]
  by_cases h : sc d < s
  · rw [decide_eq_true h, Bool.true_and, decide_eq_decide, lG_dG]
    exact ⟨fun x => ⟨h, x⟩, fun x => x.2⟩
  · rw [decide_eq_false h, Bool.false_and, decide_eq_false (p := sc d < s ∧ lG (s - sc d) = (n : Int)) (fun x => h x.1)]
theorem find_some (n s : Nat) (hn : n < 3) (hs : s < 1002) (h : lG s = ((n + 1 : Nat) : Int)) : ∃ d, boardL.find? (hit (n + 1) s) = some d ∧ d ∈ boardL ∧ hit (n + 1) s d = true := by
  have hd := (lG_dG s (n + 1)).1 h
  have hq := upTo_of chkQ_all s hs
  unfold chkQ at hq
  rw [hd, show Nat.ble 5 (n + 1 + 1) = false by (rcases (by omega : n = 0 ∨ n = 1 ∨ n = 2) with rfl | rfl | rfl <;> rfl), show Nat.ble (n + 1 + 1) 1 = false from rfl, Bool.false_or, Bool.false_or] at hq
  obtain ⟨d, hd1, hd2⟩ := List.any_eq_true.1 hq
  cases hf : boardL.find? (hit (n + 1) s) with
  | none => exact absurd hd2 (by simpa using List.find?_eq_none.1 hf d hd1)
  | some e => exact ⟨e, rfl, List.mem_of_find?_eq_some hf, List.find?_some hf⟩
/-- A score that is left behind one dart of the fewest is left in as many as are left, where it ends at all. -/
theorem rest_ge (n s : Nat) (hn : n < 3) (hs : s < 1002) (h : lG s = ((n + 1 : Nat) : Int)) (d : S58) (hd : d ∈ boardL) (hr : sc d < s) (hp : 0 < lG (s - sc d)) : (n : Int) ≤ lG (s - sc d) := by
  have hdg := (lG_dG s (n + 1)).1 h
  have hq := upTo_of chkP_all s hs
  unfold chkP at hq
  rw [hdg, show Nat.ble 5 (n + 1 + 1) = false by (rcases (by omega : n = 0 ∨ n = 1 ∨ n = 2) with rfl | rfl | rfl <;> rfl), Bool.false_or, ← scores_eq, List.all_eq_true] at hq
  have := hq (sc d) (List.mem_map.2 ⟨d, hd, rfl⟩)
  have e2 : Nat.sub s (sc d) = s - sc d := rfl
  rw [e2, Bool.or_eq_true, Bool.or_eq_true] at this
  unfold lG at hp ⊢
  rcases this with h1 | h1 | h1
  · have := Nat.le_of_ble_eq_true h1; omega
  · have := Nat.eq_of_beq_eq_true h1; omega
  · have := Nat.le_of_ble_eq_true h1; omega
theorem more_iff (n s : Nat) (hn : n + 1 < 3) (hs : s < 1002) (h : lG s = ((n + 1 + 1 : Nat) : Int)) (d : S58) (hd : d ∈ boardL) (hr : sc d < s) : (cntE n (s - sc d) > 0) ↔ lG (s - sc d) = ((n + 1 : Nat) : Int) := by
  constructor
  · intro hc
    have h1 := ends_of n (s - sc d) (by omega) (by omega) hc
    have h2 := rest_ge (n + 1) s hn hs h d hd hr h1.1
    omega
  · exact ends_at n (s - sc d) (by omega) (by omega)
/-! ### The reference's -/
theorem first_one (s : Nat) (hs : s < 1002) (d : Nat) : ∀ (i : Nat) (e : S58), i + d = boardL.length → (boardL.drop i).find? (hit 1 s) = some e → Ev (fun k => spec_daFirst.l0 k (s : Int) 1 boardL (boardL.length : Int) (i : Int)) [e] := by
  induction d with
  | zero =>
    intro i e hi he
    rw [List.drop_of_length_le (by omega)] at he
    cases he
  | succ d ih =>
    intro i e hi he
    have hlt : i < boardL.length := by omega
    rw [List.drop_eq_getElem_cons hlt] at he
    obtain ⟨dd, hdd⟩ : ∃ dd, dd = boardL[i] := ⟨_, rfl⟩
    rw [← hdd] at he
    obtain ⟨hw, h1, h60⟩ := board_sc (d := dd) (by rw [hdd]; exact List.getElem_mem _)
    have hl62 := board_len
    have hstep : ∀ k, spec_daFirst.l0 (k + 1) (s : Int) 1 boardL (boardL.length : Int) (i : Int) = spec_daFirst.j1 k (s : Int) 1 ((s : Int) - (sc dd : Int)) boardL (boardL.length : Int) (i : Int) (hit 1 s dd) dd.f0 dd.f1 := by
      intro k
      simp only [spec_daFirst.l0]
      rw [if_pos (by omega), if_pos (by omega), if_pos (by omega), if_pos trivial, rd58 boardL i hlt, ← hdd, hw, w64 (i := (s : Int) - (sc dd : Int)) (by omega) (by omega), hit_one]
      by_cases h : sc dd = s
      · rw [if_pos (by omega)]
        congr 1
        by_cases h2 : dd.f1 = 2
        · rw [decide_eq_true ⟨h, h2⟩, h2]; rfl
        · rw [decide_eq_false (fun x => h2 x.2), beq_eq_false_iff_ne.2 h2]
      · rw [if_neg (by omega), decide_eq_false (fun x => h x.1)]
    refine Ev.step hstep ?_
    cases hh : hit 1 s dd
    · rw [List.find?_cons_of_neg (by rw [hh]; exact Bool.false_ne_true)] at he
      refine Ev.step (fun k => ?_) (ih (i + 1) e (by omega) he)
      simp only [spec_daFirst.j1]
      rw [if_neg Bool.false_ne_true, if_neg (by omega), w64s (n := 1000) (by omega) (by omega)]
    · rw [List.find?_cons_of_pos hh] at he
      cases he
      refine Ev.step (f := fun _ => some [e]) (fun k => ?_) (Ev.now _)
      simp only [spec_daFirst.j1]
      rw [if_pos trivial]
theorem first_more (n s : Nat) (hn : n + 1 < 3) (hs : s < 1002) (hl : lG s = ((n + 1 + 1 : Nat) : Int)) (IH : ∀ s' : Nat, s' < 1002 → lG s' = ((n + 1 : Nat) : Int) → Ev (fun k => spec_daFirst.f k (s' : Int) ((n + 1 : Nat) : Int)) (path (n + 1) s')) (d : Nat) : ∀ (i : Nat) (e : S58), i + d = boardL.length → (boardL.drop i).find? (hit (n + 1 + 1) s) = some e → Ev (fun k => spec_daFirst.l0 k (s : Int) ((n + 1 + 1 : Nat) : Int) boardL (boardL.length : Int) (i : Int)) (e :: path (n + 1) (s - sc e)) := by
  induction d with
  | zero =>
    intro i e hi he
    rw [List.drop_of_length_le (by omega)] at he
    cases he
  | succ d ih =>
    intro i e hi he
    have hlt : i < boardL.length := by omega
    rw [List.drop_eq_getElem_cons hlt] at he
    obtain ⟨dd, hdd⟩ : ∃ dd, dd = boardL[i] := ⟨_, rfl⟩
    rw [← hdd] at he
    have hmem : dd ∈ boardL := by rw [hdd]; exact List.getElem_mem _
    obtain ⟨hw, h1, h60⟩ := board_sc hmem
    have hl62 := board_len
    have hstep : ∀ k, spec_daFirst.l0 (k + 1) (s : Int) ((n + 1 + 1 : Nat) : Int) boardL (boardL.length : Int) (i : Int) = spec_daFirst.j1 k (s : Int) ((n + 1 + 1 : Nat) : Int) ((s : Int) - (sc dd : Int)) boardL (boardL.length : Int) (i : Int) false dd.f0 dd.f1 := by
      intro k
      simp only [spec_daFirst.l0]
      rw [if_pos (by omega), if_pos (by omega), if_pos (by omega), if_neg (by omega), rd58 boardL i hlt, ← hdd, hw, w64 (i := (s : Int) - (sc dd : Int)) (by omega) (by omega)]
    refine Ev.step hstep ?_
    have hnext : hit (n + 1 + 1) s dd = false → Ev (fun k => spec_daFirst.l0 k (s : Int) ((n + 1 + 1 : Nat) : Int) boardL (boardL.length : Int) (wrap64 ((i : Int) + 1))) (e :: path (n + 1) (s - sc e)) := by
      intro hh
      rw [List.find?_cons_of_neg (by rw [hh]; exact Bool.false_ne_true)] at he
      exact Ev.congr (fun k => by rw [w64s (n := 1000) (by omega) (by omega)]) (ih (i + 1) e (by omega) he)
    by_cases hr : sc dd < s
    · have hj : ∀ k, spec_daFirst.j1 (k + 1) (s : Int) ((n + 1 + 1 : Nat) : Int) ((s : Int) - (sc dd : Int)) boardL (boardL.length : Int) (i : Int) false dd.f0 dd.f1 = (spec_daFinishes.f k ((s - sc dd : Nat) : Int) ((n + 1 : Nat) : Int)).bind fun t => if t > 0 then ((spec_daFirst.f k ((s - sc dd : Nat) : Int) ((n + 1 : Nat) : Int)).bind fun u => if [dd].length + u.length < 8796093022208 then some ([dd] ++ u) else none) else spec_daFirst.l0 k (s : Int) ((n + 1 + 1 : Nat) : Int) boardL (boardL.length : Int) (wrap64 ((i : Int) + 1)) := by
        intro k
        simp only [spec_daFirst.j1]
        rw [if_neg Bool.false_ne_true, if_pos (by omega), if_pos (by omega), w64 (i := ((n + 1 + 1 : Nat) : Int) - 1) (by omega) (by omega), show ((n + 1 + 1 : Nat) : Int) - 1 = ((n + 1 : Nat) : Int) by omega, show (s : Int) - (sc dd : Int) = ((s - sc dd : Nat) : Int) by omega]
        rfl
      refine Ev.step hj (Ev.bind (daFinishes n (s - sc dd) (by omega) (by omega)) ?_)
      by_cases hc : cntE n (s - sc dd) > 0
      · have hlr := (more_iff n s hn hs hl dd hmem hr).1 hc
        have hh : hit (n + 1 + 1) s dd = true := by rw [hit_more (n + 1) s (by omega), decide_eq_true ⟨hr, hlr⟩]
        rw [List.find?_cons_of_pos hh] at he
        cases he
        refine Ev.congr (fun k => by rw [if_pos hc]) (Ev.bind (IH (s - sc e) (by omega) hlr) ?_)
        have := path_len (n + 1) (s - sc e)
        refine Ev.congr (f := fun _ => some (e :: path (n + 1) (s - sc e))) (fun k => ?_) (Ev.now _)
        rw [if_pos (by rw [List.length_singleton]; omega)]; rfl
      · have hh : hit (n + 1 + 1) s dd = false := by
          rw [hit_more (n + 1) s (by omega), decide_eq_false]
          exact fun x => hc ((more_iff n s hn hs hl dd hmem hr).2 x.2)
        exact Ev.congr (fun k => by rw [if_neg hc]) (hnext hh)
    · have hh : hit (n + 1 + 1) s dd = false := by rw [hit_more (n + 1) s (by omega), decide_eq_false (fun x => hr x.1)]
      refine Ev.step (fun k => ?_) (hnext hh)
      simp only [spec_daFirst.j1]
      rw [if_neg Bool.false_ne_true, if_pos (by omega), if_neg (by omega)]
theorem daFirst : ∀ (n s : Nat), n < 3 → s < 1002 → lG s = ((n + 1 : Nat) : Int) → Ev (fun k => spec_daFirst.f k (s : Int) ((n + 1 : Nat) : Int)) (path (n + 1) s)
  | 0, s, hn, hs, h => by
    obtain ⟨e, he, _⟩ := find_some 0 s hn hs h
    have h2 := first_one s hs boardL.length 0 e (by omega) (by rw [List.drop_zero]; exact he)
    rw [show path (0 + 1) s = [e] by unfold path; rw [he]; rfl]
    refine Ev.step (f := fun k => (spec_daAll.f k).bind fun t => spec_daFirst.l0 k (s : Int) ((0 + 1 : Nat) : Int) t (t.length : Int) 0) (fun k => by simp only [spec_daFirst.f]) (Ev.bind daAll h2)
  | n + 1, s, hn, hs, h => by
    obtain ⟨e, he, _⟩ := find_some (n + 1) s hn hs h
    have h2 := first_more n s hn hs h (fun s' hs' h' => daFirst n s' (by omega) hs' h') boardL.length 0 e (by omega) (by rw [List.drop_zero]; exact he)
    rw [show path (n + 1 + 1) s = e :: path (n + 1) (s - sc e) by (conv => lhs; unfold path); rw [he]]
    refine Ev.step (f := fun k => (spec_daAll.f k).bind fun t => spec_daFirst.l0 k (s : Int) ((n + 1 + 1 : Nat) : Int) t (t.length : Int) 0) (fun k => by simp only [spec_daFirst.f]) (Ev.bind daAll h2)
def fV (a b : Int) : List S58 × Bool := if (0 ≤ a ∧ a ≤ 1001) ∧ (1 ≤ b ∧ b ≤ 3) ∧ 0 < lG a.toNat ∧ lG a.toNat ≤ b then (path (lG a.toNat).toNat a.toNat, true) else ([], false)
theorem fV_no {a b : Int} (h : ¬ ((0 ≤ a ∧ a ≤ 1001) ∧ (1 ≤ b ∧ b ≤ 3) ∧ 0 < lG a.toNat ∧ lG a.toNat ≤ b)) : fV a b = ([], false) := if_neg h
theorem fV_yes (s b n : Nat) (hs : s ≤ 1001) (hb : 1 ≤ b ∧ b ≤ 3) (hl : lG s = ((n + 1 : Nat) : Int)) (hnb : n + 1 ≤ b) : fV (s : Int) (b : Int) = (path (n + 1) s, true) := by
  unfold fV
  rw [Int.toNat_natCast, hl, if_pos (by omega), Int.toNat_natCast]
theorem fV_len (a b : Int) : (fV a b).1.length ≤ 32 := by
  unfold fV
  by_cases h : (0 ≤ a ∧ a ≤ 1001) ∧ (1 ≤ b ∧ b ≤ 3) ∧ 0 < lG a.toNat ∧ lG a.toNat ≤ b
  · rw [if_pos h]; have := path_len (lG a.toNat).toNat a.toNat; show (path (lG a.toNat).toNat a.toNat).length ≤ 32; omega
  · rw [if_neg h]; simp
theorem first_step (s b i : Nat) (hi : i + 1 ≤ b) (k : Nat) : spec_FirstFinish.l0 (k + 1) (s : Int) (b : Int) ((i + 1 : Nat) : Int) = (spec_daFinishes.f k (s : Int) ((i + 1 : Nat) : Int)).bind fun t => if t > 0 then ((spec_daFirst.f k (s : Int) ((i + 1 : Nat) : Int)).bind fun u => some (u, true)) else spec_FirstFinish.l0 k (s : Int) (b : Int) (wrap64 (((i + 1 : Nat) : Int) + 1)) := by
  simp only [spec_FirstFinish.l0]
  rw [if_pos (by omega)]
theorem spec_l0 (s b : Nat) (hs : s ≤ 1001) (hb : 1 ≤ b ∧ b ≤ 3) (d : Nat) : ∀ i : Nat, i + d = b → ¬ (0 < lG s ∧ lG s ≤ (i : Int)) → Ev (fun k => spec_FirstFinish.l0 k (s : Int) (b : Int) ((i + 1 : Nat) : Int)) (fV (s : Int) (b : Int)) := by
  induction d with
  | zero =>
    intro i hi hno
    rw [fV_no (by rw [Int.toNat_natCast]; rintro ⟨_, _, h1, h2⟩; exact hno ⟨h1, by omega⟩)]
    refine Ev.step (f := fun _ => some ([], false)) (fun k => ?_) (Ev.now _)
    simp only [spec_FirstFinish.l0]
    rw [if_neg (by omega)]
  | succ d ih =>
    intro i hi hno
    refine Ev.step (first_step s b i (by omega)) (Ev.bind (daFinishes i s (by omega) (by omega)) ?_)
    by_cases hc : cntE i s > 0
    · have h1 := ends_of i s (by omega) (by omega) hc
      have hl : lG s = ((i + 1 : Nat) : Int) := by omega
      rw [fV_yes s b i hs hb hl (by omega)]
      exact Ev.congr (fun k => by rw [if_pos hc]) (Ev.bind (daFirst i s (by omega) (by omega) hl) (Ev.now _))
    · refine Ev.congr (fun k => by rw [if_neg hc, w64s (n := 1000) (by omega) (by omega)]) (ih (i + 1) (by omega) ?_)
      intro hx
      exact hc (ends_at i s (by omega) (by omega) (by omega))
theorem first_spec (a b : Int) : Ev (fun k => spec_FirstFinish.f k a b) (fV a b) := by
  have hno : Ev (fun k => spec_FirstFinish.j0 k a b true) ([], false) := Ev.step (f := fun _ => some ([], false)) (fun k => by simp only [spec_FirstFinish.j0]; rw [if_pos trivial]) (Ev.now _)
  by_cases ha : 0 ≤ a ∧ a ≤ 1001
  · by_cases hb : 1 ≤ b ∧ b ≤ 3
    · refine Ev.congr (f := fun k => spec_FirstFinish.j0 k a b false) (fun k => by unfold spec_FirstFinish.f; rw [daLeft, decide_eq_true ha, Option.bind_some, if_pos rfl, daDarts, decide_eq_true hb, Option.bind_some]; rfl) ?_
      obtain ⟨m, hm, rfl⟩ : ∃ m : Nat, m ≤ 1001 ∧ a = (m : Int) := ⟨a.toNat, by omega, by omega⟩
      obtain ⟨n, hn, rfl⟩ : ∃ n : Nat, (1 ≤ n ∧ n ≤ 3) ∧ b = (n : Int) := ⟨b.toNat, by omega, by omega⟩
      refine Ev.step (fun k => ?_) (spec_l0 m n hm hn n 0 (by omega) (by omega))
      simp only [spec_FirstFinish.j0]
      rw [if_neg Bool.false_ne_true]; rfl
    · rw [fV_no (fun h => hb h.2.1)]
      exact Ev.congr (fun k => by unfold spec_FirstFinish.f; rw [daLeft, decide_eq_true ha, Option.bind_some, if_pos rfl, daDarts, decide_eq_false hb, Option.bind_some]; rfl) hno
  · rw [fV_no (fun h => ha h.1)]
    exact Ev.congr (fun k => by unfold spec_FirstFinish.f; rw [daLeft, decide_eq_false ha, Option.bind_some, if_neg Bool.false_ne_true]) hno
/-! ### The program's -/
theorem impl_next (s n : Nat) (hs : s < 1002) (hn : n < 3) (o : List S58) (ho : o.length ≤ 100) (i : Nat) (hlt : i < boardL.length) (dd : S58) (hdd : dd = boardL[i]) (k : Nat) : impl_FirstFinish.l1 (k + 1) (s : Int) (tab 1002 lG) o ((n + 1 : Nat) : Int) boardL (boardL.length : Int) (i : Int) = if hit (n + 1) s dd = true then impl_FirstFinish.l0 k ((s - sc dd : Nat) : Int) (tab 1002 lG) (o ++ [dd]) (n : Int) else impl_FirstFinish.l1 k (s : Int) (tab 1002 lG) o ((n + 1 : Nat) : Int) boardL (boardL.length : Int) ((i + 1 : Nat) : Int) := by
  obtain ⟨hw, h1, h60⟩ := board_sc (d := dd) (by rw [hdd]; exact List.getElem_mem _)
  have hl62 := board_len
  simp only [impl_FirstFinish.l1]
  rw [if_pos (by omega), if_pos (by omega), if_pos (by omega), rd58 boardL i hlt, ← hdd]
  simp only [impl_Dart_score.f, Option.bind_some]
  rw [hw, w64s (n := 1000) (by omega) (by omega), w64 (i := ((n + 1 : Nat) : Int) - 1) (by omega) (by omega), show ((n + 1 : Nat) : Int) - 1 = (n : Int) by omega, w64 (i := (s : Int) - (sc dd : Int)) (by omega) (by omega), if_pos (show o.length < 8796093022208 by omega)]
  cases n with
  | zero =>
    rw [if_neg (by omega), if_pos (show (((0 + 1 : Nat) : Int)) = 1 from rfl), hit_one]
    by_cases h : sc dd = s
    · rw [if_pos (by omega)]
      by_cases h2 : dd.f1 = 2
      · rw [if_pos h2, if_pos (decide_eq_true ⟨h, h2⟩), show (s : Int) - (sc dd : Int) = ((s - sc dd : Nat) : Int) by omega]
      · rw [if_neg h2, decide_eq_false (fun x => h2 x.2), if_neg Bool.false_ne_true]
    · rw [if_neg (by omega), decide_eq_false (fun x => h x.1), if_neg Bool.false_ne_true]
  | succ n =>
    have hne : ¬ (((n + 1 + 1 : Nat) : Int) = 1) := by omega
    rw [if_pos (by omega), hit_more (n + 1) s (by omega)]
    by_cases hr : sc dd < s
    · rw [if_pos (by omega), show (s : Int) - (sc dd : Int) = ((s - sc dd : Nat) : Int) by omega, if_pos (by omega), if_pos (by rw [tab_len]; omega), tab_rd _ (by omega)]
      by_cases hq : lG (s - sc dd) = ((n + 1 : Nat) : Int)
      · rw [if_pos hq, if_pos (decide_eq_true ⟨hr, hq⟩)]
      · rw [if_neg hq, if_neg hne, decide_eq_false (fun x => hq x.2), if_neg Bool.false_ne_true]
    · rw [if_neg (by omega), if_neg hne, decide_eq_false (fun x => hr x.1), if_neg Bool.false_ne_true]
theorem impl_l1 (s n : Nat) (hs : s < 1002) (hn : n < 3) (o : List S58) (ho : o.length ≤ 100) (e : S58) (r : List S58 × Bool) (hr : Ev (fun k => impl_FirstFinish.l0 k ((s - sc e : Nat) : Int) (tab 1002 lG) (o ++ [e]) (n : Int)) r) (d : Nat) : ∀ i : Nat, i + d = boardL.length → (boardL.drop i).find? (hit (n + 1) s) = some e → Ev (fun k => impl_FirstFinish.l1 k (s : Int) (tab 1002 lG) o ((n + 1 : Nat) : Int) boardL (boardL.length : Int) (i : Int)) r := by
  induction d with
  | zero =>
    intro i hi he
    rw [List.drop_of_length_le (by omega)] at he
    cases he
  | succ d ih =>
    intro i hi he
    have hlt : i < boardL.length := by omega
    rw [List.drop_eq_getElem_cons hlt] at he
    cases hh : hit (n + 1) s boardL[i]
    · rw [List.find?_cons_of_neg (by rw [hh]; exact Bool.false_ne_true)] at he
      exact Ev.step (fun k => by rw [impl_next s n hs hn o ho i hlt _ rfl, hh, if_neg Bool.false_ne_true]) (ih (i + 1) (by omega) he)
    · rw [List.find?_cons_of_pos hh] at he
      cases he
      exact Ev.step (fun k => by rw [impl_next s n hs hn o ho i hlt _ rfl, hh, if_pos rfl]) hr
theorem impl_l0 : ∀ (n s : Nat) (o : List S58), n ≤ 3 → s < 1002 → o.length + n ≤ 100 → (n = 0 ∨ lG s = (n : Int)) → Ev (fun k => impl_FirstFinish.l0 k (s : Int) (tab 1002 lG) o (n : Int)) (o ++ path n s, true)
  | 0, s, o, _, _, _, _ => by
    refine Ev.step (f := fun _ => some (o ++ path 0 s, true)) (fun k => ?_) (Ev.now _)
    simp only [impl_FirstFinish.l0]
    rw [if_neg (by omega)]
    show some (o, true) = some (o ++ [], true)
    rw [List.append_nil]
  | n + 1, s, o, hn, hs, ho, hl => by
    have hl2 : lG s = ((n + 1 : Nat) : Int) := hl.resolve_left (by omega)
    obtain ⟨e, he, hmem, hh⟩ := find_some n s (by omega) hs hl2
    have hrec : n = 0 ∨ lG (s - sc e) = (n : Int) := by
      cases n with
      | zero => exact Or.inl rfl
      | succ n =>
        right
        rw [hit_more (n + 1) s (by omega)] at hh
        exact (of_decide_eq_true hh).2
    have h1 := impl_l0 n (s - sc e) (o ++ [e]) (by omega) (by omega) (by rw [List.length_append, List.length_singleton]; omega) hrec
    have h2 := impl_l1 s n hs (by omega) o (by omega) e _ h1 boardL.length 0 (by omega) (by rw [List.drop_zero]; exact he)
    rw [show path (n + 1) s = e :: path n (s - sc e) by (conv => lhs; unfold path); rw [he]]
    rw [show o ++ e :: path n (s - sc e) = (o ++ [e]) ++ path n (s - sc e) by rw [List.append_assoc]; rfl]
    refine Ev.step (f := fun k => (impl_board.f k).bind fun t => impl_FirstFinish.l1 k (s : Int) (tab 1002 lG) o ((n + 1 : Nat) : Int) t (t.length : Int) 0) (fun k => ?_) (Ev.bind board h2)
    simp only [impl_FirstFinish.l0]
    rw [if_pos (by omega)]
theorem first_impl (a b : Int) : Ev (fun k => impl_FirstFinish.f k a b) (fV a b) := by
  have hno : Ev (fun k => impl_FirstFinish.j0 k a true) ([], false) := Ev.step (f := fun _ => some ([], false)) (fun k => by simp only [impl_FirstFinish.j0]; rw [if_pos trivial]) (Ev.now _)
  refine Ev.bind (impl_v a b) ?_
  by_cases h : (0 ≤ a ∧ a ≤ 1001) ∧ (1 ≤ b ∧ b ≤ 3)
  · rw [canV_yes h]
    by_cases hg : 0 < lG a.toNat ∧ lG a.toNat ≤ b
    · refine Ev.congr (f := fun k => impl_FirstFinish.j0 k a false) (fun k => by rw [decide_eq_true hg, if_pos rfl]; rfl) ?_
      obtain ⟨m, hm, rfl⟩ : ∃ m : Nat, m ≤ 1001 ∧ a = (m : Int) := ⟨a.toNat, by omega, by omega⟩
      obtain ⟨n, hn, rfl⟩ : ∃ n : Nat, (1 ≤ n ∧ n ≤ 3) ∧ b = (n : Int) := ⟨b.toNat, by omega, by omega⟩
      rw [Int.toNat_natCast] at hg
      obtain ⟨p, hp⟩ : ∃ p : Nat, lG m = ((p + 1 : Nat) : Int) := ⟨(lG m).toNat - 1, by omega⟩
      rw [fV_yes m n p hm hn hp (by omega)]
      have h1 := impl_l0 (p + 1) m [] (by omega) (by omega) (by rw [List.length_nil]; omega) (Or.inr hp)
      rw [List.nil_append] at h1
      refine Ev.step (f := fun k => (impl_fewest.f k true).bind fun t => if 0 ≤ (m : Int) then (if (m : Int) < (t.length : Int) then (impl_FirstFinish.l0 k (m : Int) t [] (rd t (m : Int))) else none) else none) (fun k => ?_) (Ev.bind fewest ?_)
      · simp only [impl_FirstFinish.j0]
        rw [if_neg Bool.false_ne_true]
      · refine Ev.congr (fun k => ?_) h1
        rw [tab_len, if_pos (by omega), if_pos (by omega), tab_rd _ (by omega), hp]
    · rw [fV_no (fun x => hg x.2.2)]
      exact Ev.congr (fun k => by rw [decide_eq_false hg, if_pos rfl]; rfl) hno
  · rw [canV_no h, fV_no (fun x => h ⟨x.1, x.2.1⟩)]
    exact Ev.congr (fun k => by rw [if_neg Bool.false_ne_true]) hno
theorem FnExactFirstFinish : ∀ (a0 : Int) (a1 : Int), ((Lit.int .i64 a0).wf = true) → ((Lit.int .i64 a1).wf = true) → ∃ k, laws_FnExactFirstFinish.f k a0 a1 = some true := by
  intro a b _ _
  have hl := fV_len a b
  have hj1 : Ev (fun k => laws_FnExactFirstFinish.j1 k (tabD (fV a b).1.length mk2) ((2 * (fV a b).1.length + 1 : Nat) : Int) false) true := by
    refine Ev.step (fun k => by simp only [laws_FnExactFirstFinish.j1]; rw [if_neg Bool.false_ne_true]) (Ev.bind (heldDs (fV a b).1.length (by omega)) ?_)
    exact Ev.congr (fun k => by rw [if_neg (by omega), if_pos rfl]) (Ev.now _)
  have hj0 : Ev (fun k => laws_FnExactFirstFinish.j0 k a b (fV a b).1 (fV a b).2 (fV a b).1 false) true := by
    refine Ev.step (fun k => by simp only [laws_FnExactFirstFinish.j0]; rw [if_neg Bool.false_ne_true]) (Ev.bind (markDs (fV a b).1 (by omega)) (Ev.bind (heldDs (fV a b).1.length (by omega)) ?_))
    refine Ev.congr (fun k => by rw [if_neg (by omega), if_pos rfl]) (Ev.bind (first_impl a b) (Ev.bind (eqDs (fV a b).1 (by omega)) ?_))
    exact Ev.congr (fun k => by rw [if_pos rfl, bne_self_eq_false]) hj1
  refine Ev.rounds (Ev.bind (first_spec a b) (Ev.bind (first_impl a b) (Ev.bind (eqDs (fV a b).1 (by omega)) ?_)))
  exact Ev.congr (fun k => by rw [if_pos rfl, bne_self_eq_false]) hj0

end Go.Proofs.Ytoaiajgbiaedfaa.Pure
