/- For every frame and number, of whatever size, the program's CountBreaks answers what the reference's answers. (The pure statement behind the row: over numbers and lists alone.) -/
import Derived.Test.YtolkcfphighhlaaDoorPAx25
import Derived.KernelRfl
import Derived.Laws.Strings
set_option linter.unusedSimpArgs false
namespace Go.Proofs.YtolkcfphighhlaaDoor.Pure
open Go.RowKit Go.Proofs.YtolkcfphighhlaaDoor.PA Go.Proofs.YtolkcfphighhlaaDoorW.PrintWords Go.Proofs.YtolkcfphighhlaaDoorW.PrintLast Go.Proofs.YtolkcfphighhlaaDoorW.PrintMore

theorem in_eq (a b c : Int) : spec_l1In.f a b c = some (decide (b ≤ a ∧ a ≤ c)) := by
  unfold spec_l1In.f; by_cases h : b ≤ a <;> simp [h]
theorem within_eq (a b c : Int) : impl_within.f a b c = some (decide (b ≤ a ∧ a ≤ c)) := by
  unfold impl_within.f; by_cases h : b ≤ a <;> simp [h]
def inR (a b : Int) : Prop := (0 ≤ a ∧ a ≤ 15) ∧ 2 ≤ b ∧ b ≤ 8
instance (a b : Int) : Decidable (inR a b) := by unfold inR; infer_instance
theorem spec_out {a b : Int} (h : ¬ inR a b) (c : Bool) : spec_frGood.f a c b = some false := by
  unfold spec_frGood.f
  rw [in_eq, Option.bind_some]
  by_cases ha : 0 ≤ a ∧ a ≤ 15
  · rw [decide_eq_true ha, if_pos rfl, in_eq, Option.bind_some, decide_eq_false (fun hb => h ⟨ha, hb⟩), if_neg Bool.false_ne_true]
  · rw [decide_eq_false ha, if_neg Bool.false_ne_true]
theorem j0_out {b : Int} (hb : ¬ (2 ≤ b ∧ b ≤ 8)) (k : Nat) (x : Bool) (a : Int) (c : Bool) : impl_IsFrame.j0 (k + 1) x a c b = some false := by
  have h2 : (b == 2) = false := beq_eq_false_iff_ne.2 (by omega)
  simp only [impl_IsFrame.j0, within_eq, Option.bind_some, h2, decide_eq_false hb, ite_self]
theorem j0_true (k : Nat) (a b : Int) (c : Bool) : impl_IsFrame.j0 (k + 1) true a c b = some false := by
  simp only [impl_IsFrame.j0, if_true]
theorem impl_out {a b : Int} (h : ¬ inR a b) (k : Nat) (c : Bool) : impl_IsFrame.f (k + 1) a c b = some false := by
  unfold impl_IsFrame.f
  rw [within_eq, Option.bind_some]
  by_cases ha : 0 ≤ a ∧ a ≤ 15
  · have hb : ¬ (2 ≤ b ∧ b ≤ 8) := fun hb => h ⟨ha, hb⟩
    rw [j0_out hb, j0_out hb, j0_out hb, ite_self, ite_self]
  · rw [decide_eq_false ha, if_neg Bool.false_ne_true, j0_true]
theorem inR_nat {a b : Int} (h : inR a b) : ∃ i j : Nat, i < 16 ∧ j < 9 ∧ a = (i : Int) ∧ b = (j : Int) := by
  unfold inR at h
  exact ⟨a.toNat, b.toNat, by omega, by omega, by omega, by omega⟩
theorem w64 {i : Int} (h0 : -9223372036854775808 ≤ i) (h : i ≤ 9223372036854775807) : wrap64 i = i := by unfold wrap64; omega
/-! ### The steps, told plainly -/
def nx (a : Nat) (c : Bool) (b : Nat) : Nat := if c = true then 6 else if 0 < a then 1 else if b ≤ 7 then 1 else 0
def pA (a : Nat) (c : Bool) : Nat := if c = true then a else a - 1
def pC (a : Nat) (c : Bool) : Bool := if c = true then false else decide (0 < a)
def pB (a : Nat) (c : Bool) (b : Nat) : Nat := if c = true then b else if 0 < a then b else b + 1
/-- So many shots from here on. -/
def run : Nat → Nat → Nat → Bool → Nat → Nat
  | 0, x, _, _, _ => x
  | n + 1, x, a, c, b => run n (x * nx a c b) (pA a c) (pC a c) (pB a c b)
theorem run_zero : ∀ (n a : Nat) (c : Bool) (b : Nat), run n 0 a c b = 0
  | 0, _, _, _ => rfl
  | n + 1, a, c, b => by
    show run n (0 * nx a c b) _ _ _ = 0
    rw [Nat.zero_mul]; exact run_zero n _ _ _
def wt (a : Nat) (c : Bool) : Nat := a + (if c = true then 1 else 0)
theorem wt_step (a : Nat) (c : Bool) (b : Nat) : nx a c b * 6 ^ wt (pA a c) (pC a c) ≤ 6 ^ wt a c := by
  unfold nx wt pA pC
  cases c
  · by_cases h : 0 < a
    · have e : a - 1 + 1 = a := by omega
      simp [h, e]
    · have e : a = 0 := by omega
      subst e
      by_cases h2 : b ≤ 7 <;> simp [h2]
  · simp [Nat.pow_succ, Nat.mul_comm]
theorem lim (x m : Nat) (h : x * 6 ^ m ≤ 6 ^ 15) : x ≤ 470184984576 := by
  have h1 : 1 ≤ 6 ^ m := Nat.pow_pos (by omega)
  have h2 : x ≤ x * 6 ^ m := Nat.le_mul_of_pos_right _ h1
  have h3 : (6 : Nat) ^ 15 = 470184984576 := by decide
  omega
theorem lim_step (x a : Nat) (c : Bool) (b : Nat) (h : x * 6 ^ wt a c ≤ 6 ^ 15) : (x * nx a c b) * 6 ^ wt (pA a c) (pC a c) ≤ 6 ^ 15 := by
  rw [Nat.mul_assoc]
  exact Nat.le_trans (Nat.mul_le_mul_left _ (wt_step a c b)) h
theorem pA_le (a : Nat) (c : Bool) : pA a c ≤ a := by unfold pA; split <;> omega
theorem pB_le (a : Nat) (c : Bool) (b : Nat) : b ≤ pB a c b ∧ pB a c b ≤ b + 1 := by unfold pB; split <;> (try split) <;> omega
theorem pB_eight (a : Nat) (c : Bool) (b : Nat) (h8 : b ≤ 8) (h : nx a c b ≠ 0) : pB a c b ≤ 8 := by
  unfold pB nx at *
  split
  · exact h8
  · split
    · exact h8
    · rename_i h1 h2
      rw [if_neg h1, if_neg h2] at h
      by_cases h3 : b ≤ 7
      · omega
      · rw [if_neg h3] at h; exact absurd rfl h
theorem pot_i (a : Nat) (c : Bool) (b : Nat) (ha : a ≤ 1000) (hb : b ≤ 1000) : impl_Frame_pot.f (a : Int) c (b : Int) = some ((pA a c : Int), pC a c, (pB a c b : Int)) := by
  unfold impl_Frame_pot.f pA pC pB
  cases c
  · rw [if_neg Bool.false_ne_true]
    by_cases h : 0 < a
    · rw [if_pos (by omega), w64 (by omega) (by omega)]
      simp only [Bool.false_eq_true, if_false, h, decide_true, if_true]
      congr 2
      omega
    · rw [if_neg (by omega), w64 (by omega) (by omega)]
      simp only [Bool.false_eq_true, if_false, h, decide_false]
      have e : a = 0 := by omega
      subst e
      rfl
  · rfl
theorem empty_iff (s : ByteArray) : (s.toList = []) ↔ s.size = 0 := by
  rw [ByteArray.toList_eq]
  have e : s.data.toList.length = s.size := rfl
  constructor
  · intro h; rw [← e, h]; rfl
  · intro h; exact List.eq_nil_of_length_eq_zero (e.trans h)
theorem b_cases {b : Nat} (h1 : 2 ≤ b) (h2 : b ≤ 7) : b = 2 ∨ b = 3 ∨ b = 4 ∨ b = 5 ∨ b = 6 ∨ b = 7 := by omega
theorem itoa_one {b : Nat} (h1 : 2 ≤ b) (h2 : b ≤ 7) : ∃ s, strconv_Itoa_26.f (b : Int) = some s ∧ s.size = 1 := by
  rcases b_cases h1 h2 with rfl | rfl | rfl | rfl | rfl | rfl <;> exact ⟨_, rfl, by kernel_rfl⟩
theorem num_one {b : Nat} (h1 : 2 ≤ b) (h2 : b ≤ 7) : ∃ s, Ev (fun k => spec_l1Num.f k (b : Int)) s ∧ s.size = 1 := by
  rcases b_cases h1 h2 with rfl | rfl | rfl | rfl | rfl | rfl <;> exact ⟨_, Ev.of (fun k => spec_l1Num.mono _ k) (k := 1) rfl, by kernel_rfl⟩
theorem next_i (a : Nat) (c : Bool) (b : Nat) (hb : 2 ≤ b) : ∃ s, impl_Frame_next.f (a : Int) c (b : Int) = some s ∧ s.size = nx a c b := by
  unfold impl_Frame_next.f nx
  cases c
  · simp only [Bool.false_eq_true, if_false]
    by_cases h : 0 < a
    · rw [if_pos (by omega), if_pos h]; exact ⟨_, rfl, rfl⟩
    · rw [if_neg (by omega), if_neg h]
      by_cases h2 : b ≤ 7
      · rw [if_pos (by omega), if_pos h2]
        obtain ⟨s, hs, hz⟩ := itoa_one hb h2
        exact ⟨s, by rw [hs]; rfl, hz⟩
      · rw [if_neg (by omega), if_neg h2]; exact ⟨_, rfl, rfl⟩
  · exact ⟨_, rfl, rfl⟩
theorem next_s (a : Nat) (c : Bool) (b : Nat) (hb : 2 ≤ b) : ∃ s, Ev (fun k => spec_frNext.f k (a : Int) c (b : Int)) s ∧ s.size = nx a c b := by
  unfold nx
  cases c
  · simp only [Bool.false_eq_true, if_false]
    by_cases h : 0 < a
    · rw [if_pos h]; exact ⟨_, Ev.congr (fun k => by unfold spec_frNext.f; rw [if_neg Bool.false_ne_true, if_pos (by omega)]) (Ev.now _), rfl⟩
    · rw [if_neg h]
      by_cases h2 : b ≤ 7
      · rw [if_pos h2]
        obtain ⟨s, hs, hz⟩ := num_one hb h2
        exact ⟨s, Ev.congr (f := fun k => (spec_l1Num.f k (b : Int)).bind fun t => some t) (fun k => by unfold spec_frNext.f; rw [if_neg Bool.false_ne_true, if_neg (by omega), if_pos (by omega)]) (Ev.bind hs (Ev.now _)), hz⟩
      · rw [if_neg h2]; exact ⟨_, Ev.congr (fun k => by unfold spec_frNext.f; rw [if_neg Bool.false_ne_true, if_neg (by omega), if_neg (by omega)]) (Ev.now _), rfl⟩
  · exact ⟨_, Ev.congr (fun k => by unfold spec_frNext.f; rw [if_pos rfl]) (Ev.now _), rfl⟩
theorem pot_l0 (s : ByteArray) (hs : s.size ≤ 1000) (x1 : Int) (a : Nat) (c : Bool) (b : Nat) (ha : a ≤ 1000) (hb : b ≤ 1000) (d : Nat) : ∀ i : Nat, i + d = s.size → Ev (fun k => spec_frPot.l0 k x1 true s (i : Int) (a : Int) c (b : Int)) ((pA a c : Int), pC a c, (pB a c b : Int), true) := by
  induction d with
  | zero =>
    intro i hi
    refine Ev.step (f := fun _ => some ((pA a c : Int), pC a c, (pB a c b : Int), true)) (fun k => ?_) (Ev.now _)
    simp only [spec_frPot.l0]
    rw [if_neg (by omega), if_pos trivial]
    unfold pA pC pB
    cases c
    · rw [if_neg Bool.false_ne_true]
      by_cases h : 0 < a
      · rw [if_pos (by omega), w64 (by omega) (by omega)]
        simp only [Bool.false_eq_true, if_false, h, decide_true, if_true]
        congr 2
        omega
      · rw [if_neg (by omega), w64 (by omega) (by omega)]
        simp only [Bool.false_eq_true, if_false, h, decide_false]
        have e : a = 0 := by omega
        subst e
        rfl
    · rfl
  | succ d ih =>
    intro i hi
    refine Ev.step (fun k => ?_) (ih (i + 1) (by omega))
    simp only [spec_frPot.l0]
    rw [if_pos (by omega), if_pos trivial, w64 (by omega) (by omega)]
    congr 1
theorem pot_s (s : ByteArray) (a : Nat) (c : Bool) (b : Nat) (ha : a ≤ 1000) (hb : b ≤ 1000) (hn : Ev (fun k => spec_frNext.f k (a : Int) c (b : Int)) s) (h0 : 0 < s.size) (hs : s.size ≤ 1000) : Ev (fun k => spec_frPot.f k (a : Int) c (b : Int) (bt s 0)) ((pA a c : Int), pC a c, (pB a c b : Int), true) := by
  refine Ev.congr (f := fun k => (spec_frNext.f k (a : Int) c (b : Int)).bind fun t => spec_frPot.l0 k (bt s 0) false t 0 (a : Int) c (b : Int)) (fun k => rfl) (Ev.bind hn ?_)
  refine Ev.step (fun k => ?_) (pot_l0 s hs (bt s 0) a c b ha hb (s.size - 1) 1 (by omega))
  simp only [spec_frPot.l0]
  rw [if_pos (by omega), if_neg Bool.false_ne_true, if_pos (by omega), w64 (by omega) (by omega), beq_self_eq_true]
  rfl
theorem nx_le (a : Nat) (c : Bool) (b : Nat) : nx a c b ≤ 6 := by unfold nx; split <;> (try split) <;> (try split) <;> omega
theorem least (a b : Int) (h : a ≤ b) : spec_l1Least.f a b = some a := by
  unfold spec_l1Least.f
  by_cases h2 : a < b
  · first | (rw [if_pos h2]) | (rw [if_neg (by omega)]) | (simp [h2])
  · have e : a = b := by omega
    subst e
    first | (rw [if_neg h2]) | (rw [if_pos (by omega)]) | simp
theorem spec_l0 (n : Nat) : ∀ (x a : Nat) (c : Bool) (b : Nat), n ≤ 36 → a ≤ 15 → 2 ≤ b → b ≤ 8 → x * 6 ^ wt a c ≤ 6 ^ 15 → Ev (fun k => spec_CountBreaks.l0 k (n : Int) (x : Int) (a : Int) c (b : Int)) ((run n x a c b : Int), true) := by
  induction n with
  | zero =>
    intro x a c b _ _ _ _ hx
    have := lim x _ hx
    refine Ev.step (f := fun _ => some ((x : Int), true)) (fun k => ?_) (Ev.now _)
    simp only [spec_CountBreaks.l0]
    rw [if_neg (by omega), if_neg (by omega)]
  | succ n ih =>
    intro x a c b hn ha hb hb8 hx
    have hl := lim x _ hx
    obtain ⟨s, hs, hz⟩ := next_s a c b hb
    have h6 := nx_le a c b
    have hl2 := lim _ _ (lim_step x a c b hx)
    refine Ev.step (f := fun k => (spec_frNext.f k (a : Int) c (b : Int)).bind fun t230 => (if t230.toList = ([] : List UInt8) then (some (0, true)) else ((spec_l1Least.f (wrap64 ((x : Int) * (t230.size : Int))) 1000000000000001).bind fun t231 => (if 0 < (t230.size : Int) then ((spec_frPot.f k (a : Int) c (b : Int) (bt t230 0)).bind fun bt232 => (spec_CountBreaks.l0 k (n : Int) t231 bt232.1 bt232.2.1 bt232.2.2.1)) else (none))))) (fun k => ?_) (Ev.bind hs ?_)
    · simp only [spec_CountBreaks.l0]
      rw [if_pos (by omega), w64 (i := ((n + 1 : Nat) : Int) - 1) (by omega) (by omega), show ((n + 1 : Nat) : Int) - 1 = (n : Int) by omega]
    · by_cases h0 : nx a c b = 0
      · have e : run (n + 1) x a c b = 0 := by
          show run n (x * nx a c b) _ _ _ = 0
          rw [h0, Nat.mul_zero]; exact run_zero n _ _ _
        rw [e]
        exact Ev.congr (fun k => by rw [if_pos ((empty_iff s).2 (hz.trans h0))]; rfl) (Ev.now _)
      · have hx2 : wrap64 ((x : Int) * (s.size : Int)) = ((x * nx a c b : Nat) : Int) := by
          rw [hz, show (x : Int) * ((nx a c b : Nat) : Int) = ((x * nx a c b : Nat) : Int) by rw [Int.natCast_mul]]
          exact w64 (by omega) (by omega)
        refine Ev.congr (fun k => by rw [if_neg (fun h => h0 (hz ▸ (empty_iff s).1 h)), hx2, least _ _ (by omega), Option.bind_some, if_pos (by omega)]) (Ev.bind (pot_s s a c b (by omega) (by omega) hs (by omega) (by omega)) ?_)
        exact ih (x * nx a c b) (pA a c) (pC a c) (pB a c b) (by omega) (by have := pA_le a c; omega) (by have := (pB_le a c b).1; omega) (pB_eight a c b hb8 h0) (lim_step x a c b hx)
/-! ### The program's -/
theorem impl_l0 (n : Nat) (d : Nat) : ∀ (i x a : Nat) (c : Bool) (b : Nat), i + d = n → n ≤ 36 → a ≤ 15 → 2 ≤ b → b ≤ 8 + i → x * 6 ^ wt a c ≤ 6 ^ 15 → Ev (fun k => impl_CountBreaks.l0 k (x : Int) (n : Int) (i : Int) (a : Int) c (b : Int)) ((run d x a c b : Int), true) := by
  induction d with
  | zero =>
    intro i x a c b hi _ _ _ _ hx
    have := lim x _ hx
    refine Ev.step (f := fun _ => some ((x : Int), true)) (fun k => ?_) (Ev.now _)
    simp only [impl_CountBreaks.l0]
    rw [if_neg (by omega), if_neg (by omega)]
  | succ d ih =>
    intro i x a c b hi hn ha hb hb8 hx
    have hl := lim x _ hx
    obtain ⟨s, hs, hz⟩ := next_i a c b hb
    have hl2 := lim _ _ (lim_step x a c b hx)
    have hx2 : wrap64 ((x : Int) * (s.size : Int)) = ((x * nx a c b : Nat) : Int) := by
      rw [hz, show (x : Int) * ((nx a c b : Nat) : Int) = ((x * nx a c b : Nat) : Int) by rw [Int.natCast_mul]]
      exact w64 (by omega) (by omega)
    refine Ev.step (fun k => ?_) (ih (i + 1) (x * nx a c b) (pA a c) (pC a c) (pB a c b) (by omega) hn (by have := pA_le a c; omega) (by have := (pB_le a c b).1; omega) (by have := (pB_le a c b).2; omega) (lim_step x a c b hx))
    simp only [impl_CountBreaks.l0]
    rw [if_pos (by omega), hs, Option.bind_some, pot_i a c b (by omega) (by omega), Option.bind_some, hx2, w64 (i := (i : Int) + 1) (by omega) (by omega)]
    congr 1
def fine (i j : Nat) (c : Bool) : Bool := match spec_frGood.f (i : Int) c (j : Int), impl_IsFrame.f 1 (i : Int) c (j : Int) with
  | some p, some q => (p == q) && (!p || (Nat.ble (wt i c) 15 && (Nat.ble 2 j && Nat.ble j 8)))
  | _, _ => false
theorem fine_all : (List.range 16).all (fun i => (List.range 9).all (fun j => [false, true].all (fun c => fine i j c))) = true := by kernel_rfl
theorem good_cases (a b : Int) (c : Bool) : (spec_frGood.f a c b = some false ∧ Ev (fun k => impl_IsFrame.f k a c b) false) ∨ (spec_frGood.f a c b = some true ∧ Ev (fun k => impl_IsFrame.f k a c b) true ∧ ∃ i j : Nat, a = (i : Int) ∧ b = (j : Int) ∧ i ≤ 15 ∧ 2 ≤ j ∧ j ≤ 8 ∧ wt i c ≤ 15) := by
  by_cases h : inR a b
  · obtain ⟨i, j, hi, hj, rfl, rfl⟩ := inR_nat h
    have h := List.all_eq_true.1 (List.all_eq_true.1 (List.all_eq_true.1 fine_all i (List.mem_range.2 hi)) j (List.mem_range.2 hj)) c (by cases c <;> simp)
    unfold fine at h
    revert h
    cases hs : spec_frGood.f (i : Int) c (j : Int) with
    | none => intro h; cases h
    | some p =>
      cases hm : impl_IsFrame.f 1 (i : Int) c (j : Int) with
      | none => intro h; cases h
      | some q =>
        intro h
        have h2 : ((p == q) && (!p || (Nat.ble (wt i c) 15 && (Nat.ble 2 j && Nat.ble j 8)))) = true := h
        rw [Bool.and_eq_true, beq_iff_eq] at h2
        obtain ⟨rfl, h3⟩ := h2
        have hev := Ev.of (fun k => impl_IsFrame.mono _ _ _ k) hm
        cases p
        · exact Or.inl ⟨rfl, hev⟩
        · rw [Bool.not_true, Bool.false_or, Bool.and_eq_true, Bool.and_eq_true] at h3
          exact Or.inr ⟨rfl, hev, i, j, rfl, rfl, by omega, Nat.le_of_ble_eq_true h3.2.1, Nat.le_of_ble_eq_true h3.2.2, Nat.le_of_ble_eq_true h3.1⟩
  · exact Or.inl ⟨spec_out h c, Ev.of (fun k => impl_IsFrame.mono _ _ _ k) (impl_out h 0 c)⟩
theorem sj_true (n a b : Int) (c : Bool) : Ev (fun k => spec_CountBreaks.j0 k n true a c b) (0, false) := Ev.step (f := fun _ => some (0, false)) (fun k => by simp only [spec_CountBreaks.j0]; rw [if_pos trivial]) (Ev.now _)
theorem ij_true (n a b : Int) (c : Bool) : Ev (fun k => impl_CountBreaks.j0 k n true a c b) (0, false) := Ev.step (f := fun _ => some (0, false)) (fun k => by simp only [impl_CountBreaks.j0]; rw [if_pos trivial]) (Ev.now _)
theorem both (a b n : Int) (c : Bool) : ∃ r, Ev (fun k => spec_CountBreaks.f k a c b n) r ∧ Ev (fun k => impl_CountBreaks.f k a c b n) r := by
  rcases good_cases a b c with ⟨hs, hi⟩ | ⟨hs, hi, i, j, rfl, rfl, hi15, hj2, hj8, hw⟩
  · exact ⟨(0, false), Ev.congr (fun k => by unfold spec_CountBreaks.f; rw [hs, Option.bind_some, if_neg Bool.false_ne_true]) (sj_true n a b c), Ev.bind hi (Ev.congr (fun k => by rw [if_neg Bool.false_ne_true]) (ij_true n a b c))⟩
  · by_cases hn : 0 ≤ n ∧ n ≤ 36
    · obtain ⟨m, hm, rfl⟩ : ∃ m : Nat, m ≤ 36 ∧ n = (m : Int) := ⟨n.toNat, by omega, by omega⟩
      have hx : 1 * 6 ^ wt i c ≤ 6 ^ 15 := by rw [Nat.one_mul]; exact Nat.pow_le_pow_right (by omega) hw
      have h1 := spec_l0 m 1 i c j hm hi15 hj2 hj8 hx
      have h2 := impl_l0 m m 0 1 i c j (by omega) hm hi15 hj2 (by omega) hx
      refine ⟨_, Ev.congr (f := fun k => spec_CountBreaks.j0 k (m : Int) false (i : Int) c (j : Int)) (fun k => by unfold spec_CountBreaks.f; rw [hs, Option.bind_some, if_pos rfl, in_eq, decide_eq_true hn, Option.bind_some]; rfl) (Ev.step (fun k => by simp only [spec_CountBreaks.j0]; rw [if_neg Bool.false_ne_true]; rfl) h1), Ev.bind hi ?_⟩
      exact Ev.congr (f := fun k => impl_CountBreaks.j0 k (m : Int) false (i : Int) c (j : Int)) (fun k => by rw [if_pos rfl, within_eq, decide_eq_true hn, Option.bind_some]; rfl) (Ev.step (fun k => by simp only [impl_CountBreaks.j0]; rw [if_neg Bool.false_ne_true]; rfl) h2)
    · refine ⟨(0, false), Ev.congr (fun k => by unfold spec_CountBreaks.f; rw [hs, Option.bind_some, if_pos rfl, in_eq, decide_eq_false hn, Option.bind_some]; rfl) (sj_true n _ _ c), Ev.bind hi ?_⟩
      exact Ev.congr (fun k => by rw [if_pos rfl, within_eq, decide_eq_false hn, Option.bind_some]; rfl) (ij_true n _ _ c)
theorem FnExactCountBreaks : ∀ (a0_0 : Int) (a0_1 : Bool) (a0_2 : Int) (a1 : Int), ((Lit.int .i64 a0_0).wf = true ∧ True ∧ (Lit.int .i64 a0_2).wf = true) → ((Lit.int .i64 a1).wf = true) → ∃ k, laws_FnExactCountBreaks.f k a0_0 a0_1 a0_2 a1 = some true := by
  intro a c b n _ _
  obtain ⟨r, hs, hi⟩ := both a b n c
  refine Ev.rounds ?_
  refine Ev.congr (f := fun k => (spec_CountBreaks.f k a c b n).bind fun bt249 => ((impl_CountBreaks.f k a c b n).bind fun bt254 => (if bt254.1 = bt249.1 then (if (bt254.2 != bt249.2) = true then (some false) else (some true)) else (some false)))) (fun k => by unfold laws_FnExactCountBreaks.f; simp only [laws_toFrame.f, Option.bind_some]) (Ev.bind hs (Ev.bind hi ?_))
  exact Ev.congr (fun k => by rw [if_pos rfl, bne_self_eq_false, if_neg Bool.false_ne_true]) (Ev.now _)

end Go.Proofs.YtolkcfphighhlaaDoor.Pure
