/- For all numbers of games, the program's CountGameOrders answers what the reference's answers. (The pure statement behind the row: over numbers and lists alone.) -/
import Derived.Test.YtdpfgdachdkkbaaPAx7
import Derived.KernelRfl
import Derived.Laws.Strings
set_option linter.unusedSimpArgs false
namespace Go.Proofs.Ytdpfgdachdkkbaa.Pure
open Go.RowKit Go.Proofs.Ytdpfgdachdkkbaa.PA Go.Proofs.YtdpfgdachdkkbaaW.PrintWords Go.Proofs.YtdpfgdachdkkbaaW.PrintLast
theorem w64 {i : Int} (h0 : -9223372036854775808 ≤ i) (h : i ≤ 9223372036854775807) : wrap64 i = i := by unfold wrap64; omega
theorem w64s {i n : Nat} (h : i < n) (hn : n ≤ 4611686018427387904) : wrap64 ((i : Int) + 1) = ((i + 1 : Nat) : Int) := by rw [w64 (by omega) (by omega)]; omega
/-! ### A set's end, told on small numbers -/
def over (i j : Nat) : Bool := Nat.beq i 7 || Nat.beq j 7 || (Nat.ble 6 i && Nat.ble (j + 2) i) || (Nat.ble 6 j && Nat.ble (i + 2) j)
/-- The orders in which i and j won games go on to a and b, and no set is over before. -/
def cnt (a b : Nat) : Nat → Nat → Nat → Nat
  | 0, i, j => if i = a ∧ j = b then 1 else 0
  | d + 1, i, j => if i = a ∧ j = b then 1 else if over i j = true then 0 else (if i < a then cnt a b d (i + 1) j else 0) + (if j < b then cnt a b d i (j + 1) else 0)
def prevA (r : Nat → Nat → Nat) : Nat → Nat → Nat
  | 0, _ => 0
  | i + 1, b => if over i b = true then 0 else r i b
def prevB (r : Nat → Nat → Nat) (a : Nat) : Nat → Nat
  | 0 => 0
  | j + 1 => if over a j = true then 0 else r a j
def back : Nat → Nat → Nat → Nat
  | 0, a, b => if a = 0 ∧ b = 0 then 1 else 0
  | d + 1, a, b => if a = 0 ∧ b = 0 then 1 else prevA (back d) a b + prevB (back d) a b
theorem same : (List.range 8).all (fun a => (List.range 8).all (fun b => Nat.beq (cnt a b 14 0 0) (back 14 a b))) = true := by kernel_rfl
theorem same_of (a b : Nat) (ha : a ≤ 7) (hb : b ≤ 7) : cnt a b 14 0 0 = back 14 a b := by
  have h := List.all_eq_true.1 (List.all_eq_true.1 same a (List.mem_range.2 (by omega))) b (List.mem_range.2 (by omega))
  exact Nat.eq_of_beq_eq_true h
theorem cnt_le (a b : Nat) : ∀ d i j, cnt a b d i j ≤ 2 ^ d
  | 0, i, j => by
    unfold cnt
    by_cases h : i = a ∧ j = b
    · rw [if_pos h]; exact Nat.le_refl _
    · rw [if_neg h]; exact Nat.zero_le _
  | d + 1, i, j => by
    have h1 := cnt_le a b d (i + 1) j
    have h2 := cnt_le a b d i (j + 1)
    have h3 : 2 ^ (d + 1) = 2 ^ d + 2 ^ d := by rw [Nat.pow_succ]; omega
    have h4 : 0 < 2 ^ d := Nat.pow_pos (by omega)
    rw [h3]
    unfold cnt
    split
    · omega
    · split
      · omega
      · split <;> split <;> omega
theorem back_le : ∀ d a b, back d a b ≤ 2 ^ d
  | 0, i, j => by
    unfold back
    by_cases h : i = 0 ∧ j = 0
    · rw [if_pos h]; exact Nat.le_refl _
    · rw [if_neg h]; exact Nat.zero_le _
  | d + 1, i, j => by
    have h3 : 2 ^ (d + 1) = 2 ^ d + 2 ^ d := by rw [Nat.pow_succ]; omega
    have h4 : 0 < 2 ^ d := Nat.pow_pos (by omega)
    rw [h3]
    unfold back
    have ha : prevA (back d) i j ≤ 2 ^ d := by
      cases i with
      | zero => exact Nat.zero_le _
      | succ i =>
        show (if over i j = true then 0 else back d i j) ≤ 2 ^ d
        split
        · omega
        · exact back_le d _ _
    have hb : prevB (back d) i j ≤ 2 ^ d := by
      cases j with
      | zero => exact Nat.zero_le _
      | succ j =>
        show (if over i j = true then 0 else back d i j) ≤ 2 ^ d
        split
        · omega
        · exact back_le d _ _
    split
    · omega
    · omega
/-! ### The reference's -/
theorem most (a b : Int) : spec_l1Most.f a b = some (if a > b then a else b) := by
  unfold spec_l1Most.f; by_cases h : a > b
  · rw [if_pos h, if_pos h]
  · rw [if_neg h, if_neg h]
theorem abs_ (a : Int) (h : -1000 ≤ a ∧ a ≤ 1000) : spec_l1Abs.f a = some (if a > -a then a else -a) := by
  unfold spec_l1Abs.f
  rw [most, w64 (by omega) (by omega)]; rfl
theorem tnOver (i j : Nat) (hi : i ≤ 7) (hj : j ≤ 7) : spec_tnOver.f (i : Int) (j : Int) = some (over i j) := by
  have key : (List.range 8).all (fun i => (List.range 8).all (fun j => decide (spec_tnOver.f (i : Int) (j : Int) = some (over i j)))) = true := by kernel_rfl
  exact of_decide_eq_true (List.all_eq_true.1 (List.all_eq_true.1 key i (List.mem_range.2 (by omega))) j (List.mem_range.2 (by omega)))
def str (l : List UInt8) : ByteArray := ⟨l.toArray⟩
theorem str_size (l : List UInt8) : (str l).size = l.length := rfl
theorem str_a (l : List UInt8) : str l ++ (⟨#[97]⟩ : ByteArray) = str (l ++ [97]) := by
  apply ByteArray.ext
  rw [ByteArray.data_append]
  simp [str]
theorem str_b (l : List UInt8) : str l ++ (⟨#[98]⟩ : ByteArray) = str (l ++ [98]) := by
  apply ByteArray.ext
  rw [ByteArray.data_append]
  simp [str]
def wonA (l : List UInt8) : Nat := l.countP (fun c => c == 97)
theorem wonA_le (l : List UInt8) : wonA l ≤ l.length := List.countP_le_length
theorem bt_str (l : List UInt8) (i : Nat) (h : i < l.length) : bt (str l) (i : Int) = (((l[i]'h).toNat : Nat) : Int) := by
  unfold bt
  rw [dif_pos (by rw [Int.toNat_natCast, str_size]; exact h)]
  rfl
theorem won_l0 (l : List UInt8) (hl : l.length ≤ 1000) (d : Nat) : ∀ (i a : Nat), i + d = l.length → a ≤ i → Ev (fun k => spec_tnWon.l0 k (str l) (a : Int) (i : Int)) (((a + wonA (l.drop i) : Nat) : Int), (((l.length - (a + wonA (l.drop i))) : Nat) : Int)) := by
  induction d with
  | zero =>
    intro i a hi ha
    rw [List.drop_of_length_le (by omega)]
    refine Ev.step (f := fun _ => some ((a : Int), ((l.length - a : Nat) : Int))) (fun k => ?_) (Ev.now _)
    simp only [spec_tnWon.l0]
    rw [str_size, if_neg (by omega), w64 (by omega) (by omega), show ((l.length : Int) - (a : Int)) = ((l.length - a : Nat) : Int) by omega]
  | succ d ih =>
    intro i a hi ha
    have hlt : i < l.length := by omega
    have hd : l.drop i = l[i] :: l.drop (i + 1) := List.drop_eq_getElem_cons hlt
    rw [hd]
    by_cases hc : l[i] = 97
    · have e : a + wonA (l[i] :: l.drop (i + 1)) = (a + 1) + wonA (l.drop (i + 1)) := by
        unfold wonA
        rw [List.countP_cons_of_pos (by rw [hc]; rfl)]; omega
      rw [e]
      refine Ev.step (fun k => ?_) (ih (i + 1) (a + 1) (by omega) (by omega))
      simp only [spec_tnWon.l0]
      rw [str_size, if_pos (by omega), if_pos (by omega), bt_str l i hlt, if_pos (by rw [hc]; rfl), w64s (n := 2000) (by omega) (by omega), w64s (n := 2000) (by omega) (by omega)]
    · have e : a + wonA (l[i] :: l.drop (i + 1)) = a + wonA (l.drop (i + 1)) := by
        unfold wonA
        rw [List.countP_cons_of_neg (by simpa using hc)]
      rw [e]
      refine Ev.step (fun k => ?_) (ih (i + 1) a (by omega) (by omega))
      simp only [spec_tnWon.l0]
      rw [str_size, if_pos (by omega), if_pos (by omega), bt_str l i hlt, if_neg (fun h => hc (UInt8.toNat_inj.1 (by have : (l[i].toNat : Int) = 97 := h; show l[i].toNat = 97; omega))), w64s (n := 2000) (by omega) (by omega)]
theorem won (l : List UInt8) (hl : l.length ≤ 1000) : Ev (fun k => spec_tnWon.f k (str l)) ((wonA l : Int), ((l.length - wonA l : Nat) : Int)) := by
  have h := won_l0 l hl l.length 0 0 (by omega) (by omega)
  rw [List.drop_zero, Nat.zero_add] at h
  exact Ev.congr (fun k => rfl) h
theorem wonA_a (l : List UInt8) : wonA (l ++ [97]) = wonA l + 1 := by unfold wonA; rw [List.countP_append]; rfl
theorem wonA_b (l : List UInt8) : wonA (l ++ [98]) = wonA l := by unfold wonA; rw [List.countP_append]; rfl
theorem orders_step (a b : Nat) (l : List UInt8) (hl : l.length ≤ 100) (r : List ByteArray) (h : Ev (fun k => spec_tnOrders.j0 k (a : Int) (b : Int) (str l) (wonA l : Int) ((l.length - wonA l : Nat) : Int) (decide (wonA l = a ∧ l.length - wonA l = b))) r) : Ev (fun k => spec_tnOrders.f k (a : Int) (b : Int) (str l)) r := by
  refine Ev.step (f := fun k => (spec_tnWon.f k (str l)).bind fun bt108 => (if bt108.1 = (a : Int) then (spec_tnOrders.j0 k (a : Int) (b : Int) (str l) bt108.1 bt108.2 (bt108.2 == (b : Int))) else (spec_tnOrders.j0 k (a : Int) (b : Int) (str l) bt108.1 bt108.2 false))) (fun k => by simp only [spec_tnOrders.f]) (Ev.bind (won l (by omega)) ?_)
  refine Ev.congr (fun k => ?_) h
  by_cases h1 : wonA l = a
  · rw [if_pos (by show (wonA l : Int) = (a : Int); omega)]
    show spec_tnOrders.j0 k (a : Int) (b : Int) (str l) (wonA l : Int) ((l.length - wonA l : Nat) : Int) (((l.length - wonA l : Nat) : Int) == (b : Int)) = _
    congr 1
    by_cases h2 : l.length - wonA l = b
    · rw [decide_eq_true ⟨h1, h2⟩, h2]; exact beq_self_eq_true _
    · rw [decide_eq_false (fun x => h2 x.2)]; exact beq_eq_false_iff_ne.2 (by omega)
  · rw [if_neg (by show ¬ (wonA l : Int) = (a : Int); omega), decide_eq_false (fun x => h1 x.1)]
theorem orders (a b : Nat) (ha : a ≤ 7) (hb : b ≤ 7) : ∀ (d : Nat) (l : List UInt8), wonA l ≤ a → l.length - wonA l ≤ b → l.length + d = 14 → ∃ r, Ev (fun k => spec_tnOrders.f k (a : Int) (b : Int) (str l)) r ∧ r.length = cnt a b d (wonA l) (l.length - wonA l)
  | 0, l, hi, hj, hd => by
    have hw := wonA_le l
    refine ⟨[str l], orders_step a b l (by omega) _ ?_, ?_⟩
    · refine Ev.step (f := fun _ => some [str l]) (fun k => ?_) (Ev.now _)
      simp only [spec_tnOrders.j0]
      rw [if_pos (decide_eq_true (by omega))]
    · unfold cnt
      rw [if_pos (by omega)]; rfl
  | d + 1, l, hi, hj, hd => by
    have hw := wonA_le l
    have hlen : l.length ≤ 100 := by omega
    by_cases hend : wonA l = a ∧ l.length - wonA l = b
    · refine ⟨[str l], orders_step a b l (by omega) _ ?_, ?_⟩
      · refine Ev.step (f := fun _ => some [str l]) (fun k => ?_) (Ev.now _)
        simp only [spec_tnOrders.j0]
        rw [if_pos (decide_eq_true hend)]
      · unfold cnt
        rw [if_pos hend]; rfl
    · cases hov : over (wonA l) (l.length - wonA l)
      · have go : ∀ r, Ev (fun k => if (wonA l : Int) < (a : Int) then (if (str l).size + 1 ≤ 9223372036854775807 then ((spec_tnOrders.f k (a : Int) (b : Int) (str l ++ (⟨#[97]⟩ : ByteArray))).bind fun t114 => (if ((l.length - wonA l : Nat) : Int) < (b : Int) then ((spec_tnOrders.f k (a : Int) (b : Int) (str l ++ (⟨#[98]⟩ : ByteArray))).bind fun t117 => (if t114.length + t117.length < 8796093022208 then (some (t114 ++ t117)) else (none))) else (some t114))) else (none)) else (if ((l.length - wonA l : Nat) : Int) < (b : Int) then (if (str l).size + 1 ≤ 9223372036854775807 then ((spec_tnOrders.f k (a : Int) (b : Int) (str l ++ (⟨#[98]⟩ : ByteArray))).bind fun t123 => (if ([] : List ByteArray).length + t123.length < 8796093022208 then (some (([] : List ByteArray) ++ t123)) else (none))) else (none)) else (some ([] : List ByteArray)))) r → Ev (fun k => spec_tnOrders.f k (a : Int) (b : Int) (str l)) r := by
          intro r h
          refine orders_step a b l hlen _ (Ev.step (fun k => ?_) h)
          simp only [spec_tnOrders.j0]
          rw [decide_eq_false hend, if_neg Bool.false_ne_true, tnOver _ _ (by omega) (by omega), Option.bind_some, hov, if_neg Bool.false_ne_true]
        have ec : cnt a b (d + 1) (wonA l) (l.length - wonA l) = (if wonA l < a then cnt a b d (wonA l + 1) (l.length - wonA l) else 0) + (if l.length - wonA l < b then cnt a b d (wonA l) (l.length - wonA l + 1) else 0) := by
          conv => lhs; unfold cnt
          rw [if_neg hend, hov, if_neg Bool.false_ne_true]
        have ihA : wonA l < a → ∃ r, Ev (fun k => spec_tnOrders.f k (a : Int) (b : Int) (str l ++ (⟨#[97]⟩ : ByteArray))) r ∧ r.length = cnt a b d (wonA l + 1) (l.length - wonA l) := by
          intro hlt
          have hla : (l ++ [(97 : UInt8)]).length = l.length + 1 := by simp
          obtain ⟨r, h1, h2⟩ := orders a b ha hb d (l ++ [97]) (by rw [wonA_a]; omega) (by rw [wonA_a, hla]; omega) (by rw [hla]; omega)
          refine ⟨r, by rw [str_a]; exact h1, ?_⟩
          rw [h2, wonA_a, hla, show l.length + 1 - (wonA l + 1) = l.length - wonA l by omega]
        have ihB : l.length - wonA l < b → ∃ r, Ev (fun k => spec_tnOrders.f k (a : Int) (b : Int) (str l ++ (⟨#[98]⟩ : ByteArray))) r ∧ r.length = cnt a b d (wonA l) (l.length - wonA l + 1) := by
          intro hlt
          have hlb : (l ++ [(98 : UInt8)]).length = l.length + 1 := by simp
          obtain ⟨r, h1, h2⟩ := orders a b ha hb d (l ++ [98]) (by rw [wonA_b]; omega) (by rw [wonA_b, hlb]; omega) (by rw [hlb]; omega)
          refine ⟨r, by rw [str_b]; exact h1, ?_⟩
          rw [h2, wonA_b, hlb, show l.length + 1 - wonA l = l.length - wonA l + 1 from Nat.succ_sub hw]
        have hd14 : 2 ^ d ≤ 2 ^ 14 := Nat.pow_le_pow_right (by omega) (by omega)
        have h14 : (2 : Nat) ^ 14 = 16384 := by decide
        have hca := cnt_le a b d (wonA l + 1) (l.length - wonA l)
        have hcb := cnt_le a b d (wonA l) (l.length - wonA l + 1)
        rw [ec]
        by_cases hA : wonA l < a
        · obtain ⟨ra, ea, la⟩ := ihA hA
          rw [if_pos hA]
          by_cases hB : l.length - wonA l < b
          · obtain ⟨rb, eb, lb⟩ := ihB hB
            rw [if_pos hB]
            refine ⟨ra ++ rb, go _ ?_, by rw [List.length_append, la, lb]⟩
            refine Ev.congr (fun k => by rw [if_pos (show (wonA l : Int) < (a : Int) by omega), if_pos (show (str l).size + 1 ≤ 9223372036854775807 by rw [str_size]; omega)]) (Ev.bind ea ?_)
            refine Ev.congr (fun k => by rw [if_pos (show ((l.length - wonA l : Nat) : Int) < (b : Int) by omega)]) (Ev.bind eb ?_)
            exact Ev.congr (fun k => by rw [if_pos (show ra.length + rb.length < 8796093022208 by omega)]) (Ev.now _)
          · rw [if_neg hB]
            refine ⟨ra, go _ ?_, by rw [la]; omega⟩
            refine Ev.congr (fun k => by rw [if_pos (show (wonA l : Int) < (a : Int) by omega), if_pos (show (str l).size + 1 ≤ 9223372036854775807 by rw [str_size]; omega)]) (Ev.bind ea ?_)
            exact Ev.congr (fun k => by rw [if_neg (show ¬ ((l.length - wonA l : Nat) : Int) < (b : Int) by omega)]) (Ev.now _)
        · rw [if_neg hA]
          by_cases hB : l.length - wonA l < b
          · obtain ⟨rb, eb, lb⟩ := ihB hB
            rw [if_pos hB]
            refine ⟨rb, go _ ?_, by rw [lb]; omega⟩
            refine Ev.congr (fun k => by rw [if_neg (show ¬ (wonA l : Int) < (a : Int) by omega), if_pos (show ((l.length - wonA l : Nat) : Int) < (b : Int) by omega), if_pos (show (str l).size + 1 ≤ 9223372036854775807 by rw [str_size]; omega)]) (Ev.bind eb ?_)
            exact Ev.congr (fun k => by rw [if_pos (show ([] : List ByteArray).length + rb.length < 8796093022208 by rw [List.length_nil]; omega), List.nil_append]) (Ev.now _)
          · rw [if_neg hB]
            refine ⟨[], go _ ?_, rfl⟩
            exact Ev.congr (fun k => by rw [if_neg (show ¬ (wonA l : Int) < (a : Int) by omega), if_neg (show ¬ ((l.length - wonA l : Nat) : Int) < (b : Int) by omega)]) (Ev.now _)
      · refine ⟨[], orders_step a b l hlen _ ?_, ?_⟩
        · refine Ev.step (f := fun _ => some []) (fun k => ?_) (Ev.now _)
          simp only [spec_tnOrders.j0]
          rw [decide_eq_false hend, if_neg Bool.false_ne_true, tnOver _ _ (by omega) (by omega), Option.bind_some, hov, if_pos rfl]
        · conv => rhs; unfold cnt
          rw [if_neg hend, hov, if_pos rfl]; rfl
/-! ### The program's -/
theorem dash_l : (⟨#[45]⟩ : ByteArray).toList = [45] := ByteArray.toList_eq _
theorem aa_l : (⟨#[97]⟩ : ByteArray).toList = [97] := ByteArray.toList_eq _
theorem bb_l : (⟨#[98]⟩ : ByteArray).toList = [98] := ByteArray.toList_eq _
theorem setOver (i j : Nat) (hi : i ≤ 7) (hj : j ≤ 7) : ∃ s : ByteArray, Ev (fun k => impl_setOver.f k (i : Int) (j : Int)) s ∧ ((s.toList = [45]) ↔ over i j = false) := by
  have key : (List.range 8).all (fun i => (List.range 8).all (fun j => decide (impl_setOver.f 1 (i : Int) (j : Int) = some (⟨#[45]⟩ : ByteArray) ∧ over i j = false) || decide ((impl_setOver.f 1 (i : Int) (j : Int) = some (⟨#[97]⟩ : ByteArray) ∨ impl_setOver.f 1 (i : Int) (j : Int) = some (⟨#[98]⟩ : ByteArray)) ∧ over i j = true))) = true := by kernel_rfl
  have h := List.all_eq_true.1 (List.all_eq_true.1 key i (List.mem_range.2 (by omega))) j (List.mem_range.2 (by omega))
  rw [Bool.or_eq_true] at h
  rcases h with h | h
  · have := of_decide_eq_true h
    refine ⟨_, Ev.of (fun k => impl_setOver.mono _ _ k) this.1, ?_⟩
    rw [this.2]; exact ⟨fun _ => rfl, fun _ => dash_l⟩
  · have := of_decide_eq_true h
    rcases this.1 with h1 | h1
    · refine ⟨_, Ev.of (fun k => impl_setOver.mono _ _ k) h1, ?_⟩
      rw [this.2, aa_l]; exact ⟨fun x => absurd x (by decide), fun x => absurd x (by decide)⟩
    · refine ⟨_, Ev.of (fun k => impl_setOver.mono _ _ k) h1, ?_⟩
      rw [this.2, bb_l]; exact ⟨fun x => absurd x (by decide), fun x => absurd x (by decide)⟩
theorem go_j2 (a b x : Nat) (ha : a ≤ 7) (hb : b ≤ 7) (hx : x ≤ 16384) (d : Nat) (hd : d ≤ 14) (hrec : ∀ j, b = j + 1 → Ev (fun k => impl_gameOrders.f k (a : Int) (j : Int)) (back d a j : Int)) : Ev (fun k => impl_gameOrders.j2 k (a : Int) (b : Int) (x : Int)) ((x + prevB (back d) a b : Nat) : Int) := by
  cases b with
  | zero =>
    refine Ev.step (f := fun _ => some ((x + 0 : Nat) : Int)) (fun k => ?_) (Ev.now _)
    simp only [impl_gameOrders.j2]
    rw [if_neg (by omega)]; rfl
  | succ j =>
    obtain ⟨s, hs, hsl⟩ := setOver a j ha (by omega)
    have hbk := back_le d a j
    have h14 : 2 ^ d ≤ 2 ^ 14 := Nat.pow_le_pow_right (by omega) hd
    have h15 : (2 : Nat) ^ 14 = 16384 := by decide
    refine Ev.step (f := fun k => (impl_setOver.f k (a : Int) (j : Int)).bind fun t135 => (if t135.toList = ([45] : List UInt8) then ((impl_gameOrders.f k (a : Int) (j : Int)).bind fun t136 => (some (wrap64 ((x : Int) + t136)))) else (some (x : Int)))) (fun k => ?_) (Ev.bind hs ?_)
    · simp only [impl_gameOrders.j2]
      rw [if_pos (by omega), w64 (i := ((j + 1 : Nat) : Int) - 1) (by omega) (by omega), show ((j + 1 : Nat) : Int) - 1 = (j : Int) by omega]
    · cases ho : over a j
      · refine Ev.congr (fun k => by rw [if_pos (hsl.2 ho)]) (Ev.bind (hrec j rfl) ?_)
        refine Ev.congr (fun k => ?_) (Ev.now _)
        rw [w64 (by omega) (by omega)]
        show _ = some (((x + (if over a j = true then 0 else back d a j) : Nat)) : Int)
        rw [ho, if_neg Bool.false_ne_true]
        congr 1
      · refine Ev.congr (fun k => ?_) (Ev.now _)
        rw [if_neg (fun h => by rw [hsl.1 h] at ho; exact Bool.false_ne_true ho)]
        show _ = some (((x + (if over a j = true then 0 else back d a j) : Nat)) : Int)
        rw [ho, if_pos rfl]; rfl
theorem gameOrders : ∀ (d a b : Nat), a ≤ 7 → b ≤ 7 → a + b ≤ d → d ≤ 14 → Ev (fun k => impl_gameOrders.f k (a : Int) (b : Int)) (back d a b : Int)
  | 0, a, b, ha, hb, hd, _ => by
    have h0 : a = 0 ∧ b = 0 := by omega
    obtain ⟨rfl, rfl⟩ := h0
    refine Ev.step (f := fun k => impl_gameOrders.j0 k ((0 : Nat) : Int) ((0 : Nat) : Int) true) (fun k => by simp only [impl_gameOrders.f]; rw [if_pos (by rfl)]; rfl) (Ev.step (f := fun _ => some 1) (fun k => by simp only [impl_gameOrders.j0]; rw [if_pos trivial]) (Ev.now _))
  | d + 1, a, b, ha, hb, hd, hd14 => by
    by_cases h0 : a = 0 ∧ b = 0
    · obtain ⟨rfl, rfl⟩ := h0
      refine Ev.step (f := fun k => impl_gameOrders.j0 k ((0 : Nat) : Int) ((0 : Nat) : Int) true) (fun k => by simp only [impl_gameOrders.f]; rw [if_pos (by rfl)]; rfl) (Ev.step (f := fun _ => some 1) (fun k => by simp only [impl_gameOrders.j0]; rw [if_pos trivial]) (Ev.now _))
    · have hj0 : ∀ k, impl_gameOrders.f (k + 1) (a : Int) (b : Int) = impl_gameOrders.j0 k (a : Int) (b : Int) false := by
        intro k
        simp only [impl_gameOrders.f]
        by_cases h1 : a = 0
        · rw [if_pos (by omega), beq_eq_false_iff_ne.2 (by omega)]
        · rw [if_neg (by omega)]
      refine Ev.step hj0 ?_
      have eb : back (d + 1) a b = prevA (back d) a b + prevB (back d) a b := by
        conv => lhs; unfold back
        rw [if_neg h0]
      rw [eb]
      have h14 : 2 ^ d ≤ 2 ^ 14 := Nat.pow_le_pow_right (by omega) (by omega)
      have h15 : (2 : Nat) ^ 14 = 16384 := by decide
      have hrecB : ∀ j, b = j + 1 → Ev (fun k => impl_gameOrders.f k (a : Int) (j : Int)) (back d a j : Int) := fun j hj => gameOrders d a j ha (by omega) (by omega) (by omega)
      cases a with
      | zero =>
        have h2 := go_j2 0 b 0 (by omega) hb (by omega) d (by omega) hrecB
        have ez : prevA (back d) 0 b = 0 := rfl
        rw [ez]
        refine Ev.step (f := fun k => impl_gameOrders.j1 k ((0 : Nat) : Int) (b : Int) 0 false) (fun k => by simp only [impl_gameOrders.j0]; rw [if_neg Bool.false_ne_true, if_neg (by omega)]) (Ev.step (fun k => by simp only [impl_gameOrders.j1]; rw [if_neg Bool.false_ne_true]; rfl) h2)
      | succ i =>
        have ea : prevA (back d) (i + 1) b = if over i b = true then 0 else back d i b := rfl
        rw [ea]
        obtain ⟨s, hs, hsl⟩ := setOver i b (by omega) hb
        have hbk := back_le d i b
        refine Ev.step (f := fun k => (impl_setOver.f k (i : Int) (b : Int)).bind fun t133 => impl_gameOrders.j1 k ((i + 1 : Nat) : Int) (b : Int) 0 (t133.toList == ([45] : List UInt8))) (fun k => ?_) (Ev.bind hs ?_)
        · simp only [impl_gameOrders.j0]
          rw [if_neg Bool.false_ne_true, if_pos (by omega), w64 (i := ((i + 1 : Nat) : Int) - 1) (by omega) (by omega), show ((i + 1 : Nat) : Int) - 1 = (i : Int) by omega]
        · cases ho : over i b
          · have h2 := go_j2 (i + 1) b (back d i b) ha hb (by omega) d (by omega) hrecB
            have h3 := gameOrders d i b (by omega) hb (by omega) (by omega)
            refine Ev.step (f := fun k => (impl_gameOrders.f k (i : Int) (b : Int)).bind fun t134 => impl_gameOrders.j2 k ((i + 1 : Nat) : Int) (b : Int) (wrap64 (0 + t134))) (fun k => ?_) (Ev.bind h3 ?_)
            · rw [hsl.2 ho]
              simp only [impl_gameOrders.j1]
              rw [if_pos (by rfl), w64 (i := ((i + 1 : Nat) : Int) - 1) (by omega) (by omega), show ((i + 1 : Nat) : Int) - 1 = (i : Int) by omega]
            · rw [if_neg Bool.false_ne_true]
              exact Ev.congr (fun k => by rw [Int.zero_add, w64 (by omega) (by omega)]) h2
          · have h2 := go_j2 (i + 1) b 0 ha hb (by omega) d (by omega) hrecB
            rw [if_pos rfl]
            refine Ev.step (fun k => ?_) h2
            rw [show (s.toList == ([45] : List UInt8)) = false from beq_eq_false_iff_ne.2 (fun h => by rw [hsl.1 h] at ho; exact Bool.false_ne_true ho)]
            simp only [impl_gameOrders.j1]
            rw [if_neg Bool.false_ne_true]; rfl
theorem in_eq (a b c : Int) : spec_l1In.f a b c = some (decide (b ≤ a ∧ a ≤ c)) := by
  unfold spec_l1In.f; by_cases h : b ≤ a <;> simp [h]
theorem within_eq (a b c : Int) : impl_within.f a b c = some (decide (b ≤ a ∧ a ≤ c)) := by
  unfold impl_within.f; by_cases h : b ≤ a <;> simp [h]
theorem back_more (a b : Nat) (ha : a ≤ 7) (hb : b ≤ 7) : back 14 a b = cnt a b 14 0 0 := (same_of a b ha hb).symm
def val (a b : Int) : Int × Bool := if (0 ≤ a ∧ a ≤ 7) ∧ (0 ≤ b ∧ b ≤ 7) then ((cnt a.toNat b.toNat 14 0 0 : Int), true) else (0, false)
theorem spec_v (a b : Int) : Ev (fun k => spec_CountGameOrders.f k a b) (val a b) := by
  by_cases ha : 0 ≤ a ∧ a ≤ 7
  · by_cases hb : 0 ≤ b ∧ b ≤ 7
    · have hg : spec_tnGames.f a b = some true := by unfold spec_tnGames.f; rw [in_eq, decide_eq_true ha, Option.bind_some, if_pos rfl, in_eq, decide_eq_true hb]; rfl
      obtain ⟨r, h1, h2⟩ := orders a.toNat b.toNat (by omega) (by omega) 14 [] (by show 0 ≤ a.toNat; omega) (by show 0 ≤ b.toNat; omega) rfl
      rw [show ((a.toNat : Nat) : Int) = a by omega, show ((b.toNat : Nat) : Int) = b by omega] at h1
      have h3 : r.length = cnt a.toNat b.toNat 14 0 0 := h2
      unfold val
      rw [if_pos ⟨ha, hb⟩, ← h3]
      refine Ev.congr (f := fun k => (spec_tnOrders.f k a b (str [])).bind fun t => some ((t.length : Int), true)) (fun k => ?_) (Ev.bind h1 (Ev.now _))
      unfold spec_CountGameOrders.f
      rw [hg, Option.bind_some, if_pos rfl]; rfl
    · have hg : spec_tnGames.f a b = some false := by unfold spec_tnGames.f; rw [in_eq, decide_eq_true ha, Option.bind_some, if_pos rfl, in_eq, decide_eq_false hb]; rfl
      unfold val
      rw [if_neg (fun h => hb h.2)]
      exact Ev.congr (fun k => by unfold spec_CountGameOrders.f; rw [hg, Option.bind_some, if_neg Bool.false_ne_true]) (Ev.now _)
  · have hg : spec_tnGames.f a b = some false := by unfold spec_tnGames.f; rw [in_eq, decide_eq_false ha, Option.bind_some, if_neg Bool.false_ne_true]
    unfold val
    rw [if_neg (fun h => ha h.1)]
    exact Ev.congr (fun k => by unfold spec_CountGameOrders.f; rw [hg, Option.bind_some, if_neg Bool.false_ne_true]) (Ev.now _)
theorem impl_v (a b : Int) : Ev (fun k => impl_CountGameOrders.f k a b) (val a b) := by
  by_cases ha : 0 ≤ a ∧ a ≤ 7
  · by_cases hb : 0 ≤ b ∧ b ≤ 7
    · have h1 := gameOrders 14 a.toNat b.toNat (by omega) (by omega) (by omega) (by omega)
      rw [show ((a.toNat : Nat) : Int) = a by omega, show ((b.toNat : Nat) : Int) = b by omega, back_more _ _ (by omega) (by omega)] at h1
      unfold val
      rw [if_pos ⟨ha, hb⟩]
      refine Ev.congr (f := fun k => (impl_gameOrders.f k a b).bind fun t => some (t, true)) (fun k => ?_) (Ev.bind h1 (Ev.now _))
      unfold impl_CountGameOrders.f
      rw [within_eq, decide_eq_true ha, Option.bind_some, if_pos rfl, within_eq, decide_eq_true hb, Option.bind_some, if_pos rfl]
    · unfold val
      rw [if_neg (fun h => hb h.2)]
      exact Ev.congr (fun k => by unfold impl_CountGameOrders.f; rw [within_eq, decide_eq_true ha, Option.bind_some, if_pos rfl, within_eq, decide_eq_false hb, Option.bind_some, if_neg Bool.false_ne_true]) (Ev.now _)
  · unfold val
    rw [if_neg (fun h => ha h.1)]
    exact Ev.congr (fun k => by unfold impl_CountGameOrders.f; rw [within_eq, decide_eq_false ha, Option.bind_some, if_neg Bool.false_ne_true]) (Ev.now _)
theorem FnExactCountGameOrders : ∀ (a0 : Int) (a1 : Int), ((Lit.int .i64 a0).wf = true) → ((Lit.int .i64 a1).wf = true) → ∃ k, laws_FnExactCountGameOrders.f k a0 a1 = some true := by
  intro a b _ _
  refine Ev.rounds (Ev.bind (spec_v a b) (Ev.bind (impl_v a b) ?_))
  exact Ev.congr (fun k => by rw [if_pos rfl, bne_self_eq_false, if_neg Bool.false_ne_true]) (Ev.now _)
end Go.Proofs.Ytdpfgdachdkkbaa.Pure
