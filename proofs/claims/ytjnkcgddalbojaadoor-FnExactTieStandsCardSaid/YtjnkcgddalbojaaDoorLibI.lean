/- Texts of numbers and of tie-breaks; following any text. (Plain Lean: no program's memory in sight.) -/
import Derived.Test.YtjnkcgddalbojaaDoorPAx6
import Derived.Test.YtjnkcgddalbojaaDoorPAx27
import Derived.Test.YtjnkcgddalbojaaDoorLibF
import Derived.Laws.RangeAny
import Derived.KernelRfl
import Derived.Laws.Strings
set_option linter.unusedSimpArgs false
set_option linter.unusedVariables false
namespace Go.Proofs.YtjnkcgddalbojaaDoor.Pure
open Go.RowKit Go.Proofs.YtjnkcgddalbojaaDoor.PA Go.Proofs.YtjnkcgddalbojaaDoorW.PrintWords Go.Proofs.YtjnkcgddalbojaaDoorW.PrintLast Go.Proofs.YtjnkcgddalbojaaDoorW.PrintMore

/-- The decimal digits of a number, as a text. -/
def dd (a : Nat) : ByteArray := ⟨(Lib.decDigits a).toArray⟩
theorem digit_all : (List.range 10).all (fun a => decide (strOfNums [(wrap64 (48 + (a : Int))) % 256] = (⟨#[UInt8.ofNat (48 + a)]⟩ : ByteArray))) = true := by kernel_rfl
theorem digit (a : Nat) (h : a < 10) : strOfNums [(wrap64 (48 + (a : Int))) % 256] = (⟨#[UInt8.ofNat (48 + a)]⟩ : ByteArray) :=
  of_decide_eq_true (List.all_eq_true.1 digit_all a (List.mem_range.2 h))
theorem dd_one (a : Nat) (h : a < 10) : dd a = ⟨#[UInt8.ofNat (48 + a)]⟩ := by unfold dd; rw [Lib.decDigits_one h]
theorem dd_step (a : Nat) (h : ¬ a < 10) : dd a = dd (a / 10) ++ ⟨#[UInt8.ofNat (48 + a % 10)]⟩ := by
  unfold dd
  rw [Lib.decDigits, dif_neg h]
  apply ByteArray.ext
  rw [ByteArray.data_append]
  simp
theorem num_itoa (n : Nat) : ∀ a : Nat, a ≤ n → a ≤ 1000 → Ev (fun k => spec_l1Num.f k (a : Int)) (dd a) ∧ (dd a).size ≤ a + 1 := by
  induction n with
  | zero =>
    intro a h _
    obtain rfl : a = 0 := by omega
    rw [dd_one 0 (by omega), ← digit 0 (by omega)]
    exact ⟨Ev.step (f := fun _ => some (strOfNums [(wrap64 (48 + ((0 : Nat) : Int))) % 256])) (fun k => by simp only [spec_l1Num.f]; rw [if_pos (by omega)]) (Ev.now _), by show 1 ≤ _; omega⟩
  | succ n ih =>
    intro a h h1000
    by_cases h10 : a < 10
    · rw [dd_one a h10, ← digit a h10]
      exact ⟨Ev.step (f := fun _ => some (strOfNums [(wrap64 (48 + (a : Int))) % 256])) (fun k => by simp only [spec_l1Num.f]; rw [if_pos (by omega)]) (Ev.now _), by show 1 ≤ _; omega⟩
    · obtain ⟨ht, hz⟩ := ih (a / 10) (by omega) (by omega)
      have e : wrap64 (Int.tdiv (a : Int) 10) = ((a / 10 : Nat) : Int) := by
        rw [Int.tdiv_eq_ediv_of_nonneg (by omega), w64 (by omega) (by omega)]; omega
      have e2 : Int.tmod (a : Int) 10 = ((a % 10 : Nat) : Int) := by
        rw [Int.tmod_eq_emod_of_nonneg (by omega)]; omega
      have e3 := digit (a % 10) (Nat.mod_lt _ (by omega))
      have hz1 : (⟨#[UInt8.ofNat (48 + a % 10)]⟩ : ByteArray).size = 1 := rfl
      rw [dd_step a h10]
      refine ⟨Ev.step (f := fun k => (spec_l1Num.f k ((a / 10 : Nat) : Int)).bind fun t122 => if t122.size + 1 ≤ 9223372036854775807 then some (t122 ++ (⟨#[UInt8.ofNat (48 + a % 10)]⟩ : ByteArray)) else none) (fun k => ?_) (Ev.bind ht (Ev.congr (fun k => by rw [if_pos (by omega)]) (Ev.now _))), by rw [ByteArray.size_append, hz1]; omega⟩
      simp only [spec_l1Num.f]
      rw [if_neg (by omega), e, e2]
      simp only [Option.bind_some]
      rw [e3]
      rfl
theorem itoa_dd (a : Nat) (h : a ≤ 1000) : strconv_Itoa_75.f (a : Int) = some (dd a) := by
  unfold strconv_Itoa_75.f
  rw [if_pos (by omega)]
  unfold Lib.itoa dd
  rw [if_neg (by omega), Int.toNat_natCast]
/-- How a tie-break stands, as a text. -/
def tt (a b : Nat) (x : Bool) : ByteArray := if x = true then ((dd a ++ ⟨#[58]⟩) ++ dd b) ++ ⟨#[33]⟩ else (dd a ++ ⟨#[58]⟩) ++ dd b
theorem dd_size (a : Nat) (h : a ≤ 1000) : (dd a).size ≤ 1001 := by have := (num_itoa a a (Nat.le_refl _) h).2; omega
theorem tie_spec (a b : Nat) (x : Bool) (ha : a ≤ 1000) (hb : b ≤ 1000) : Ev (fun k => spec_tnTieStands.f k (a : Int) (b : Int) x) (tt a b x) := by
  have hz := dd_size a ha
  have hy := dd_size b hb
  refine Ev.bind (num_itoa a a (Nat.le_refl _) ha).1 (Ev.congr (f := fun k => (spec_l1Num.f k (b : Int)).bind fun t127 => if (dd a ++ (⟨#[58]⟩ : ByteArray)).size + t127.size ≤ 9223372036854775807 then (if x = true then (if ((dd a ++ (⟨#[58]⟩ : ByteArray)) ++ t127).size + 1 ≤ 9223372036854775807 then (some (((dd a ++ (⟨#[58]⟩ : ByteArray)) ++ t127) ++ (⟨#[33]⟩ : ByteArray))) else (none)) else (some ((dd a ++ (⟨#[58]⟩ : ByteArray)) ++ t127))) else none) (fun k => by rw [if_pos (by omega)]) (Ev.bind (num_itoa b b (Nat.le_refl _) hb).1 (Ev.congr (fun k => ?_) (Ev.now _))))
  have h1 : (⟨#[58]⟩ : ByteArray).size = 1 := rfl
  rw [if_pos (by rw [ByteArray.size_append, h1]; omega)]
  unfold tt
  cases x
  · rw [if_neg Bool.false_ne_true, if_neg Bool.false_ne_true]
  · rw [if_pos rfl, if_pos rfl, if_pos (by rw [ByteArray.size_append, ByteArray.size_append, h1]; omega)]
theorem tie_impl (a b : Nat) (w : Option Bool) (p : Bool) (ha : a ≤ 1000) (hb : b ≤ 1000) (k : Nat) : impl_TieStands.j0 (k + 1) false (a : Int) (b : Int) (wtxt w) p = some (tt a b w.isSome, true) := by
  have hz := dd_size a ha
  have hy := dd_size b hb
  have h1 : (⟨#[58]⟩ : ByteArray).size = 1 := rfl
  simp only [impl_TieStands.j0]
  rw [if_neg Bool.false_ne_true, itoa_dd a ha, itoa_dd b hb]
  simp only [Option.bind_some]
  rw [if_pos (by omega), if_pos (by rw [ByteArray.size_append, h1]; omega)]
  unfold tt
  cases w with
  | none => rw [if_pos (show (wtxt none).toList = [45] from toList_mk [45])]; rfl
  | some c =>
    have hne : ¬ (wtxt (some c)).toList = ([45] : List UInt8) := by
      cases c
      · rw [show (wtxt (some false)).toList = [98] from toList_mk [98]]; decide
      · rw [show (wtxt (some true)).toList = [97] from toList_mk [97]]; decide
    rw [if_neg hne, if_pos (by rw [ByteArray.size_append, ByteArray.size_append, h1]; omega)]
    rfl
theorem width_pos (s : ByteArray) (pos : Nat) (h : pos < s.size) : 1 ≤ (Utf8.decode s pos).2 := by
  by_cases ha : (s[pos]'h).toNat < 128
  · rw [decode_ascii s pos h ha]
    exact Nat.le_refl _
  · exact (decode_high s pos h (by omega)).2
/-- Following any text ends. -/
theorem won_some (rt ld a b : Int) : ∃ t, impl_Race_hasWon.f rt ld a b = some t := by
  unfold impl_Race_hasWon.f
  split <;> exact ⟨_, rfl⟩
theorem follow_ends (s : ByteArray) (rt ld : Int) (k : Nat) : ∀ (pos : Nat) (a b : Int) (w : Option Bool) (p : Bool), s.size - pos < k → ∃ r, impl_follow.l0 k rt ld s pos a b w p = some r := by
  induction k with
  | zero => intro pos a b w p h; omega
  | succ k ih =>
    intro pos a b w p h
    simp only [impl_follow.l0]
    by_cases hp : pos < s.size
    · have hw := width_pos s pos hp
      rw [if_pos hp]
      have key : ∀ a b : Int, ∃ r, impl_follow.next (impl_follow.l0 k rt ld s (pos + (Utf8.decode s pos).2)) rt ld a b w p = some r := by
        intro a b
        have ih' := fun a b w p => ih (pos + (Utf8.decode s pos).2) a b w p (by omega)
        cases w with
        | some x => simp only [impl_follow.next]; exact ih' _ _ _ _
        | none =>
          cases p with
          | false => simp only [impl_follow.next]; exact ih' _ _ _ _
          | true =>
            obtain ⟨t, ht⟩ := won_some rt ld a b
            obtain ⟨u, hu⟩ := won_some rt ld b a
            simp only [impl_follow.next]
            rw [ht, hu]
            simp only [Option.bind_some]
            split
            · exact ih' _ _ _ _
            · split <;> exact ih' _ _ _ _
      split
      · exact key _ _
      · exact key _ _
    · rw [if_neg hp]; exact ⟨_, rfl⟩
theorem follow_some (s : ByteArray) (rt ld : Int) : ∃ r, impl_follow.f rt ld s = some r := by
  obtain ⟨r, h⟩ := follow_ends s rt ld (s.size + 1) 0 0 0 none true (by omega)
  exact ⟨_, by unfold impl_follow.f impl_follow.g; rw [h]; rfl⟩
end Go.Proofs.YtjnkcgddalbojaaDoor.Pure
