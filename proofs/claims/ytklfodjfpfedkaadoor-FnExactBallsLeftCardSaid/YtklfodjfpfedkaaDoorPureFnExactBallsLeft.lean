/- For every frame, of whatever numbers, the program's BallsLeft answers what the reference's answers. (The pure statement behind the row: over numbers and lists alone.) -/
import Derived.Test.YtklfodjfpfedkaaDoorPAx25
import Derived.KernelRfl
import Derived.Laws.Strings
set_option linter.unusedSimpArgs false
set_option linter.unusedVariables false
namespace Go.Proofs.YtklfodjfpfedkaaDoor.Pure
open Go.RowKit Go.Proofs.YtklfodjfpfedkaaDoor.PA Go.Proofs.YtklfodjfpfedkaaDoorW.PrintWords Go.Proofs.YtklfodjfpfedkaaDoorW.PrintLast Go.Proofs.YtklfodjfpfedkaaDoorW.PrintMore

theorem in_eq (a b c : Int) : spec_l1In.f a b c = some (decide (b ≤ a ∧ a ≤ c)) := by
  unfold spec_l1In.f; by_cases h : b ≤ a <;> simp [h]
theorem within_eq (a b c : Int) : impl_within.f a b c = some (decide (b ≤ a ∧ a ≤ c)) := by
  unfold impl_within.f; by_cases h : b ≤ a <;> simp [h]
def inR (a b : Int) : Prop := (0 ≤ a ∧ a ≤ 15) ∧ 2 ≤ b ∧ b ≤ 8
instance (a b : Int) : Decidable (inR a b) := by unfold inR; infer_instance
theorem spec_out {a b : Int} (h : ¬ inR a b) (c : Bool) : spec_frGood.f a c b = some false := by
  unfold spec_frGood.f
  rw [in_eq, Option.bind_some]
  by_cases ha : 0 ≤ a ∧ a ≤ 15
  · rw [decide_eq_true ha, if_pos rfl, in_eq, Option.bind_some, decide_eq_false (fun hb => h ⟨ha, hb⟩), if_neg Bool.false_ne_true]
  · rw [decide_eq_false ha, if_neg Bool.false_ne_true]
theorem j0_out {b : Int} (hb : ¬ (2 ≤ b ∧ b ≤ 8)) (k : Nat) (x : Bool) (a : Int) (c : Bool) : impl_IsFrame.j0 (k + 1) x a c b = some false := by
  have h2 : (b == 2) = false := beq_eq_false_iff_ne.2 (by omega)
  simp only [impl_IsFrame.j0, within_eq, Option.bind_some, h2, decide_eq_false hb, ite_self]
theorem j0_true (k : Nat) (a b : Int) (c : Bool) : impl_IsFrame.j0 (k + 1) true a c b = some false := by
  simp only [impl_IsFrame.j0, if_true]
theorem impl_out {a b : Int} (h : ¬ inR a b) (k : Nat) (c : Bool) : impl_IsFrame.f (k + 1) a c b = some false := by
  unfold impl_IsFrame.f
  rw [within_eq, Option.bind_some]
  by_cases ha : 0 ≤ a ∧ a ≤ 15
  · have hb : ¬ (2 ≤ b ∧ b ≤ 8) := fun hb => h ⟨ha, hb⟩
    rw [j0_out hb, j0_out hb, j0_out hb, ite_self, ite_self]
  · rw [decide_eq_false ha, if_neg Bool.false_ne_true, j0_true]
theorem inR_nat {a b : Int} (h : inR a b) : ∃ i j : Nat, i < 16 ∧ j < 9 ∧ a = (i : Int) ∧ b = (j : Int) := by
  unfold inR at h
  exact ⟨a.toNat, b.toNat, by omega, by omega, by omega, by omega⟩
def whole2 : Nat → Bool → ByteArray → Int → Int → Bool → Int → Option (ByteArray × Int)
  | 0, _, _, _, _, _, _ => none
  | k + 1, x1, x6, x7, x215000, x215001, x215002 => (impl_Frame_next.f x215000 x215001 x215002).bind fun t215 => (if t215.data.toList = ([] : List UInt8) then (some (x6, x7)) else ((impl_Frame_next.f x215000 x215001 x215002).bind fun t216 => (if 0 ≤ 1 then (if 1 ≤ (t216.size : Int) then (if x1 = true then (if 0 ≤ (wrap64 ((t216.size : Int) - 1)) then (if (wrap64 ((t216.size : Int) - 1)) ≤ (t216.size : Int) then (if x6.size + (t216.extract ((wrap64 ((t216.size : Int) - 1)) : Int).toNat t216.size).size ≤ 9223372036854775807 then (if 0 < ((t216.extract ((wrap64 ((t216.size : Int) - 1)) : Int).toNat t216.size).size : Int) then ((impl_Frame_pot.f x215000 x215001 x215002).bind fun bt217 => (whole2 k x1 (x6 ++ (t216.extract ((wrap64 ((t216.size : Int) - 1)) : Int).toNat t216.size)) (wrap64 (x7 + (((bt (t216.extract ((wrap64 ((t216.size : Int) - 1)) : Int).toNat t216.size) 0) - 48) % 256))) bt217.1 bt217.2.1 bt217.2.2)) else (none)) else (none)) else (none)) else (none)) else (if x6.size + (t216.extract 0 1).size ≤ 9223372036854775807 then (if 0 < ((t216.extract 0 1).size : Int) then ((impl_Frame_pot.f x215000 x215001 x215002).bind fun bt220 => (whole2 k x1 (x6 ++ (t216.extract 0 1)) (wrap64 (x7 + (((bt (t216.extract 0 1) 0) - 48) % 256))) bt220.1 bt220.2.1 bt220.2.2)) else (none)) else (none))) else (none)) else (none))))
theorem whole_eq (k : Nat) : ∀ (x1 : Bool) (x6 : ByteArray) (x7 a : Int) (c : Bool) (b : Int), impl_Frame_whole.l0 k x1 x6 x7 a c b = whole2 k x1 x6 x7 a c b := by
  induction k with
  | zero => intros; rfl
  | succ k ih => intros; simp only [impl_Frame_whole.l0, whole2, ByteArray.toList_eq, ih]
def frAll2 : Nat → Int → ByteArray → ByteArray → Int → Bool → Int → Option (ByteArray)
  | 0, _, _, _, _, _, _ => none
  | k + 1, x1, x5, x6, x193000, x193001, x193002 => if x6.data.toList = ([] : List UInt8) then (some x5) else (if 0 < (x6.size : Int) then (if x193001 = true then (if x5.size + (Utf8.encode (wrap32 (x1))).size ≤ 9223372036854775807 then ((spec_frPot.f k x193000 x193001 x193002 x1).bind fun bt194 => ((spec_frNext.f k bt194.1 bt194.2.1 bt194.2.2.1).bind fun t198 => (frAll2 k x1 (x5 ++ (Utf8.encode (wrap32 (x1)))) t198 bt194.1 bt194.2.1 bt194.2.2.1))) else (none)) else (if x5.size + (Utf8.encode (wrap32 (bt x6 0))).size ≤ 9223372036854775807 then ((spec_frPot.f k x193000 x193001 x193002 (bt x6 0)).bind fun bt199 => ((spec_frNext.f k bt199.1 bt199.2.1 bt199.2.2.1).bind fun t203 => (frAll2 k x1 (x5 ++ (Utf8.encode (wrap32 (bt x6 0)))) t203 bt199.1 bt199.2.1 bt199.2.2.1))) else (none))) else (none))
theorem frAll_eq (k : Nat) : ∀ (x1 : Int) (x5 x6 : ByteArray) (a : Int) (c : Bool) (b : Int), spec_frAll.l0 k x1 x5 x6 a c b = frAll2 k x1 x5 x6 a c b := by
  induction k with
  | zero => intros; rfl
  | succ k ih => intros; simp only [spec_frAll.l0, frAll2, ByteArray.toList_eq, ih]
def spec2 (k : Nat) (a : Int) (c : Bool) (b : Int) : Option (Int × Bool) := (spec_frGood.f a c b).bind fun t205 => (if t205 = true then (((spec_frNext.f k a c b).bind fun t193 => frAll2 k 55 (⟨#[]⟩ : ByteArray) t193 a c b).bind fun t206 => (some ((t206.size : Int), true))) else (some (0, false)))
def impl2 (k : Nat) (a : Int) (c : Bool) (b : Int) : Option (Int × Bool) := ((impl_IsFrame.f k a c b).bind fun t224 => (if t224 = true then ((whole2 k true (⟨#[]⟩ : ByteArray) 0 a c b).bind fun bt225 => (some (bt225.1, bt225.2, true))) else (some ((⟨#[]⟩ : ByteArray), 0, false)))).bind fun bt228 => (some ((bt228.1.size : Int), bt228.2.2))
theorem spec_eq (k : Nat) (a : Int) (c : Bool) (b : Int) : spec_BallsLeft.f k a c b = spec2 k a c b := by
  simp only [spec_BallsLeft.f, spec2, spec_frAll.f, frAll_eq]
theorem impl_eq (k : Nat) (a : Int) (c : Bool) (b : Int) : impl_BallsLeft.f k a c b = impl2 k a c b := by
  simp only [impl_BallsLeft.f, impl_HighestBreak.f, impl2, impl_Frame_whole.f, whole_eq]
def same (i j : Nat) (c : Bool) : Bool := match spec2 60 (i : Int) c (j : Int), impl2 60 (i : Int) c (j : Int) with
  | some (x, p), some (y, q) => decide (x = y) && decide (p = q)
  | _, _ => false
theorem same_all : (List.range 16).all (fun i => (List.range 9).all (fun j => [false, true].all (fun c => same i j c))) = true := by kernel_rfl
theorem FnExactBallsLeft : ∀ (a0_0 : Int) (a0_1 : Bool) (a0_2 : Int), ((Lit.int .i64 a0_0).wf = true ∧ True ∧ (Lit.int .i64 a0_2).wf = true) → ∃ k, laws_FnExactBallsLeft.f k a0_0 a0_1 a0_2 = some true := by
  intro a c b _
  refine ⟨60, ?_⟩
  by_cases h : inR a b
  · obtain ⟨i, j, hi, hj, rfl, rfl⟩ := inR_nat h
    have h := List.all_eq_true.1 (List.all_eq_true.1 (List.all_eq_true.1 same_all i (List.mem_range.2 hi)) j (List.mem_range.2 hj)) c (by cases c <;> simp)
    unfold same at h
    revert h
    cases hs : spec2 60 (i : Int) c (j : Int) with
    | none => intro h; cases h
    | some x =>
      cases hm : impl2 60 (i : Int) c (j : Int) with
      | none => intro h; cases h
      | some y =>
        intro h
        have h2 : (decide (x.1 = y.1) && decide (x.2 = y.2)) = true := h
        rw [Bool.and_eq_true] at h2
        have e1 := of_decide_eq_true h2.1
        have e2 := of_decide_eq_true h2.2
        unfold laws_FnExactBallsLeft.f
        simp only [laws_toFrame.f, Option.bind_some]
        rw [spec_eq, impl_eq, hs, hm]
        simp only [Option.bind_some]
        rw [e1, e2, if_pos rfl, bne_self_eq_false, if_neg Bool.false_ne_true]
  · simp only [laws_FnExactBallsLeft.f, laws_toFrame.f, spec_BallsLeft.f, impl_BallsLeft.f, impl_HighestBreak.f, spec_out h, impl_out h, Option.bind_some, Bool.false_eq_true, if_false]
    rfl

end Go.Proofs.YtklfodjfpfedkaaDoor.Pure
