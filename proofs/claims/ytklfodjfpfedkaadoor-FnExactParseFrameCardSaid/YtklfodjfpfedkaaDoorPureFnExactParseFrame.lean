/- For every text, the program's ParseFrame answers what the reference's answers. (The pure statement behind the row: over numbers and lists alone.) -/
import Derived.Test.YtklfodjfpfedkaaDoorPAx19
import Derived.KernelRfl
import Derived.Laws.Strings
set_option linter.unusedSimpArgs false
set_option linter.unusedVariables false
namespace Go.Proofs.YtklfodjfpfedkaaDoor.Pure
open Go.RowKit Go.Proofs.YtklfodjfpfedkaaDoor.PA Go.Proofs.YtklfodjfpfedkaaDoorW.PrintWords Go.Proofs.YtklfodjfpfedkaaDoorW.PrintLast Go.Proofs.YtklfodjfpfedkaaDoorW.PrintMore

theorem w64 {i : Int} (h0 : -9223372036854775808 ≤ i) (h : i ≤ 9223372036854775807) : wrap64 i = i := by unfold wrap64; omega
theorem in_eq (a b c : Int) : spec_l1In.f a b c = some (decide (b ≤ a ∧ a ≤ c)) := by
  unfold spec_l1In.f; by_cases h : b ≤ a <;> simp [h]
theorem within_eq (a b c : Int) : impl_within.f a b c = some (decide (b ≤ a ∧ a ≤ c)) := by
  unfold impl_within.f; by_cases h : b ≤ a <;> simp [h]
def inR (a b : Int) : Prop := (0 ≤ a ∧ a ≤ 15) ∧ 2 ≤ b ∧ b ≤ 8
instance (a b : Int) : Decidable (inR a b) := by unfold inR; infer_instance
theorem spec_out {a b : Int} (h : ¬ inR a b) (c : Bool) : spec_frGood.f a c b = some false := by
  unfold spec_frGood.f
  rw [in_eq, Option.bind_some]
  by_cases ha : 0 ≤ a ∧ a ≤ 15
  · rw [decide_eq_true ha, if_pos rfl, in_eq, Option.bind_some, decide_eq_false (fun hb => h ⟨ha, hb⟩), if_neg Bool.false_ne_true]
  · rw [decide_eq_false ha, if_neg Bool.false_ne_true]
theorem j0_out {b : Int} (hb : ¬ (2 ≤ b ∧ b ≤ 8)) (k : Nat) (x : Bool) (a : Int) (c : Bool) : impl_IsFrame.j0 (k + 1) x a c b = some false := by
  have h2 : (b == 2) = false := beq_eq_false_iff_ne.2 (by omega)
  simp only [impl_IsFrame.j0, within_eq, Option.bind_some, h2, decide_eq_false hb, ite_self]
theorem j0_true (k : Nat) (a b : Int) (c : Bool) : impl_IsFrame.j0 (k + 1) true a c b = some false := by
  simp only [impl_IsFrame.j0, if_true]
theorem impl_out {a b : Int} (h : ¬ inR a b) (k : Nat) (c : Bool) : impl_IsFrame.f (k + 1) a c b = some false := by
  unfold impl_IsFrame.f
  rw [within_eq, Option.bind_some]
  by_cases ha : 0 ≤ a ∧ a ≤ 15
  · have hb : ¬ (2 ≤ b ∧ b ≤ 8) := fun hb => h ⟨ha, hb⟩
    rw [j0_out hb, j0_out hb, j0_out hb, ite_self, ite_self]
  · rw [decide_eq_false ha, if_neg Bool.false_ne_true, j0_true]
theorem inR_nat {a b : Int} (h : inR a b) : ∃ i j : Nat, i < 16 ∧ j < 9 ∧ a = (i : Int) ∧ b = (j : Int) := by
  unfold inR at h
  exact ⟨a.toNat, b.toNat, by omega, by omega, by omega, by omega⟩
theorem list_inj {x y : ByteArray} : (x.toList = y.toList) ↔ x = y := by
  rw [ByteArray.toList_eq, ByteArray.toList_eq]
  constructor
  · intro h; cases x; cases y; simp only at h; congr 1; exact Array.toList_inj.1 h
  · intro h; rw [h]
theorem list_beq (x y : ByteArray) : (x.toList == y.toList) = decide (x = y) := by
  by_cases h : x = y
  · rw [decide_eq_true h, h]; exact beq_self_eq_true _
  · rw [decide_eq_false h]; exact beq_eq_false_iff_ne.2 (fun e => h (list_inj.1 e))
/-! ### Reading ends -/
theorem read_l0 (s : ByteArray) (hs : s.size ≤ 6) (d : Nat) : ∀ (i : Nat) (x : Int), i + d = s.size → ∃ r, Ev (fun k => spec_l1Read.l0 k s x (i : Int)) r := by
  induction d with
  | zero =>
    intro i x hi
    refine ⟨x, Ev.step (f := fun _ => some x) (fun k => ?_) (Ev.now _)⟩
    simp only [spec_l1Read.l0]
    rw [if_neg (by omega)]
  | succ d ih =>
    intro i x hi
    by_cases h1 : bt s (i : Int) < 48
    · refine ⟨-1, Ev.step (f := fun _ => some (-1)) (fun k => ?_) (Ev.now _)⟩
      simp only [spec_l1Read.l0]
      rw [if_pos (by omega), if_pos (by omega), if_pos h1]
    · by_cases h2 : bt s (i : Int) > 57
      · refine ⟨-1, Ev.step (f := fun _ => some (-1)) (fun k => ?_) (Ev.now _)⟩
        simp only [spec_l1Read.l0]
        rw [if_pos (by omega), if_pos (by omega), if_neg h1, if_pos h2]
      · obtain ⟨r, hr⟩ := ih (i + 1) (wrap64 ((wrap64 (10 * x)) + (((bt s (i : Int)) - 48) % 256))) (by omega)
        refine ⟨r, Ev.step (fun k => ?_) hr⟩
        simp only [spec_l1Read.l0]
        rw [if_pos (by omega), if_pos (by omega), if_neg h1, if_neg h2, w64 (i := (i : Int) + 1) (by omega) (by omega)]
        rfl
theorem read_ends (s : ByteArray) : ∃ r, Ev (fun k => spec_l1Read.f k s) r := by
  have ht : Ev (fun k => spec_l1Read.j0 k s true) (-1) := Ev.step (f := fun _ => some (-1)) (fun k => by simp only [spec_l1Read.j0]; rw [if_pos trivial]) (Ev.now _)
  by_cases h : 1 ≤ (s.size : Int) ∧ (s.size : Int) ≤ 6
  · obtain ⟨r, hr⟩ := read_l0 s (by omega) s.size 0 0 (by omega)
    have hf : Ev (fun k => spec_l1Read.j0 k s false) r := Ev.step (fun k => by simp only [spec_l1Read.j0]; rw [if_neg Bool.false_ne_true]; rfl) hr
    by_cases h2 : bt s 0 = 48
    · cases h3 : decide ((s.size : Int) > 1)
      · exact ⟨r, Ev.congr (fun k => by unfold spec_l1Read.f; rw [in_eq, decide_eq_true h, Option.bind_some, if_pos rfl, if_pos (by omega), if_pos h2, h3]) hf⟩
      · exact ⟨-1, Ev.congr (fun k => by unfold spec_l1Read.f; rw [in_eq, decide_eq_true h, Option.bind_some, if_pos rfl, if_pos (by omega), if_pos h2, h3]) ht⟩
    · exact ⟨r, Ev.congr (fun k => by unfold spec_l1Read.f; rw [in_eq, decide_eq_true h, Option.bind_some, if_pos rfl, if_pos (by omega), if_neg h2]) hf⟩
  · exact ⟨-1, Ev.congr (fun k => by unfold spec_l1Read.f; rw [in_eq, decide_eq_false h, Option.bind_some, if_neg Bool.false_ne_true]) ht⟩
/-! ### Texts -/
def good (i j : Nat) (c : Bool) : Bool := (spec_frGood.f (i : Int) c (j : Int)).getD false
def txt (i j : Nat) (c : Bool) : ByteArray := (spec_frText.f 10 (i : Int) c (j : Int)).getD ByteArray.empty
def all (p : Nat → Nat → Bool → Bool) : Bool := (List.range 16).all (fun i => (List.range 9).all (fun j => [false, true].all (fun c => p i j c)))
theorem all_at {p : Nat → Nat → Bool → Bool} (h : all p = true) (i j : Nat) (c : Bool) (hi : i < 16) (hj : j < 9) : p i j c = true :=
  List.all_eq_true.1 (List.all_eq_true.1 (List.all_eq_true.1 h i (List.mem_range.2 hi)) j (List.mem_range.2 hj)) c (by cases c <;> simp)
theorem good_all : all (fun i j c => (spec_frGood.f (i : Int) c (j : Int)).isSome && (!(good i j c) || (spec_frText.f 10 (i : Int) c (j : Int)).isSome)) = true := by kernel_rfl
theorem goods (i j : Nat) (c : Bool) (hi : i < 16) (hj : j < 9) : spec_frGood.f (i : Int) c (j : Int) = some (good i j c) := by
  have h := all_at good_all i j c hi hj
  rw [Bool.and_eq_true] at h
  unfold good
  revert h
  cases spec_frGood.f (i : Int) c (j : Int) with
  | none => intro h; exact absurd h.1 (by simp)
  | some x => intro _; rfl
theorem txts (i j : Nat) (c : Bool) (hi : i < 16) (hj : j < 9) (hg : good i j c = true) : Ev (fun k => spec_frText.f k (i : Int) c (j : Int)) (txt i j c) := by
  have h := all_at good_all i j c hi hj
  rw [Bool.and_eq_true, hg, Bool.not_true, Bool.false_or] at h
  refine Ev.of (fun k => spec_frText.mono _ _ _ k) (k := 10) ?_
  have h2 := h.2
  unfold txt
  revert h2
  cases spec_frText.f 10 (i : Int) c (j : Int) with
  | none => intro h; cases h
  | some x => intro _; rfl
theorem impl_all : all (fun i j c => decide (impl_FrameText.f 10 (i : Int) c (j : Int) = some (if good i j c = true then txt i j c else ⟨#[]⟩, good i j c))) = true := by kernel_rfl
theorem impls (i j : Nat) (c : Bool) (hi : i < 16) (hj : j < 9) : Ev (fun k => impl_FrameText.f k (i : Int) c (j : Int)) (if good i j c = true then txt i j c else ⟨#[]⟩, good i j c) :=
  Ev.of (fun k => impl_FrameText.mono _ _ _ k) (k := 10) (of_decide_eq_true (all_at impl_all i j c hi hj))
/-! ### What a reading that ends well has read -/
def Told (s : ByteArray) (r : Int × Bool × Int × Bool) : Prop := r.2.2.2 = true → ∃ (i j : Nat) (c : Bool), i < 16 ∧ j < 9 ∧ good i j c = true ∧ s = txt i j c
theorem tail_ends (a b : Int) (c : Bool) (s : ByteArray) : ∃ r, Ev (fun k => (spec_frGood.f a c b).bind fun t130 => (if t130 = true then ((spec_frText.f k a c b).bind fun t131 => (some (a, c, b, (t131.toList == s.toList)))) else (some (a, c, b, false)))) r ∧ Told s r := by
  by_cases h : inR a b
  · obtain ⟨i, j, hi, hj, rfl, rfl⟩ := inR_nat h
    cases hg : good i j c
    · exact ⟨((i : Int), c, (j : Int), false), Ev.congr (fun k => by rw [goods i j c hi hj, hg, Option.bind_some, if_neg Bool.false_ne_true]) (Ev.now _), fun h => by cases h⟩
    · refine ⟨((i : Int), c, (j : Int), (txt i j c).toList == s.toList), Ev.congr (f := fun k => (spec_frText.f k (i : Int) c (j : Int)).bind fun t131 => some ((i : Int), c, (j : Int), (t131.toList == s.toList))) (fun k => by rw [goods i j c hi hj, hg, Option.bind_some, if_pos rfl]) (Ev.bind (txts i j c hi hj hg) (Ev.now _)), fun h => ?_⟩
      change ((txt i j c).toList == s.toList) = true at h
      rw [list_beq] at h
      exact ⟨i, j, c, hi, hj, hg, (of_decide_eq_true h).symm⟩
  · exact ⟨(a, c, b, false), Ev.congr (fun k => by rw [spec_out h, Option.bind_some, if_neg Bool.false_ne_true]) (Ev.now _), fun h => by cases h⟩
theorem parse_ends (s : ByteArray) : ∃ r, Ev (fun k => spec_frParse.f k s) r ∧ Told s r := by
  by_cases h : 3 ≤ (s.size : Int) ∧ (s.size : Int) ≤ 4
  · have e1 : wrap64 ((s.size : Int) - 2) = (s.size : Int) - 2 := w64 (by omega) (by omega)
    have e2 : wrap64 ((s.size : Int) - 2 + 1) = (s.size : Int) - 1 := by rw [w64 (by omega) (by omega)]; omega
    obtain ⟨t, ht⟩ := read_ends (s.extract 0 ((s.size : Int) - 2).toNat)
    obtain ⟨u, hu⟩ := read_ends (s.extract ((s.size : Int) - 1).toNat s.size)
    obtain ⟨r, hr, htold⟩ := tail_ends t u ((bt s ((s.size : Int) - 2)) == 99) s
    refine ⟨r, ?_, htold⟩
    refine Ev.congr (f := fun k => (spec_l1Read.f k (s.extract 0 ((s.size : Int) - 2).toNat)).bind fun t127 => (spec_l1Read.f k (s.extract ((s.size : Int) - 1).toNat s.size)).bind fun t128 => ((spec_frGood.f t127 ((bt s ((s.size : Int) - 2)) == 99) t128).bind fun t130 => (if t130 = true then ((spec_frText.f k t127 ((bt s ((s.size : Int) - 2)) == 99) t128).bind fun t131 => (some (t127, ((bt s ((s.size : Int) - 2)) == 99), t128, (t131.toList == s.toList)))) else (some (t127, ((bt s ((s.size : Int) - 2)) == 99), t128, false))))) (fun k => ?_) (Ev.bind ht (Ev.bind hu hr))
    unfold spec_frParse.f
    rw [in_eq, decide_eq_true h, Option.bind_some, if_pos rfl, e1, e2, if_pos (by omega), if_pos (by omega)]
    congr 1; funext t127
    rw [if_pos (by omega), if_pos (by omega), if_pos (by omega)]
  · exact ⟨(0, false, 0, false), Ev.congr (fun k => by unfold spec_frParse.f; rw [in_eq, decide_eq_false h, Option.bind_some, if_neg Bool.false_ne_true]) (Ev.now _), fun h => by cases h⟩
/-! ### A frame's text is read as that frame -/
def parse2 (k : Nat) (a0 : ByteArray) : Option (Int × Bool × Int × Bool) := (spec_l1In.f (a0.size : Int) 3 4).bind fun t126 => (if t126 = true then (if 0 ≤ (wrap64 ((a0.size : Int) - 2)) then (if (wrap64 ((a0.size : Int) - 2)) ≤ (a0.size : Int) then ((spec_l1Read.f k (a0.extract 0 ((wrap64 ((a0.size : Int) - 2)) : Int).toNat)).bind fun t127 => (if (wrap64 ((a0.size : Int) - 2)) < (a0.size : Int) then (if 0 ≤ (wrap64 ((wrap64 ((a0.size : Int) - 2)) + 1)) then (if (wrap64 ((wrap64 ((a0.size : Int) - 2)) + 1)) ≤ (a0.size : Int) then ((spec_l1Read.f k (a0.extract ((wrap64 ((wrap64 ((a0.size : Int) - 2)) + 1)) : Int).toNat a0.size)).bind fun t128 => ((spec_frGood.f t127 ((bt a0 (wrap64 ((a0.size : Int) - 2))) == 99) t128).bind fun t130 => (if t130 = true then ((spec_frText.f k t127 ((bt a0 (wrap64 ((a0.size : Int) - 2))) == 99) t128).bind fun t131 => (some (t127, ((bt a0 (wrap64 ((a0.size : Int) - 2))) == 99), t128, (t131.data.toList == a0.data.toList)))) else (some (t127, ((bt a0 (wrap64 ((a0.size : Int) - 2))) == 99), t128, false))))) else (none)) else (none)) else (none))) else (none)) else (none)) else (some (0, false, 0, false)))
theorem parse_eq (k : Nat) (s : ByteArray) : spec_frParse.f k s = parse2 k s := by
  unfold spec_frParse.f parse2
  simp only [ByteArray.toList_eq]
theorem back_all : all (fun i j c => !(good i j c) || decide (parse2 20 (txt i j c) = some ((i : Int), c, (j : Int), true))) = true := by kernel_rfl
theorem back (i j : Nat) (c : Bool) (hi : i < 16) (hj : j < 9) (hg : good i j c = true) : Ev (fun k => spec_frParse.f k (txt i j c)) ((i : Int), c, (j : Int), true) := by
  have h := all_at back_all i j c hi hj
  rw [hg, Bool.not_true, Bool.false_or] at h
  exact Ev.of (fun k => spec_frParse.mono _ k) (k := 20) ((parse_eq 20 _).trans (of_decide_eq_true h))
mutual
def m0 : Nat → ByteArray → Int → Option (Int × Bool × Int × Bool)
  | 0, _, _ => none
  | k + 1, x0, x11 => if x11 < 16 then (m1 k x0 x11 2 x11) else (some (0, false, 0, false))
def m1 : Nat → ByteArray → Int → Int → Int → Option (Int × Bool × Int × Bool)
  | 0, _, _, _, _ => none
  | k + 1, x0, x4, x5, x11 => if x5 ≤ 8 then ((some (([false, true] : List Bool) : List Bool)).bind fun y167 => (m2 k x0 x4 x5 x11 y167 (y167.length : Int) 0)) else (m0 k x0 (wrap64 (x11 + 1)))
def m2 : Nat → ByteArray → Int → Int → Int → List Bool → Int → Int → Option (Int × Bool × Int × Bool)
  | 0, _, _, _, _, _, _, _ => none
  | k + 1, x0, x4, x5, x11, x18, x19, x20 => if x20 < x19 then (if 0 ≤ x20 then (if x20 < (x18.length : Int) then ((impl_FrameText.f k x4 (rdOf false x18 x20) x5).bind fun bt172 => (if bt172.2 = true then (if bt172.1.data.toList = x0.data.toList then (some (x4, rdOf false x18 x20, x5, true)) else (m2 k x0 x4 x5 x11 x18 x19 (wrap64 (x20 + 1)))) else (m2 k x0 x4 x5 x11 x18 x19 (wrap64 (x20 + 1))))) else (none)) else (none)) else (m1 k x0 x4 (wrap64 (x5 + 1)) x11)
end
theorem m_eq (k : Nat) : (∀ s a, impl_ParseFrame.l0 k s a = m0 k s a) ∧ (∀ s a b x, impl_ParseFrame.l1 k s a b x = m1 k s a b x) ∧ (∀ s a b x l y z, impl_ParseFrame.l2 k s a b x l y z = m2 k s a b x l y z) := by
  induction k with
  | zero => exact ⟨fun _ _ => rfl, fun _ _ _ _ => rfl, fun _ _ _ _ _ _ _ => rfl⟩
  | succ k ih =>
    obtain ⟨h0, h1, h2⟩ := ih
    refine ⟨fun s a => ?_, fun s a b x => ?_, fun s a b x l y z => ?_⟩
    · simp only [impl_ParseFrame.l0, m0, h1]
    · simp only [impl_ParseFrame.l1, m1, h2, h0]
    · simp only [impl_ParseFrame.l2, m2, h1, h2, ByteArray.toList_eq]
theorem find_all : all (fun i j c => !(good i j c) || decide (m0 600 (txt i j c) 0 = some ((i : Int), c, (j : Int), true))) = true := by kernel_rfl
theorem find (i j : Nat) (c : Bool) (hi : i < 16) (hj : j < 9) (hg : good i j c = true) : Ev (fun k => impl_ParseFrame.f k (txt i j c)) ((i : Int), c, (j : Int), true) := by
  have h := all_at find_all i j c hi hj
  rw [hg, Bool.not_true, Bool.false_or] at h
  exact Ev.of (fun k => impl_ParseFrame.mono _ k) (k := 600) (((m_eq 600).1 _ _).trans (of_decide_eq_true h))
/-! ### No frame has this text -/
theorem none_l2 (s : ByteArray) (hs : ∀ (i j : Nat) (c : Bool), i < 16 → j < 9 → good i j c = true → s ≠ txt i j c) (i j : Nat) (hi : i < 16) (hj : j < 9) (r : Int × Bool × Int × Bool) (h : Ev (fun k => impl_ParseFrame.l1 k s (i : Int) ((j + 1 : Nat) : Int) (i : Int)) r) :
    Ev (fun k => impl_ParseFrame.l2 k s (i : Int) (j : Int) (i : Int) [false, true] 2 0) r := by
  have one : ∀ (c : Bool) (q : Int) (hq : rdOf false [false, true] q = c) (h0 : 0 ≤ q) (h2 : q < 2) (q' : Int) (e : wrap64 (q + 1) = q'), Ev (fun k => impl_ParseFrame.l2 k s (i : Int) (j : Int) (i : Int) [false, true] 2 q') r → Ev (fun k => impl_ParseFrame.l2 k s (i : Int) (j : Int) (i : Int) [false, true] 2 q) r := by
    intro c q hq h0 h2 q' e hn
    subst e
    refine Ev.step (f := fun k => (impl_FrameText.f k (i : Int) c (j : Int)).bind fun bt172 => (if bt172.2 = true then (if bt172.1.toList = s.toList then (some ((i : Int), c, (j : Int), true)) else (impl_ParseFrame.l2 k s (i : Int) (j : Int) (i : Int) [false, true] 2 (wrap64 (q + 1)))) else (impl_ParseFrame.l2 k s (i : Int) (j : Int) (i : Int) [false, true] 2 (wrap64 (q + 1))))) (fun k => ?_) (Ev.bind (impls i j c hi hj) ?_)
    · simp only [impl_ParseFrame.l2]
      rw [if_pos h2, if_pos h0, if_pos (show q < (([false, true] : List Bool).length : Int) from h2), hq]
    · cases hg : good i j c
      · exact Ev.congr (fun k => by simp only [Bool.false_eq_true, if_false]) hn
      · refine Ev.congr (fun k => ?_) hn
        have e : ¬ (txt i j c).toList = s.toList := fun e => hs i j c hi hj hg (list_inj.1 e).symm
        simp only [if_true, e, if_false]
  refine one false 0 rfl (by omega) (by omega) 1 (by unfold wrap64; omega) ?_
  refine one true 1 rfl (by omega) (by omega) 2 (by unfold wrap64; omega) ?_
  refine Ev.step (fun k => ?_) h
  simp only [impl_ParseFrame.l2]
  rw [if_neg (show ¬ ((2 : Int) < 2) by decide), w64 (i := (j : Int) + 1) (by omega) (by omega)]
  rfl
theorem none_l1 (s : ByteArray) (hs : ∀ (i j : Nat) (c : Bool), i < 16 → j < 9 → good i j c = true → s ≠ txt i j c) (i : Nat) (hi : i < 16) (r : Int × Bool × Int × Bool) (h : Ev (fun k => impl_ParseFrame.l0 k s ((i + 1 : Nat) : Int)) r) (d : Nat) : ∀ j, j + d = 9 → Ev (fun k => impl_ParseFrame.l1 k s (i : Int) (j : Int) (i : Int)) r := by
  induction d with
  | zero =>
    intro j hj
    refine Ev.step (fun k => ?_) h
    simp only [impl_ParseFrame.l1]
    rw [if_neg (by omega), w64 (i := (i : Int) + 1) (by omega) (by omega)]
    rfl
  | succ d ih =>
    intro j hj
    refine Ev.step (fun k => ?_) (none_l2 s hs i j hi (by omega) r (ih (j + 1) (by omega)))
    simp only [impl_ParseFrame.l1]
    rw [if_pos (by omega), Option.bind_some]
    rfl
theorem none_l0 (s : ByteArray) (hs : ∀ (i j : Nat) (c : Bool), i < 16 → j < 9 → good i j c = true → s ≠ txt i j c) (d : Nat) : ∀ i, i + d = 16 → Ev (fun k => impl_ParseFrame.l0 k s (i : Int)) (0, false, 0, false) := by
  induction d with
  | zero =>
    intro i hi
    refine Ev.step (f := fun _ => some (0, false, 0, false)) (fun k => ?_) (Ev.now _)
    simp only [impl_ParseFrame.l0]
    rw [if_neg (by omega)]
  | succ d ih =>
    intro i hi
    refine Ev.step (fun k => ?_) (none_l1 s hs i (by omega) _ (ih (i + 1) (by omega)) 7 2 rfl)
    simp only [impl_ParseFrame.l0]
    rw [if_pos (by omega)]
    rfl
theorem both (s : ByteArray) : ∃ r, Ev (fun k => spec_ParseFrame.f k s) r ∧ Ev (fun k => impl_ParseFrame.f k s) r := by
  by_cases hs : ∃ (i j : Nat) (c : Bool), i < 16 ∧ j < 9 ∧ good i j c = true ∧ s = txt i j c
  · obtain ⟨i, j, c, hi, hj, hg, rfl⟩ := hs
    exact ⟨_, Ev.bind (back i j c hi hj hg) (Ev.congr (fun k => by rw [if_pos rfl]) (Ev.now ((i : Int), c, (j : Int), true))), find i j c hi hj hg⟩
  · obtain ⟨r, hr, htold⟩ := parse_ends s
    refine ⟨(0, false, 0, false), Ev.bind hr (Ev.congr (fun k => ?_) (Ev.now _)), none_l0 s (fun i j c hi hj hg e => hs ⟨i, j, c, hi, hj, hg, e⟩) 16 0 rfl⟩
    rw [if_neg (fun e => hs (htold e))]
theorem FnExactParseFrame : ∀ (a0 : ByteArray), (a0.size ≤ 140737488351232) → ∃ k, laws_FnExactParseFrame.f k a0 = some true := by
  intro s _
  obtain ⟨r, ⟨K1, h1⟩, ⟨K2, h2⟩⟩ := both s
  refine ⟨max K1 K2, ?_⟩
  unfold laws_FnExactParseFrame.f
  by_cases hb : (s.size : Int) > 1048576
  · rw [if_pos hb]
  · have h1 := h1 _ (Nat.le_max_left K1 K2)
    have h2 := h2 _ (Nat.le_max_right K1 K2)
    simp only at h1 h2
    rw [if_neg hb, h1, h2, Option.bind_some, Option.bind_some]
    unfold laws_eqFrame.f
    rw [if_pos rfl, bne_self_eq_false, if_neg Bool.false_ne_true, if_pos rfl, Option.bind_some, if_pos rfl, bne_self_eq_false, if_neg Bool.false_ne_true]

end Go.Proofs.YtklfodjfpfedkaaDoor.Pure
