/- For every text, the program's PointsOf answers what the reference's answers. (The pure statement behind the row: over numbers and lists alone.) -/
import Derived.Test.YtklfodjfpfedkaaDoorPAx7
import Derived.KernelRfl
import Derived.Laws.Strings
set_option linter.unusedSimpArgs false
set_option linter.unusedVariables false
namespace Go.Proofs.YtklfodjfpfedkaaDoor.Pure
open Go.RowKit Go.Proofs.YtklfodjfpfedkaaDoor.PA Go.Proofs.YtklfodjfpfedkaaDoorW.PrintWords Go.Proofs.YtklfodjfpfedkaaDoorW.PrintLast Go.Proofs.YtklfodjfpfedkaaDoorW.PrintMore

theorem w64 {i : Int} (h0 : -9223372036854775808 ≤ i) (h : i ≤ 9223372036854775807) : wrap64 i = i := by unfold wrap64; omega
theorem toList_mk (l : List UInt8) : (⟨l.toArray⟩ : ByteArray).toList = l := by rw [ByteArray.toList_eq]
theorem drop_nil (p : UInt8 → Bool) (m : List UInt8) (h : ∀ x ∈ m.dropWhile p, p x = true) : m.dropWhile p = [] := by
  induction m with
  | nil => rfl
  | cons a m ih =>
    by_cases ha : p a = true
    · rw [List.dropWhile_cons_of_pos ha] at h ⊢
      exact ih h
    · rw [List.dropWhile_cons_of_neg ha] at h
      exact absurd (h a (List.mem_cons_self ..)) ha
theorem drop_iff (p : UInt8 → Bool) (m : List UInt8) : m.dropWhile p = [] ↔ ∀ x ∈ m, p x = true := by
  induction m with
  | nil => simp
  | cons a m ih =>
    by_cases ha : p a = true
    · rw [List.dropWhile_cons_of_pos ha, ih]
      simp [ha]
    · rw [List.dropWhile_cons_of_neg ha]
      simp [ha]
theorem trim_nil (l cs : List UInt8) : Lib.trimS l cs = [] ↔ ∀ b ∈ l, cs.contains b = true := by
  unfold Lib.trimS Lib.trimLeftS Lib.trimRightS
  rw [drop_iff]
  constructor
  · intro h
    have h1 := drop_nil (cs.contains ·) l.reverse (fun x hx => h x (List.mem_reverse.2 hx))
    rw [drop_iff] at h1
    exact fun b hb => h1 b (List.mem_reverse.2 hb)
  · intro h x hx
    have h1 : l.reverse.dropWhile (cs.contains ·) = [] := (drop_iff _ _).2 (fun b hb => h b (List.mem_reverse.1 hb))
    rw [h1] at hx
    cases hx
theorem bytes_all (s : ByteArray) (p : UInt8 → Prop) : (∀ b ∈ s.data.toList, p b) ↔ ∀ (j : Nat) (h : j < s.size), p s[j] := by
  constructor
  · intro h j hj
    exact h _ (Array.getElem_mem_toList (xs := s.data) hj)
  · intro h b hb
    obtain ⟨i, hi, e⟩ := List.getElem_of_mem hb
    rw [← e]
    exact h i (by rw [Array.length_toList] at hi; exact hi)
theorem bt_get (s : ByteArray) (j : Nat) (h : j < s.size) : bt s (j : Int) = ((s[j]'h).toNat : Int) := by
  have := bt_at s (j : Int) (by simpa using h)
  rw [← this]
  rfl
theorem in_eq (a b c : Int) : spec_l1In.f a b c = some (decide (b ≤ a ∧ a ≤ c)) := by
  unfold spec_l1In.f; by_cases h : b ≤ a <;> simp [h]
theorem sum_l0 (s : ByteArray) (hs : s.size ≤ 36) (d : Nat) : ∀ (i : Nat) (x : Int), i + d = s.size → ∃ r, Ev (fun k => spec_frPoints.l0 k s x (i : Int)) r ∧ Ev (fun k => impl_PointsOf.l0 k s x (s.size : Int) (i : Int)) (r, true) := by
  induction d with
  | zero =>
    intro i x hi
    refine ⟨x, Ev.step (f := fun _ => some x) (fun k => ?_) (Ev.now _), Ev.step (f := fun _ => some (x, true)) (fun k => ?_) (Ev.now _)⟩
    · simp only [spec_frPoints.l0]; rw [if_neg (by omega)]
    · simp only [impl_PointsOf.l0]; rw [if_neg (by omega)]
  | succ d ih =>
    intro i x hi
    obtain ⟨r, h1, h2⟩ := ih (i + 1) (wrap64 (x + (((bt s (i : Int)) - 48) % 256))) (by omega)
    refine ⟨r, Ev.step (fun k => ?_) h1, Ev.step (fun k => ?_) h2⟩
    · simp only [spec_frPoints.l0]; rw [if_pos (by omega), if_pos (by omega), w64 (i := (i : Int) + 1) (by omega) (by omega)]; rfl
    · simp only [impl_PointsOf.l0]; rw [if_pos (by omega), if_pos (by omega), if_pos (by omega), w64 (i := (i : Int) + 1) (by omega) (by omega)]; rfl
def ok (s : ByteArray) (j : Nat) : Prop := 1 ≤ bt s (j : Int) - 48 ∧ bt s (j : Int) - 48 ≤ 7
instance (s : ByteArray) (j : Nat) : Decidable (ok s j) := by unfold ok; infer_instance
theorem check (s : ByteArray) (hs : s.size ≤ 36) (p : Int) (hp : Ev (fun k => spec_frPoints.f k s) p) (d : Nat) : ∀ (i : Nat), i + d = s.size →
    ((∀ j, i ≤ j → j < s.size → ok s j) → Ev (fun k => spec_PointsOf.l0 k s (i : Int)) (p, true)) ∧ (¬ (∀ j, i ≤ j → j < s.size → ok s j) → Ev (fun k => spec_PointsOf.l0 k s (i : Int)) (0, false)) := by
  induction d with
  | zero =>
    intro i hi
    refine ⟨fun _ => Ev.step (f := fun k => (spec_frPoints.f k s).bind fun t => some (t, true)) (fun k => ?_) (Ev.bind hp (Ev.now _)), fun h => absurd (fun j h1 h2 => by omega) h⟩
    simp only [spec_PointsOf.l0]; rw [if_neg (by omega)]
  | succ d ih =>
    intro i hi
    have hr := bt_range s (i : Int)
    have e1 : wrap64 ((wrap64 (bt s (i : Int))) - 48) = bt s (i : Int) - 48 := by rw [w64 (i := bt s (i : Int)) (by omega) (by omega), w64 (by omega) (by omega)]
    obtain ⟨h1, h2⟩ := ih (i + 1) (by omega)
    by_cases ho : ok s i
    · have step : ∀ k, spec_PointsOf.l0 (k + 1) s (i : Int) = spec_PointsOf.l0 k s ((i + 1 : Nat) : Int) := by
        intro k
        simp only [spec_PointsOf.l0]
        rw [if_pos (by omega), if_pos (by omega), e1, in_eq, decide_eq_true (show 1 ≤ bt s (i : Int) - 48 ∧ bt s (i : Int) - 48 ≤ 7 from ho), Option.bind_some, if_pos rfl, w64 (i := (i : Int) + 1) (by omega) (by omega)]
        rfl
      refine ⟨fun h => Ev.step step (h1 (fun j hj => h j (by omega))), fun h => Ev.step step (h2 (fun h' => h (fun j hj hjs => ?_)))⟩
      by_cases e : j = i
      · rw [e]; exact ho
      · exact h' j (by omega) hjs
    · refine ⟨fun h => absurd (h i (Nat.le_refl _) (by omega)) ho, fun _ => Ev.step (f := fun _ => some (0, false)) (fun k => ?_) (Ev.now _)⟩
      simp only [spec_PointsOf.l0]
      rw [if_pos (by omega), if_pos (by omega), e1, in_eq, decide_eq_false (show ¬ (1 ≤ bt s (i : Int) - 48 ∧ bt s (i : Int) - 48 ≤ 7) from ho), Option.bind_some, if_neg Bool.false_ne_true]
theorem digits (b : UInt8) : ([49, 50, 51, 52, 53, 54, 55] : List UInt8).contains b = true ↔ (1 ≤ (b.toNat : Int) - 48 ∧ (b.toNat : Int) - 48 ≤ 7) := by
  have key : ∀ n : Fin 256, ([49, 50, 51, 52, 53, 54, 55] : List UInt8).contains (UInt8.ofNat n.val) = decide (1 ≤ (n.val : Int) - 48 ∧ (n.val : Int) - 48 ≤ 7) := by decide +kernel
  have h := key ⟨b.toNat, b.toNat_lt⟩
  simp only [UInt8.ofNat_toNat] at h
  rw [h, decide_eq_true_iff]
theorem trims (s : ByteArray) (hs : s.size ≤ 36) : strings_Trim.f s (⟨#[49, 50, 51, 52, 53, 54, 55]⟩ : ByteArray) = some ⟨(Lib.trimS s.data.toList [49, 50, 51, 52, 53, 54, 55]).toArray⟩ := by
  unfold strings_Trim.f
  rw [if_pos ⟨by omega, by decide, by decide⟩]
theorem trim_ok (s : ByteArray) : Lib.trimS s.data.toList [49, 50, 51, 52, 53, 54, 55] = [] ↔ ∀ j, j < s.size → ok s j := by
  rw [trim_nil, bytes_all s (fun b => ([49, 50, 51, 52, 53, 54, 55] : List UInt8).contains b = true)]
  constructor
  · intro h j hj
    unfold ok
    rw [bt_get s j hj]
    exact (digits _).1 (h j hj)
  · intro h j hj
    have := h j hj
    unfold ok at this
    rw [bt_get s j hj] at this
    exact (digits _).2 this
theorem both (s : ByteArray) : ∃ r, Ev (fun k => spec_PointsOf.f k s) r ∧ Ev (fun k => impl_PointsOf.f k s) r := by
  by_cases hs : s.size ≤ 36
  · obtain ⟨p, h1, h2⟩ := sum_l0 s hs s.size 0 0 (by omega)
    obtain ⟨c1, c2⟩ := check s hs p h1 s.size 0 (by omega)
    by_cases ha : ∀ j, j < s.size → ok s j
    · refine ⟨(p, true), Ev.congr (fun k => ?_) (c1 (fun j _ hj => ha j hj)), Ev.congr (f := fun k => impl_PointsOf.j0 k s false) (fun k => ?_) (Ev.step (fun k => ?_) h2)⟩
      · unfold spec_PointsOf.f; rw [if_neg (by omega)]; rfl
      · unfold impl_PointsOf.f
        rw [if_neg (by omega), trims s hs, Option.bind_some, toList_mk, (trim_ok s).2 ha]
        rfl
      · simp only [impl_PointsOf.j0]; rw [if_neg Bool.false_ne_true]; rfl
    · refine ⟨(0, false), Ev.congr (fun k => ?_) (c2 (fun h => ha (fun j hj => h j (Nat.zero_le _) hj))), Ev.congr (f := fun k => impl_PointsOf.j0 k s true) (fun k => ?_) (Ev.step (f := fun _ => some (0, false)) (fun k => ?_) (Ev.now _))⟩
      · unfold spec_PointsOf.f; rw [if_neg (by omega)]; rfl
      · unfold impl_PointsOf.f
        have hne : Lib.trimS s.data.toList [49, 50, 51, 52, 53, 54, 55] ≠ [] := fun e => ha ((trim_ok s).1 e)
        rw [if_neg (by omega), trims s hs, Option.bind_some, toList_mk, bne_iff_ne.2 hne]
      · simp only [impl_PointsOf.j0]; rw [if_pos trivial]
  · refine ⟨(0, false), Ev.congr (f := fun _ => some (0, false)) (fun k => ?_) (Ev.now _), Ev.congr (f := fun k => impl_PointsOf.j0 k s true) (fun k => ?_) (Ev.step (f := fun _ => some (0, false)) (fun k => ?_) (Ev.now _))⟩
    · unfold spec_PointsOf.f; rw [if_pos (by omega)]
    · unfold impl_PointsOf.f; rw [if_pos (by omega)]
    · simp only [impl_PointsOf.j0]; rw [if_pos trivial]
theorem FnExactPointsOf : ∀ (a0 : ByteArray), (a0.size ≤ 140737488351232) → ∃ k, laws_FnExactPointsOf.f k a0 = some true := by
  intro s _
  obtain ⟨r, ⟨K1, h1⟩, ⟨K2, h2⟩⟩ := both s
  refine ⟨max K1 K2, ?_⟩
  unfold laws_FnExactPointsOf.f
  by_cases hb : (s.size : Int) > 1048576
  · rw [if_pos hb]
  · have h1 := h1 _ (Nat.le_max_left K1 K2)
    have h2 := h2 _ (Nat.le_max_right K1 K2)
    simp only at h1 h2
    rw [if_neg hb, h1, h2, Option.bind_some, Option.bind_some, if_pos rfl, bne_self_eq_false, if_neg Bool.false_ne_true]

end Go.Proofs.YtklfodjfpfedkaaDoor.Pure
