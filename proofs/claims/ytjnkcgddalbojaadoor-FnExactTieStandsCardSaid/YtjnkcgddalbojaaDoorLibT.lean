/- Points, and plays of a race: what the reference's loops come to. (Plain Lean: no program's memory in sight.) -/
import Derived.Test.YtjnkcgddalbojaaDoorPAx8
import Derived.Test.YtjnkcgddalbojaaDoorPAx14
import Derived.Test.YtjnkcgddalbojaaDoorPAx2
import Derived.Test.YtjnkcgddalbojaaDoorPAx2001
import Derived.KernelRfl
import Derived.Laws.Strings
set_option linter.unusedSimpArgs false
set_option linter.unusedVariables false
namespace Go.Proofs.YtjnkcgddalbojaaDoor.Pure
open Go.RowKit Go.Proofs.YtjnkcgddalbojaaDoor.PA Go.Proofs.YtjnkcgddalbojaaDoorW.PrintWords Go.Proofs.YtjnkcgddalbojaaDoorW.PrintLast Go.Proofs.YtjnkcgddalbojaaDoorW.PrintMore

theorem w64 {i : Int} (h0 : -9223372036854775808 ≤ i) (h : i ≤ 9223372036854775807) : wrap64 i = i := by unfold wrap64; omega
theorem toList_mk (l : List UInt8) : (⟨l.toArray⟩ : ByteArray).toList = l := by rw [ByteArray.toList_eq]
theorem drop_nil (p : UInt8 → Bool) (m : List UInt8) (h : ∀ x ∈ m.dropWhile p, p x = true) : m.dropWhile p = [] := by
  induction m with
  | nil => rfl
  | cons a m ih =>
    by_cases ha : p a = true
    · rw [List.dropWhile_cons_of_pos ha] at h ⊢
      exact ih h
    · rw [List.dropWhile_cons_of_neg ha] at h
      exact absurd (h a (List.mem_cons_self ..)) ha
theorem drop_iff (p : UInt8 → Bool) (m : List UInt8) : m.dropWhile p = [] ↔ ∀ x ∈ m, p x = true := by
  induction m with
  | nil => simp
  | cons a m ih =>
    by_cases ha : p a = true
    · rw [List.dropWhile_cons_of_pos ha, ih]
      simp [ha]
    · rw [List.dropWhile_cons_of_neg ha]
      simp [ha]
theorem trim_nil (l cs : List UInt8) : Lib.trimS l cs = [] ↔ ∀ b ∈ l, cs.contains b = true := by
  unfold Lib.trimS Lib.trimLeftS Lib.trimRightS
  rw [drop_iff]
  constructor
  · intro h
    have h1 := drop_nil (cs.contains ·) l.reverse (fun x hx => h x (List.mem_reverse.2 hx))
    rw [drop_iff] at h1
    exact fun b hb => h1 b (List.mem_reverse.2 hb)
  · intro h x hx
    have h1 : l.reverse.dropWhile (cs.contains ·) = [] := (drop_iff _ _).2 (fun b hb => h b (List.mem_reverse.1 hb))
    rw [h1] at hx
    cases hx
theorem bytes_all (s : ByteArray) (p : UInt8 → Prop) : (∀ b ∈ s.data.toList, p b) ↔ ∀ (j : Nat) (h : j < s.size), p s[j] := by
  constructor
  · intro h j hj
    exact h _ (Array.getElem_mem_toList (xs := s.data) hj)
  · intro h b hb
    obtain ⟨i, hi, e⟩ := List.getElem_of_mem hb
    rw [← e]
    exact h i (by rw [Array.length_toList] at hi; exact hi)
theorem bt_get (s : ByteArray) (j : Nat) (h : j < s.size) : bt s (j : Int) = ((s[j]'h).toNat : Int) := by
  have := bt_at s (j : Int) (by simpa using h)
  rw [← this]
  rfl
/-! ### Points -/
def pt (s : ByteArray) (j : Nat) : Prop := bt s (j : Int) = 97 ∨ bt s (j : Int) = 98
instance (s : ByteArray) (j : Nat) : Decidable (pt s j) := by unfold pt; infer_instance
def pts (s : ByteArray) : Prop := ∀ j, j < s.size → pt s j
instance (s : ByteArray) : Decidable (pts s) := Nat.decidableBallLT s.size (fun j _ => pt s j)
def ptsB (m : Int) (s : ByteArray) : Bool := decide ((s.size : Int) ≤ m ∧ pts s)
theorem points_l0 (s : ByteArray) (hs : s.size ≤ 140737488351232) (d : Nat) : ∀ i : Nat, i + d = s.size →
    ((∀ j, i ≤ j → j < s.size → pt s j) → Ev (fun k => spec_tnPoints.l0 k s (i : Int)) true) ∧ (¬ (∀ j, i ≤ j → j < s.size → pt s j) → Ev (fun k => spec_tnPoints.l0 k s (i : Int)) false) := by
  induction d with
  | zero =>
    intro i hi
    refine ⟨fun _ => Ev.step (f := fun _ => some true) (fun k => ?_) (Ev.now _), fun h => absurd (fun j h1 h2 => by omega) h⟩
    simp only [spec_tnPoints.l0]; rw [if_neg (by omega)]
  | succ d ih =>
    intro i hi
    obtain ⟨h1, h2⟩ := ih (i + 1) (by omega)
    by_cases ho : pt s i
    · have step : ∀ k, spec_tnPoints.l0 (k + 1) s (i : Int) = spec_tnPoints.l0 k s ((i + 1 : Nat) : Int) := by
        intro k
        simp only [spec_tnPoints.l0]
        rw [if_pos (by omega), if_pos (by omega), w64 (i := (i : Int) + 1) (by omega) (by omega)]
        rcases ho with e | e
        · rw [if_pos e]; rfl
        · rw [if_neg (by omega), if_pos e]; rfl
      refine ⟨fun h => Ev.step step (h1 (fun j hj => h j (by omega))), fun h => Ev.step step (h2 (fun h' => h (fun j hj hjs => ?_)))⟩
      by_cases e : j = i
      · rw [e]; exact ho
      · exact h' j (by omega) hjs
    · refine ⟨fun h => absurd (h i (Nat.le_refl _) (by omega)) ho, fun _ => Ev.step (f := fun _ => some false) (fun k => ?_) (Ev.now _)⟩
      simp only [spec_tnPoints.l0]
      rw [if_pos (by omega), if_pos (by omega), if_neg (fun e => ho (.inl e)), if_neg (fun e => ho (.inr e))]
theorem points (s : ByteArray) (hs : s.size ≤ 140737488351232) : Ev (fun k => spec_tnPoints.f k s) (ptsB 300 s) := by
  by_cases h : (s.size : Int) > 300
  · have e : ptsB 300 s = false := decide_eq_false (fun h' => by have := h'.1; omega)
    rw [e]
    exact Ev.congr (f := fun _ => some false) (fun k => by unfold spec_tnPoints.f; rw [if_pos h]) (Ev.now _)
  · obtain ⟨h1, h2⟩ := points_l0 s hs s.size 0 (by omega)
    by_cases hp : pts s
    · have e : ptsB 300 s = true := decide_eq_true ⟨by omega, hp⟩
      rw [e]
      exact Ev.congr (fun k => by unfold spec_tnPoints.f; rw [if_neg h]; rfl) (h1 (fun j _ hj => hp j hj))
    · have e : ptsB 300 s = false := decide_eq_false (fun h' => hp h'.2)
      rw [e]
      exact Ev.congr (fun k => by unfold spec_tnPoints.f; rw [if_neg h]; rfl) (h2 (fun h' => hp (fun j hj => h' j (Nat.zero_le _) hj)))
theorem ab (b : UInt8) : ([97, 98] : List UInt8).contains b = true ↔ ((b.toNat : Int) = 97 ∨ (b.toNat : Int) = 98) := by
  have key : ∀ n : Fin 256, ([97, 98] : List UInt8).contains (UInt8.ofNat n.val) = decide ((n.val : Int) = 97 ∨ (n.val : Int) = 98) := by decide +kernel
  have h := key ⟨b.toNat, b.toNat_lt⟩
  simp only [UInt8.ofNat_toNat] at h
  rw [h, decide_eq_true_iff]
theorem trim_pts (s : ByteArray) : Lib.trimS s.data.toList [97, 98] = [] ↔ pts s := by
  rw [trim_nil, bytes_all s (fun b => ([97, 98] : List UInt8).contains b = true)]
  constructor
  · intro h j hj
    unfold pt
    rw [bt_get s j hj]
    exact (ab _).1 (h j hj)
  · intro h j hj
    have := h j hj
    unfold pt at this
    rw [bt_get s j hj] at this
    exact (ab _).2 this
theorem isPoints (s : ByteArray) (hs : s.size ≤ 140737488351232) (m : Int) : impl_isPoints.f s m = some (ptsB m s) := by
  unfold impl_isPoints.f
  by_cases h : (s.size : Int) ≤ m
  · have e : strings_Trim.f s (⟨#[97, 98]⟩ : ByteArray) = some ⟨(Lib.trimS s.data.toList [97, 98]).toArray⟩ := by
      unfold strings_Trim.f
      rw [if_pos ⟨by omega, by decide, by decide⟩]
    rw [if_pos h, e, Option.bind_some, toList_mk]
    by_cases hp : pts s
    · rw [(trim_pts s).2 hp, show ptsB m s = true from decide_eq_true ⟨h, hp⟩]; rfl
    · rw [show ptsB m s = false from decide_eq_false (fun h' => hp h'.2), beq_eq_false_iff_ne.2 (fun e => hp ((trim_pts s).1 e))]
  · rw [if_neg h, show ptsB m s = false from decide_eq_false (fun h' => h h'.1)]
/-! ### A race -/
def ended (rt a b : Int) : Bool := decide ((rt ≤ a ∨ rt ≤ b) ∧ (2 ≤ a - b ∨ 2 ≤ b - a))
/-- What a play of a race comes to: the points of both, how many points, has it ended. -/
def pl (rt : Int) : Int → Int → List Bool → Int × Int × Nat × Bool
  | a, b, [] => (a, b, 0, false)
  | a, b, c :: l => if ended rt (if c then a + 1 else a) (if c then b else b + 1) then (if c then a + 1 else a, if c then b else b + 1, 1, true)
      else ((pl rt (if c then a + 1 else a) (if c then b else b + 1) l).1, (pl rt (if c then a + 1 else a) (if c then b else b + 1) l).2.1, (pl rt (if c then a + 1 else a) (if c then b else b + 1) l).2.2.1 + 1, (pl rt (if c then a + 1 else a) (if c then b else b + 1) l).2.2.2)
def bits (s : ByteArray) (i : Nat) : Nat → List Bool
  | 0 => []
  | d + 1 => decide (bt s (i : Int) = 97) :: bits s (i + 1) d
theorem pl_many (rt : Int) (l : List Bool) : ∀ a b, (pl rt a b l).2.2.1 ≤ l.length ∧ ((pl rt a b l).2.2.2 = false → (pl rt a b l).2.2.1 = l.length) := by
  induction l with
  | nil => intro a b; exact ⟨Nat.le_refl _, fun _ => rfl⟩
  | cons c l ih =>
    intro a b
    simp only [pl]
    by_cases he : ended rt (if c then a + 1 else a) (if c then b else b + 1) = true
    · rw [if_pos he]
      exact ⟨by simp, fun h => by cases h⟩
    · rw [if_neg he]
      have h := ih (if c then a + 1 else a) (if c then b else b + 1)
      exact ⟨by simp only [List.length_cons]; omega, fun h2 => by simp only [List.length_cons]; rw [h.2 h2]⟩
theorem bits_length (s : ByteArray) (d : Nat) : ∀ i, (bits s i d).length = d := by
  induction d with
  | zero => intro i; rfl
  | succ d ih => intro i; simp only [bits, List.length_cons, ih]
theorem most (a b : Int) : spec_l1Most.f a b = some (max a b) := by
  unfold spec_l1Most.f
  by_cases h : a > b
  · rw [if_pos h, Int.max_eq_left (by omega)]
  · rw [if_neg h, Int.max_eq_right (by omega)]
theorem abs_eq (a : Int) (h0 : -9223372036854775807 ≤ a) (h1 : a ≤ 9223372036854775807) : spec_l1Abs.f a = some (max a (-a)) := by
  unfold spec_l1Abs.f
  rw [w64 (by omega) (by omega), most]; rfl
theorem play_l0 (s : ByteArray) (hs : s.size ≤ 140737488351232) (fr : Nat) (rt : Int) (d : Nat) : ∀ (i : Nat) (a b : Int), i + d = s.size → fr ≤ i → 0 ≤ a → a ≤ i → 0 ≤ b → b ≤ i →
    Ev (fun k => spec_tnPlay.l0 k s (fr : Int) a b (i : Int) rt 2) ((pl rt a b (bits s i d)).1, (pl rt a b (bits s i d)).2.1, ((i - fr + (pl rt a b (bits s i d)).2.2.1 : Nat) : Int), (pl rt a b (bits s i d)).2.2.2) := by
  induction d with
  | zero =>
    intro i a b hi hf ha ha2 hb hb2
    refine Ev.step (f := fun _ => some (a, b, ((i - fr + 0 : Nat) : Int), false)) (fun k => ?_) (Ev.now _)
    simp only [spec_tnPlay.l0]
    rw [if_neg (by omega), w64 (by omega) (by omega)]
    congr 4
    omega
  | succ d ih =>
    intro i a b hi hf ha ha2 hb hb2
    have j1 : ∀ (a b : Int), 0 ≤ a → a ≤ i + 1 → 0 ≤ b → b ≤ i + 1 → Ev (fun k => spec_tnPlay.j1 k s (fr : Int) a b (i : Int) rt 2) (if ended rt a b then (a, b, ((i - fr + 1 : Nat) : Int), true) else ((pl rt a b (bits s (i + 1) d)).1, (pl rt a b (bits s (i + 1) d)).2.1, ((i - fr + ((pl rt a b (bits s (i + 1) d)).2.2.1 + 1) : Nat) : Int), (pl rt a b (bits s (i + 1) d)).2.2.2)) := by
      intro a b ha ha2 hb hb2
      have e2 : wrap64 ((i : Int) + 1) = ((i + 1 : Nat) : Int) := by rw [w64 (by omega) (by omega)]; rfl
      have e3 : wrap64 (((i + 1 : Nat) : Int) - (fr : Int)) = ((i - fr + 1 : Nat) : Int) := by rw [w64 (by omega) (by omega)]; omega
      have e4 : wrap64 (a - b) = a - b := w64 (by omega) (by omega)
      have hi1 := ih (i + 1) a b (by omega) (by omega) ha (by omega) hb (by omega)
      have e5 : (i + 1 - fr + (pl rt a b (bits s (i + 1) d)).2.2.1) = (i - fr + ((pl rt a b (bits s (i + 1) d)).2.2.1 + 1)) := by omega
      rw [e5] at hi1
      have hgo : ∀ k, spec_tnPlay.j1 (k + 1) s (fr : Int) a b (i : Int) rt 2 = if ended rt a b then some (a, b, ((i - fr + 1 : Nat) : Int), true) else spec_tnPlay.l0 k s (fr : Int) a b ((i + 1 : Nat) : Int) rt 2 := by
        intro k
        simp only [spec_tnPlay.j1]
        rw [most, Option.bind_some, e4, abs_eq _ (by omega) (by omega), Option.bind_some, e2, e3]
        by_cases h1 : max a b ≥ rt
        · rw [if_pos h1]
          by_cases h2 : max (a - b) (-(a - b)) ≥ 2
          · rw [if_pos h2, show ended rt a b = true from decide_eq_true ⟨by omega, by omega⟩, if_pos rfl]
          · rw [if_neg h2, show ended rt a b = false from decide_eq_false (fun h => h2 (by have := h.2; omega)), if_neg Bool.false_ne_true]
        · rw [if_neg h1, show ended rt a b = false from decide_eq_false (fun h => h1 (by have := h.1; omega)), if_neg Bool.false_ne_true]
      by_cases he : ended rt a b = true
      · rw [if_pos he]
        exact Ev.step (f := fun _ => some (a, b, ((i - fr + 1 : Nat) : Int), true)) (fun k => by rw [hgo k, if_pos he]) (Ev.now _)
      · rw [if_neg he]
        exact Ev.step (fun k => by rw [hgo k, if_neg he]) hi1
    by_cases h97 : bt s (i : Int) = 97
    · have h := j1 (a + 1) b (by omega) (by omega) hb (by omega)
      refine Ev.step (f := fun k => spec_tnPlay.j1 k s (fr : Int) (a + 1) b (i : Int) rt 2) (fun k => ?_) ?_
      · simp only [spec_tnPlay.l0]
        rw [if_pos (by omega), if_pos (by omega), if_pos h97, w64 (i := a + 1) (by omega) (by omega)]
      · simp only [bits, h97, decide_true, pl, if_true]
        by_cases he : ended rt (a + 1) b = true
        · simp only [he, if_true] at h ⊢; exact h
        · simp only [he, if_false] at h ⊢; exact h
    · have h := j1 a (b + 1) ha (by omega) (by omega) (by omega)
      refine Ev.step (f := fun k => spec_tnPlay.j1 k s (fr : Int) a (b + 1) (i : Int) rt 2) (fun k => ?_) ?_
      · simp only [spec_tnPlay.l0]
        rw [if_pos (by omega), if_pos (by omega), if_neg h97, w64 (i := b + 1) (by omega) (by omega)]
      · simp only [bits, h97, decide_false, pl, Bool.false_eq_true, if_false]
        by_cases he : ended rt a (b + 1) = true
        · simp only [he, if_true] at h ⊢; exact h
        · simp only [he, if_false, Bool.false_eq_true] at h ⊢; exact h

end Go.Proofs.YtjnkcgddalbojaaDoor.Pure
