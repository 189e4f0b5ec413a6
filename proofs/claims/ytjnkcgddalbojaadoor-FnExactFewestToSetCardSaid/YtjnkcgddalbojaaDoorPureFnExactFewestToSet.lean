/- For every text of points and every side, the program's FewestToSet answers what the reference's answers. (The pure statement behind the row: over numbers and lists alone.) -/
import Derived.Test.YtjnkcgddalbojaaDoorPAx45
import Derived.Test.YtjnkcgddalbojaaDoorPAx44
import Derived.Test.YtjnkcgddalbojaaDoorPAx42
import Derived.Test.YtjnkcgddalbojaaDoorPAx2039
import Derived.Test.YtjnkcgddalbojaaDoorPAx1009
import Derived.Test.YtjnkcgddalbojaaDoorPAx9
import Derived.Test.YtjnkcgddalbojaaDoorPAx7
import Derived.Test.YtjnkcgddalbojaaDoorPAx18
import Derived.Test.YtjnkcgddalbojaaDoorPAx8
import Derived.Test.YtjnkcgddalbojaaDoorPAx14
import Derived.Test.YtjnkcgddalbojaaDoorPAx2
import Derived.Test.YtjnkcgddalbojaaDoorPAx2001
import Derived.KernelRfl
import Derived.Laws.Strings
import Derived.Test.YtjnkcgddalbojaaDoorPAx16
import Derived.Test.YtjnkcgddalbojaaDoorPAx1022
import Derived.Test.YtjnkcgddalbojaaDoorPAx1029
import Derived.Test.YtjnkcgddalbojaaDoorPAx11
import Derived.Test.YtjnkcgddalbojaaDoorPAx1006
import Derived.Test.YtjnkcgddalbojaaDoorPAx23
import Derived.Test.YtjnkcgddalbojaaDoorPAx3
import Derived.Test.YtjnkcgddalbojaaDoorPAx5
import Derived.Test.YtjnkcgddalbojaaDoorPAx6
set_option linter.unusedSimpArgs false
set_option linter.unusedVariables false
namespace Go.Proofs.YtjnkcgddalbojaaDoor.Pure
open Go.RowKit Go.Proofs.YtjnkcgddalbojaaDoor.PA Go.Proofs.YtjnkcgddalbojaaDoorW.PrintWords Go.Proofs.YtjnkcgddalbojaaDoorW.PrintLast Go.Proofs.YtjnkcgddalbojaaDoorW.PrintMore

theorem w64 {i : Int} (h0 : -9223372036854775808 ≤ i) (h : i ≤ 9223372036854775807) : wrap64 i = i := by unfold wrap64; omega
theorem toList_mk (l : List UInt8) : (⟨l.toArray⟩ : ByteArray).toList = l := by rw [ByteArray.toList_eq]
theorem drop_nil (p : UInt8 → Bool) (m : List UInt8) (h : ∀ x ∈ m.dropWhile p, p x = true) : m.dropWhile p = [] := by
  induction m with
  | nil => rfl
  | cons a m ih =>
    by_cases ha : p a = true
    · rw [List.dropWhile_cons_of_pos ha] at h ⊢
      exact ih h
    · rw [List.dropWhile_cons_of_neg ha] at h
      exact absurd (h a (List.mem_cons_self ..)) ha
theorem drop_iff (p : UInt8 → Bool) (m : List UInt8) : m.dropWhile p = [] ↔ ∀ x ∈ m, p x = true := by
  induction m with
  | nil => simp
  | cons a m ih =>
    by_cases ha : p a = true
    · rw [List.dropWhile_cons_of_pos ha, ih]
      simp [ha]
    · rw [List.dropWhile_cons_of_neg ha]
      simp [ha]
theorem trim_nil (l cs : List UInt8) : Lib.trimS l cs = [] ↔ ∀ b ∈ l, cs.contains b = true := by
  unfold Lib.trimS Lib.trimLeftS Lib.trimRightS
  rw [drop_iff]
  constructor
  · intro h
    have h1 := drop_nil (cs.contains ·) l.reverse (fun x hx => h x (List.mem_reverse.2 hx))
    rw [drop_iff] at h1
    exact fun b hb => h1 b (List.mem_reverse.2 hb)
  · intro h x hx
    have h1 : l.reverse.dropWhile (cs.contains ·) = [] := (drop_iff _ _).2 (fun b hb => h b (List.mem_reverse.1 hb))
    rw [h1] at hx
    cases hx
theorem bytes_all (s : ByteArray) (p : UInt8 → Prop) : (∀ b ∈ s.data.toList, p b) ↔ ∀ (j : Nat) (h : j < s.size), p s[j] := by
  constructor
  · intro h j hj
    exact h _ (Array.getElem_mem_toList (xs := s.data) hj)
  · intro h b hb
    obtain ⟨i, hi, e⟩ := List.getElem_of_mem hb
    rw [← e]
    exact h i (by rw [Array.length_toList] at hi; exact hi)
theorem bt_get (s : ByteArray) (j : Nat) (h : j < s.size) : bt s (j : Int) = ((s[j]'h).toNat : Int) := by
  have := bt_at s (j : Int) (by simpa using h)
  rw [← this]
  rfl
/-! ### Points -/
def pt (s : ByteArray) (j : Nat) : Prop := bt s (j : Int) = 97 ∨ bt s (j : Int) = 98
instance (s : ByteArray) (j : Nat) : Decidable (pt s j) := by unfold pt; infer_instance
def pts (s : ByteArray) : Prop := ∀ j, j < s.size → pt s j
instance (s : ByteArray) : Decidable (pts s) := Nat.decidableBallLT s.size (fun j _ => pt s j)
def ptsB (m : Int) (s : ByteArray) : Bool := decide ((s.size : Int) ≤ m ∧ pts s)
theorem points_l0 (s : ByteArray) (hs : s.size ≤ 140737488351232) (d : Nat) : ∀ i : Nat, i + d = s.size →
    ((∀ j, i ≤ j → j < s.size → pt s j) → Ev (fun k => spec_tnPoints.l0 k s (i : Int)) true) ∧ (¬ (∀ j, i ≤ j → j < s.size → pt s j) → Ev (fun k => spec_tnPoints.l0 k s (i : Int)) false) := by
  induction d with
  | zero =>
    intro i hi
    refine ⟨fun _ => Ev.step (f := fun _ => some true) (fun k => ?_) (Ev.now _), fun h => absurd (fun j h1 h2 => by omega) h⟩
    simp only [spec_tnPoints.l0]; rw [if_neg (by omega)]
  | succ d ih =>
    intro i hi
    obtain ⟨h1, h2⟩ := ih (i + 1) (by omega)
    by_cases ho : pt s i
    · have step : ∀ k, spec_tnPoints.l0 (k + 1) s (i : Int) = spec_tnPoints.l0 k s ((i + 1 : Nat) : Int) := by
        intro k
        simp only [spec_tnPoints.l0]
        rw [if_pos (by omega), if_pos (by omega), w64 (i := (i : Int) + 1) (by omega) (by omega)]
        rcases ho with e | e
        · rw [if_pos e]; rfl
        · rw [if_neg (by omega), if_pos e]; rfl
      refine ⟨fun h => Ev.step step (h1 (fun j hj => h j (by omega))), fun h => Ev.step step (h2 (fun h' => h (fun j hj hjs => ?_)))⟩
      by_cases e : j = i
      · rw [e]; exact ho
      · exact h' j (by omega) hjs
    · refine ⟨fun h => absurd (h i (Nat.le_refl _) (by omega)) ho, fun _ => Ev.step (f := fun _ => some false) (fun k => ?_) (Ev.now _)⟩
      simp only [spec_tnPoints.l0]
      rw [if_pos (by omega), if_pos (by omega), if_neg (fun e => ho (.inl e)), if_neg (fun e => ho (.inr e))]
theorem points (s : ByteArray) (hs : s.size ≤ 140737488351232) : Ev (fun k => spec_tnPoints.f k s) (ptsB 300 s) := by
  by_cases h : (s.size : Int) > 300
  · have e : ptsB 300 s = false := decide_eq_false (fun h' => by have := h'.1; omega)
    rw [e]
    exact Ev.congr (f := fun _ => some false) (fun k => by unfold spec_tnPoints.f; rw [if_pos h]) (Ev.now _)
  · obtain ⟨h1, h2⟩ := points_l0 s hs s.size 0 (by omega)
    by_cases hp : pts s
    · have e : ptsB 300 s = true := decide_eq_true ⟨by omega, hp⟩
      rw [e]
      exact Ev.congr (fun k => by unfold spec_tnPoints.f; rw [if_neg h]; rfl) (h1 (fun j _ hj => hp j hj))
    · have e : ptsB 300 s = false := decide_eq_false (fun h' => hp h'.2)
      rw [e]
      exact Ev.congr (fun k => by unfold spec_tnPoints.f; rw [if_neg h]; rfl) (h2 (fun h' => hp (fun j hj => h' j (Nat.zero_le _) hj)))
theorem ab (b : UInt8) : ([97, 98] : List UInt8).contains b = true ↔ ((b.toNat : Int) = 97 ∨ (b.toNat : Int) = 98) := by
  have key : ∀ n : Fin 256, ([97, 98] : List UInt8).contains (UInt8.ofNat n.val) = decide ((n.val : Int) = 97 ∨ (n.val : Int) = 98) := by decide +kernel
  have h := key ⟨b.toNat, b.toNat_lt⟩
  simp only [UInt8.ofNat_toNat] at h
  rw [h, decide_eq_true_iff]
theorem trim_pts (s : ByteArray) : Lib.trimS s.data.toList [97, 98] = [] ↔ pts s := by
  rw [trim_nil, bytes_all s (fun b => ([97, 98] : List UInt8).contains b = true)]
  constructor
  · intro h j hj
    unfold pt
    rw [bt_get s j hj]
    exact (ab _).1 (h j hj)
  · intro h j hj
    have := h j hj
    unfold pt at this
    rw [bt_get s j hj] at this
    exact (ab _).2 this
theorem isPoints (s : ByteArray) (hs : s.size ≤ 140737488351232) (m : Int) : impl_isPoints.f s m = some (ptsB m s) := by
  unfold impl_isPoints.f
  by_cases h : (s.size : Int) ≤ m
  · have e : strings_Trim.f s (⟨#[97, 98]⟩ : ByteArray) = some ⟨(Lib.trimS s.data.toList [97, 98]).toArray⟩ := by
      unfold strings_Trim.f
      rw [if_pos ⟨by omega, by decide, by decide⟩]
    rw [if_pos h, e, Option.bind_some, toList_mk]
    by_cases hp : pts s
    · rw [(trim_pts s).2 hp, show ptsB m s = true from decide_eq_true ⟨h, hp⟩]; rfl
    · rw [show ptsB m s = false from decide_eq_false (fun h' => hp h'.2), beq_eq_false_iff_ne.2 (fun e => hp ((trim_pts s).1 e))]
  · rw [if_neg h, show ptsB m s = false from decide_eq_false (fun h' => h h'.1)]
/-! ### A race -/
def ended (rt a b : Int) : Bool := decide ((rt ≤ a ∨ rt ≤ b) ∧ (2 ≤ a - b ∨ 2 ≤ b - a))
/-- What a play of a race comes to: the points of both, how many points, has it ended. -/
def pl (rt : Int) : Int → Int → List Bool → Int × Int × Nat × Bool
  | a, b, [] => (a, b, 0, false)
  | a, b, c :: l => if ended rt (if c then a + 1 else a) (if c then b else b + 1) then (if c then a + 1 else a, if c then b else b + 1, 1, true)
      else ((pl rt (if c then a + 1 else a) (if c then b else b + 1) l).1, (pl rt (if c then a + 1 else a) (if c then b else b + 1) l).2.1, (pl rt (if c then a + 1 else a) (if c then b else b + 1) l).2.2.1 + 1, (pl rt (if c then a + 1 else a) (if c then b else b + 1) l).2.2.2)
def bits (s : ByteArray) (i : Nat) : Nat → List Bool
  | 0 => []
  | d + 1 => decide (bt s (i : Int) = 97) :: bits s (i + 1) d
theorem pl_many (rt : Int) (l : List Bool) : ∀ a b, (pl rt a b l).2.2.1 ≤ l.length ∧ ((pl rt a b l).2.2.2 = false → (pl rt a b l).2.2.1 = l.length) := by
  induction l with
  | nil => intro a b; exact ⟨Nat.le_refl _, fun _ => rfl⟩
  | cons c l ih =>
    intro a b
    simp only [pl]
    by_cases he : ended rt (if c then a + 1 else a) (if c then b else b + 1) = true
    · rw [if_pos he]
      exact ⟨by simp, fun h => by cases h⟩
    · rw [if_neg he]
      have h := ih (if c then a + 1 else a) (if c then b else b + 1)
      exact ⟨by simp only [List.length_cons]; omega, fun h2 => by simp only [List.length_cons]; rw [h.2 h2]⟩
theorem bits_length (s : ByteArray) (d : Nat) : ∀ i, (bits s i d).length = d := by
  induction d with
  | zero => intro i; rfl
  | succ d ih => intro i; simp only [bits, List.length_cons, ih]
theorem most (a b : Int) : spec_l1Most.f a b = some (max a b) := by
  unfold spec_l1Most.f
  by_cases h : a > b
  · rw [if_pos h, Int.max_eq_left (by omega)]
  · rw [if_neg h, Int.max_eq_right (by omega)]
theorem abs_eq (a : Int) (h0 : -9223372036854775807 ≤ a) (h1 : a ≤ 9223372036854775807) : spec_l1Abs.f a = some (max a (-a)) := by
  unfold spec_l1Abs.f
  rw [w64 (by omega) (by omega), most]; rfl
theorem play_l0 (s : ByteArray) (hs : s.size ≤ 140737488351232) (fr : Nat) (rt : Int) (d : Nat) : ∀ (i : Nat) (a b : Int), i + d = s.size → fr ≤ i → 0 ≤ a → a ≤ i → 0 ≤ b → b ≤ i →
    Ev (fun k => spec_tnPlay.l0 k s (fr : Int) a b (i : Int) rt 2) ((pl rt a b (bits s i d)).1, (pl rt a b (bits s i d)).2.1, ((i - fr + (pl rt a b (bits s i d)).2.2.1 : Nat) : Int), (pl rt a b (bits s i d)).2.2.2) := by
  induction d with
  | zero =>
    intro i a b hi hf ha ha2 hb hb2
    refine Ev.step (f := fun _ => some (a, b, ((i - fr + 0 : Nat) : Int), false)) (fun k => ?_) (Ev.now _)
    simp only [spec_tnPlay.l0]
    rw [if_neg (by omega), w64 (by omega) (by omega)]
    congr 4
    omega
  | succ d ih =>
    intro i a b hi hf ha ha2 hb hb2
    have j1 : ∀ (a b : Int), 0 ≤ a → a ≤ i + 1 → 0 ≤ b → b ≤ i + 1 → Ev (fun k => spec_tnPlay.j1 k s (fr : Int) a b (i : Int) rt 2) (if ended rt a b then (a, b, ((i - fr + 1 : Nat) : Int), true) else ((pl rt a b (bits s (i + 1) d)).1, (pl rt a b (bits s (i + 1) d)).2.1, ((i - fr + ((pl rt a b (bits s (i + 1) d)).2.2.1 + 1) : Nat) : Int), (pl rt a b (bits s (i + 1) d)).2.2.2)) := by
      intro a b ha ha2 hb hb2
      have e2 : wrap64 ((i : Int) + 1) = ((i + 1 : Nat) : Int) := by rw [w64 (by omega) (by omega)]; rfl
      have e3 : wrap64 (((i + 1 : Nat) : Int) - (fr : Int)) = ((i - fr + 1 : Nat) : Int) := by rw [w64 (by omega) (by omega)]; omega
      have e4 : wrap64 (a - b) = a - b := w64 (by omega) (by omega)
      have hi1 := ih (i + 1) a b (by omega) (by omega) ha (by omega) hb (by omega)
      have e5 : (i + 1 - fr + (pl rt a b (bits s (i + 1) d)).2.2.1) = (i - fr + ((pl rt a b (bits s (i + 1) d)).2.2.1 + 1)) := by omega
      rw [e5] at hi1
      have hgo : ∀ k, spec_tnPlay.j1 (k + 1) s (fr : Int) a b (i : Int) rt 2 = if ended rt a b then some (a, b, ((i - fr + 1 : Nat) : Int), true) else spec_tnPlay.l0 k s (fr : Int) a b ((i + 1 : Nat) : Int) rt 2 := by
        intro k
        simp only [spec_tnPlay.j1]
        rw [most, Option.bind_some, e4, abs_eq _ (by omega) (by omega), Option.bind_some, e2, e3]
        by_cases h1 : max a b ≥ rt
        · rw [if_pos h1]
          by_cases h2 : max (a - b) (-(a - b)) ≥ 2
          · rw [if_pos h2, show ended rt a b = true from decide_eq_true ⟨by omega, by omega⟩, if_pos rfl]
          · rw [if_neg h2, show ended rt a b = false from decide_eq_false (fun h => h2 (by have := h.2; omega)), if_neg Bool.false_ne_true]
        · rw [if_neg h1, show ended rt a b = false from decide_eq_false (fun h => h1 (by have := h.1; omega)), if_neg Bool.false_ne_true]
      by_cases he : ended rt a b = true
      · rw [if_pos he]
        exact Ev.step (f := fun _ => some (a, b, ((i - fr + 1 : Nat) : Int), true)) (fun k => by rw [hgo k, if_pos he]) (Ev.now _)
      · rw [if_neg he]
        exact Ev.step (fun k => by rw [hgo k, if_neg he]) hi1
    by_cases h97 : bt s (i : Int) = 97
    · have h := j1 (a + 1) b (by omega) (by omega) hb (by omega)
      refine Ev.step (f := fun k => spec_tnPlay.j1 k s (fr : Int) (a + 1) b (i : Int) rt 2) (fun k => ?_) ?_
      · simp only [spec_tnPlay.l0]
        rw [if_pos (by omega), if_pos (by omega), if_pos h97, w64 (i := a + 1) (by omega) (by omega)]
      · simp only [bits, h97, decide_true, pl, if_true]
        by_cases he : ended rt (a + 1) b = true
        · simp only [he, if_true] at h ⊢; exact h
        · simp only [he, if_false] at h ⊢; exact h
    · have h := j1 a (b + 1) ha (by omega) (by omega) (by omega)
      refine Ev.step (f := fun k => spec_tnPlay.j1 k s (fr : Int) a (b + 1) (i : Int) rt 2) (fun k => ?_) ?_
      · simp only [spec_tnPlay.l0]
        rw [if_pos (by omega), if_pos (by omega), if_neg h97, w64 (i := b + 1) (by omega) (by omega)]
      · simp only [bits, h97, decide_false, pl, Bool.false_eq_true, if_false]
        by_cases he : ended rt a (b + 1) = true
        · simp only [he, if_true] at h ⊢; exact h
        · simp only [he, if_false, Bool.false_eq_true] at h ⊢; exact h
/-! ### The program's follow -/
theorem decode_pt (s : ByteArray) (i : Nat) (h : i < s.size) (hp : pt s i) : ((Utf8.decode s i).1 : Int) = bt s (i : Int) ∧ (Utf8.decode s i).2 = 1 := by
  have e := bt_get s i h
  have ha : (s[i]'h).toNat < 128 := by unfold pt at hp; omega
  rw [decode_ascii s i h ha, e]
  exact ⟨rfl, rfl⟩
theorem won_eq (rt a b : Int) (ha : 0 ≤ a) (ha2 : a ≤ 140737488351232) (hb : 0 ≤ b) (hb2 : b ≤ 140737488351232) : impl_Race_hasWon.f rt 2 a b = some (decide (rt ≤ a ∧ 2 ≤ a - b)) := by
  unfold impl_Race_hasWon.f
  rw [w64 (i := a - b) (by omega) (by omega)]
  by_cases h : a ≥ rt
  · rw [if_pos h]
    by_cases h2 : a - b ≥ 2
    · rw [decide_eq_true h2, decide_eq_true ⟨h, h2⟩]
    · rw [decide_eq_false h2, decide_eq_false (fun h' => h2 h'.2)]
  · rw [if_neg h, decide_eq_false (fun h' => h h'.1)]
theorem follow_won (s : ByteArray) (hp : pts s) (rt : Int) (d : Nat) : ∀ (i k : Nat) (a b : Int) (x play : Bool), i + d = s.size → d < k →
    ∃ x' y', impl_follow.l0 k rt 2 s i a b (some x) play = some (x', y', some x, if d = 0 then play else false) ∧ (d = 0 → x' = a ∧ y' = b) := by
  induction d with
  | zero =>
    intro i k a b x play hi hk
    obtain ⟨k, rfl⟩ : ∃ m, k = m + 1 := ⟨k - 1, by omega⟩
    refine ⟨a, b, ?_, fun _ => ⟨rfl, rfl⟩⟩
    simp only [impl_follow.l0]
    rw [if_neg (by omega)]
    rfl
  | succ d ih =>
    intro i k a b x play hi hk
    obtain ⟨k, rfl⟩ : ∃ m, k = m + 1 := ⟨k - 1, by omega⟩
    obtain ⟨e1, e2⟩ := decode_pt s i (by omega) (hp i (by omega))
    by_cases h97 : bt s (i : Int) = 97
    · obtain ⟨x', y', h, _⟩ := ih (i + 1) k (wrap64 (a + 1)) b x false (by omega) (by omega)
      refine ⟨x', y', ?_, fun h => by cases h⟩
      simp only [impl_follow.l0]
      rw [if_pos (by omega), e1, e2, if_pos h97]
      simp only [impl_follow.next]
      rw [h]
      simp
    · obtain ⟨x', y', h, _⟩ := ih (i + 1) k a (wrap64 (b + 1)) x false (by omega) (by omega)
      refine ⟨x', y', ?_, fun h => by cases h⟩
      simp only [impl_follow.l0]
      rw [if_pos (by omega), e1, e2, if_neg h97]
      simp only [impl_follow.next]
      rw [h]
      simp
/-- Who has won a race that a play has come to. -/
def who (r : Int × Int × Nat × Bool) : Option Bool := if r.2.2.2 = true then some (decide (r.1 > r.2.1)) else none
theorem follow_l0 (s : ByteArray) (hp : pts s) (hs : s.size ≤ 140737488351232) (rt : Int) (hrt : 0 < rt) (d : Nat) : ∀ (i k : Nat) (a b : Int), i + d = s.size → d < k → 0 ≤ a → a ≤ i → 0 ≤ b → b ≤ i →
    ∃ x y w p, impl_follow.l0 k rt 2 s i a b none true = some (x, y, w, p) ∧ p = decide ((pl rt a b (bits s i d)).2.2.1 = d) ∧ (p = true → x = (pl rt a b (bits s i d)).1 ∧ y = (pl rt a b (bits s i d)).2.1 ∧ w = who (pl rt a b (bits s i d))) := by
  induction d with
  | zero =>
    intro i k a b hi hk ha ha2 hb hb2
    obtain ⟨k, rfl⟩ : ∃ m, k = m + 1 := ⟨k - 1, by omega⟩
    refine ⟨a, b, none, true, ?_, rfl, fun _ => ⟨rfl, rfl, rfl⟩⟩
    simp only [impl_follow.l0]
    rw [if_neg (by omega)]
  | succ d ih =>
    intro i k a b hi hk ha ha2 hb hb2
    obtain ⟨k, rfl⟩ : ∃ m, k = m + 1 := ⟨k - 1, by omega⟩
    obtain ⟨e1, e2⟩ := decode_pt s i (by omega) (hp i (by omega))
    have key : ∀ (a' b' : Int), 0 ≤ a' → a' ≤ i + 1 → 0 ≤ b' → b' ≤ i + 1 → ∀ r : Int × Int × Nat × Bool, r = (if ended rt a' b' then (a', b', 1, true) else ((pl rt a' b' (bits s (i + 1) d)).1, (pl rt a' b' (bits s (i + 1) d)).2.1, (pl rt a' b' (bits s (i + 1) d)).2.2.1 + 1, (pl rt a' b' (bits s (i + 1) d)).2.2.2)) →
        ∃ x y w p, impl_follow.next (impl_follow.l0 k rt 2 s (i + 1)) rt 2 a' b' none true = some (x, y, w, p) ∧ p = decide (r.2.2.1 = d + 1) ∧ (p = true → x = r.1 ∧ y = r.2.1 ∧ w = who r) := by
      intro a' b' ha' ha2' hb' hb2' r hr
      simp only [impl_follow.next]
      rw [won_eq rt a' b' ha' (by omega) hb' (by omega), won_eq rt b' a' hb' (by omega) ha' (by omega), Option.bind_some, Option.bind_some]
      by_cases h1 : rt ≤ a' ∧ 2 ≤ a' - b'
      · have he : ended rt a' b' = true := decide_eq_true ⟨.inl h1.1, .inl h1.2⟩
        rw [if_pos he] at hr
        subst hr
        rw [decide_eq_true h1, if_pos rfl]
        obtain ⟨x', y', h, h0⟩ := follow_won s hp rt d (i + 1) k a' b' true true (by omega) (by omega)
        refine ⟨x', y', _, _, h, ?_, fun hd => ?_⟩
        · by_cases hd : d = 0
          · subst hd; rfl
          · rw [if_neg hd]; exact (decide_eq_false (show ¬ ((1 : Nat) = d + 1) by omega)).symm
        · by_cases hd0 : d = 0
          · obtain ⟨rfl, rfl⟩ := h0 hd0
            refine ⟨rfl, rfl, ?_⟩
            show some true = (if true = true then some (decide (x' > y')) else none)
            rw [if_pos rfl, decide_eq_true (by omega)]
          · rw [if_neg hd0] at hd; cases hd
      · rw [decide_eq_false h1, if_neg Bool.false_ne_true]
        by_cases h2 : rt ≤ b' ∧ 2 ≤ b' - a'
        · have he : ended rt a' b' = true := decide_eq_true ⟨.inr h2.1, .inr h2.2⟩
          rw [if_pos he] at hr
          subst hr
          rw [decide_eq_true h2, if_pos rfl]
          obtain ⟨x', y', h, h0⟩ := follow_won s hp rt d (i + 1) k a' b' false true (by omega) (by omega)
          refine ⟨x', y', _, _, h, ?_, fun hd => ?_⟩
          · by_cases hd : d = 0
            · subst hd; rfl
            · rw [if_neg hd]; exact (decide_eq_false (show ¬ ((1 : Nat) = d + 1) by omega)).symm
          · by_cases hd0 : d = 0
            · obtain ⟨rfl, rfl⟩ := h0 hd0
              refine ⟨rfl, rfl, ?_⟩
              show some false = (if true = true then some (decide (x' > y')) else none)
              rw [if_pos rfl, decide_eq_false (by omega)]
            · rw [if_neg hd0] at hd; cases hd
        · have he : ended rt a' b' = false := decide_eq_false (fun h => by have := h.1; have := h.2; omega)
          rw [he, if_neg Bool.false_ne_true] at hr
          rw [decide_eq_false h2, if_neg Bool.false_ne_true]
          obtain ⟨x, y, w, p, h, hpp, hw⟩ := ih (i + 1) k a' b' (by omega) (by omega) ha' (by omega) hb' (by omega)
          refine ⟨x, y, w, p, h, ?_, fun hp1 => ?_⟩
          · rw [hpp, hr]
            simp
          · obtain ⟨h3, h4, h5⟩ := hw hp1
            rw [hr]
            exact ⟨h3, h4, h5⟩
    by_cases h97 : bt s (i : Int) = 97
    · have h := key (a + 1) b (by omega) (by omega) hb (by omega) _ rfl
      obtain ⟨x, y, w, p, h, hpp, hw⟩ := h
      refine ⟨x, y, w, p, ?_, ?_, ?_⟩
      · simp only [impl_follow.l0]
        rw [if_pos (by omega), e1, e2, if_pos h97, w64 (i := a + 1) (by omega) (by omega)]
        exact h
      · rw [hpp]; simp only [bits, h97, decide_true, pl, if_true]
      · intro hp1; have := hw hp1; simp only [bits, h97, decide_true, pl, if_true]; exact this
    · have h := key a (b + 1) ha (by omega) (by omega) (by omega) _ rfl
      obtain ⟨x, y, w, p, h, hpp, hw⟩ := h
      refine ⟨x, y, w, p, ?_, ?_, ?_⟩
      · simp only [impl_follow.l0]
        rw [if_pos (by omega), e1, e2, if_neg h97, w64 (i := b + 1) (by omega) (by omega)]
        exact h
      · rw [hpp]; simp only [bits, h97, decide_false, pl, Bool.false_eq_true, if_false]
      · intro hp1; have := hw hp1; simp only [bits, h97, decide_false, pl, Bool.false_eq_true, if_false]; exact this
def run (rt : Int) (s : ByteArray) : Int × Int × Nat × Bool := pl rt 0 0 (bits s 0 s.size)
theorem follow_g (s : ByteArray) (hp : pts s) (hs : s.size ≤ 140737488351232) (rt : Int) (hrt : 0 < rt) :
    ∃ x y w p, impl_follow.g rt 2 s = some (x, y, w, p) ∧ p = decide ((run rt s).2.2.1 = s.size) ∧ (p = true → x = (run rt s).1 ∧ y = (run rt s).2.1 ∧ w = who (run rt s)) :=
  follow_l0 s hp hs rt hrt s.size 0 (s.size + 1) 0 0 (by omega) (by omega) (by omega) (by omega) (by omega) (by omega)
theorem follow_f (s : ByteArray) (hp : pts s) (hs : s.size ≤ 140737488351232) (rt : Int) (hrt : 0 < rt) :
    ∃ x y w p, impl_follow.f rt 2 s = some (x, y, wtxt w, p) ∧ p = decide ((run rt s).2.2.1 = s.size) ∧ (p = true → x = (run rt s).1 ∧ y = (run rt s).2.1 ∧ w = who (run rt s)) := by
  obtain ⟨x, y, w, p, h, h2, h3⟩ := follow_g s hp hs rt hrt
  exact ⟨x, y, w, p, impl_follow.of_g h, h2, h3⟩
theorem play (s : ByteArray) (hs : s.size ≤ 140737488351232) (rt : Int) : Ev (fun k => spec_tnPlay.f k rt 2 s 0) ((run rt s).1, (run rt s).2.1, ((run rt s).2.2.1 : Int), (run rt s).2.2.2) := by
  have h := play_l0 s hs 0 rt s.size 0 0 0 (by omega) (by omega) (by omega) (by omega) (by omega) (by omega)
  have e : (0 - 0 + (pl rt 0 0 (bits s 0 s.size)).2.2.1) = (run rt s).2.2.1 := by unfold run; omega
  rw [e] at h
  exact h
def isGame (rt : Int) (s : ByteArray) : Bool := ptsB 300 s && decide ((run rt s).2.2.1 = s.size)
theorem tnIs (s : ByteArray) (hs : s.size ≤ 140737488351232) (rt : Int) : Ev (fun k => spec_tnIs.f k rt 2 s) (isGame rt s) := by
  refine Ev.bind (play s hs rt) (Ev.bind (points s hs) ?_)
  unfold isGame
  cases ptsB 300 s
  · exact Ev.congr (f := fun _ => some false) (fun k => by rw [if_neg Bool.false_ne_true]) (Ev.now _)
  · refine Ev.congr (f := fun _ => some (decide ((run rt s).2.2.1 = s.size))) (fun k => ?_) (Ev.now _)
    rw [if_pos rfl]
    congr 1
    show (((run rt s).2.2.1 : Int) == (s.size : Int)) = _
    by_cases h : (run rt s).2.2.1 = s.size
    · rw [h, decide_eq_true rfl]; exact beq_self_eq_true _
    · rw [decide_eq_false h]; exact beq_eq_false_iff_ne.2 (by omega)
theorem game (s : ByteArray) (hs : s.size ≤ 140737488351232) : impl_IsTennisGame.f s = some (isGame 4 s) := by
  unfold impl_IsTennisGame.f
  rw [isPoints s hs, Option.bind_some]
  unfold isGame
  by_cases h : ptsB 300 s = true
  · have hp : pts s := (of_decide_eq_true h).2
    obtain ⟨x, y, w, p, hf, h2, _⟩ := follow_f s hp hs 4 (by omega)
    rw [h, if_pos rfl]
    simp only [impl_tennis.f, Option.bind_some]
    rw [hf, Option.bind_some, h2]
    simp
  · rw [Bool.not_eq_true] at h
    rw [h, if_neg Bool.false_ne_true]
    rfl
/-! ### Games -/
/-- Whose a set is with so many games. -/
def ov (a b : Int) : Option Bool := if a = 7 ∨ 6 ≤ a ∧ 2 ≤ a - b then some true else if b = 7 ∨ 6 ≤ b ∧ 2 ≤ b - a then some false else none
def inv (a b : Int) : Prop := 0 ≤ a ∧ a ≤ 7 ∧ 0 ≤ b ∧ b ≤ 7 ∧ (a ≤ 6 ∨ b ≤ 6)
theorem setOver (k : Nat) (a b : Int) (h : inv a b) : impl_setOver.f (k + 1) a b = some (wtxt (ov a b)) := by
  obtain ⟨h1, h2, h3, h4, h5⟩ := h
  have e1 : wrap64 (a - b) = a - b := w64 (by omega) (by omega)
  have e2 : wrap64 (b - a) = b - a := w64 (by omega) (by omega)
  unfold impl_setOver.f ov
  simp only [impl_setOver.j0]
  rw [e1, e2]
  by_cases ha : a = 7
  · rw [if_pos ha, if_pos (Or.inl ha)]; rfl
  · rw [if_neg ha]
    by_cases ha6 : a ≥ 6
    · rw [if_pos ha6]
      by_cases hd : a - b ≥ 2
      · rw [decide_eq_true hd, if_pos rfl, if_pos (Or.inr ⟨ha6, hd⟩)]; rfl
      · rw [decide_eq_false hd, if_neg Bool.false_ne_true, if_neg (show ¬ (a = 7 ∨ 6 ≤ a ∧ 2 ≤ a - b) by omega)]
        by_cases hb : b = 7
        · rw [if_pos hb, if_pos (Or.inl hb)]; rfl
        · rw [if_neg hb]
          by_cases hb6 : b ≥ 6
          · rw [if_pos hb6]
            by_cases hd2 : b - a ≥ 2
            · rw [if_pos hd2, if_pos (Or.inr ⟨hb6, hd2⟩)]; rfl
            · rw [if_neg hd2, if_neg (show ¬ (b = 7 ∨ 6 ≤ b ∧ 2 ≤ b - a) by omega)]; rfl
          · rw [if_neg hb6, if_neg (show ¬ (b = 7 ∨ 6 ≤ b ∧ 2 ≤ b - a) by omega)]; rfl
    · rw [if_neg ha6, if_neg Bool.false_ne_true, if_neg (show ¬ (a = 7 ∨ 6 ≤ a ∧ 2 ≤ a - b) by omega)]
      by_cases hb : b = 7
      · rw [if_pos hb, if_pos (Or.inl hb)]; rfl
      · rw [if_neg hb]
        by_cases hb6 : b ≥ 6
        · rw [if_pos hb6]
          by_cases hd2 : b - a ≥ 2
          · rw [if_pos hd2, if_pos (Or.inr ⟨hb6, hd2⟩)]; rfl
          · rw [if_neg hd2, if_neg (show ¬ (b = 7 ∨ 6 ≤ b ∧ 2 ≤ b - a) by omega)]; rfl
        · rw [if_neg hb6, if_neg (show ¬ (b = 7 ∨ 6 ≤ b ∧ 2 ≤ b - a) by omega)]; rfl
theorem ov_none {a b : Int} : ov a b = none ↔ ¬ (a = 7 ∨ 6 ≤ a ∧ 2 ≤ a - b) ∧ ¬ (b = 7 ∨ 6 ≤ b ∧ 2 ≤ b - a) := by
  unfold ov
  by_cases h1 : a = 7 ∨ 6 ≤ a ∧ 2 ≤ a - b
  · rw [if_pos h1]; exact ⟨fun h => (by cases h), fun h => absurd h1 h.1⟩
  · rw [if_neg h1]
    by_cases h2 : b = 7 ∨ 6 ≤ b ∧ 2 ≤ b - a
    · rw [if_pos h2]; exact ⟨fun h => (by cases h), fun h => absurd h2 h.2⟩
    · rw [if_neg h2]; exact ⟨fun _ => ⟨h1, h2⟩, fun _ => rfl⟩
theorem tnOver (a b : Int) (h : inv a b) : spec_tnOver.f a b = some (ov a b).isSome := by
  obtain ⟨h1, h2, h3, h4, h5⟩ := h
  have e4 : wrap64 (a - b) = a - b := w64 (by omega) (by omega)
  unfold spec_tnOver.f
  rw [most, Option.bind_some, e4, abs_eq _ (by omega) (by omega), Option.bind_some, Option.bind_some]
  cases ho : ov a b with
  | none =>
    have h0 := ov_none.1 ho
    by_cases h6 : max a b ≥ 6
    · rw [if_pos h6, if_neg (by omega), beq_eq_false_iff_ne.2 (by omega)]; rfl
    · rw [if_neg h6, beq_eq_false_iff_ne.2 (by omega)]; rfl
  | some x =>
    have h0 : ¬ (¬ (a = 7 ∨ 6 ≤ a ∧ 2 ≤ a - b) ∧ ¬ (b = 7 ∨ 6 ≤ b ∧ 2 ≤ b - a)) := fun h => by rw [ov_none.2 h] at ho; cases ho
    rw [if_pos (by omega)]
    by_cases hd : max (a - b) (-(a - b)) ≥ 2
    · rw [if_pos hd]; rfl
    · rw [if_neg hd, beq_iff_eq.2 (show max a b = 7 by omega)]; rfl
theorem inv_next {a b : Int} (h : inv a b) (ho : ov a b = none) : inv (a + 1) b ∧ inv a (b + 1) := by
  have h0 := ov_none.1 ho
  unfold inv at h ⊢
  omega
/-- How many games among the first n are won by a. -/
def cnt (s : ByteArray) : Nat → Int
  | 0 => 0
  | n + 1 => cnt s n + if bt s (n : Int) = 97 then 1 else 0
theorem cnt_le (s : ByteArray) (n : Nat) : 0 ≤ cnt s n ∧ cnt s n ≤ n := by
  induction n with
  | zero => exact ⟨Int.le_refl _, Int.le_refl _⟩
  | succ n ih =>
    simp only [cnt]
    by_cases h : bt s (n : Int) = 97
    · rw [if_pos h]; omega
    · rw [if_neg h]; omega
theorem won_l0 (s : ByteArray) (hs : s.size ≤ 140737488351232) (d : Nat) : ∀ i : Nat, i + d = s.size → Ev (fun k => spec_tnWon.l0 k s (cnt s i) (i : Int)) (cnt s s.size, (s.size : Int) - cnt s s.size) := by
  induction d with
  | zero =>
    intro i hi
    obtain rfl : i = s.size := by omega
    have hc := cnt_le s s.size
    refine Ev.step (f := fun _ => some (cnt s s.size, (s.size : Int) - cnt s s.size)) (fun k => ?_) (Ev.now _)
    simp only [spec_tnWon.l0]
    rw [if_neg (by omega), w64 (by omega) (by omega)]
  | succ d ih =>
    intro i hi
    have hc := cnt_le s i
    refine Ev.step (fun k => ?_) (ih (i + 1) (by omega))
    simp only [spec_tnWon.l0]
    rw [if_pos (by omega), if_pos (by omega), w64 (i := (i : Int) + 1) (by omega) (by omega)]
    simp only [cnt]
    by_cases h : bt s (i : Int) = 97
    · rw [if_pos h, if_pos h, w64 (by omega) (by omega)]; rfl
    · rw [if_neg h, if_neg h, Int.add_zero]; rfl
theorem won (s : ByteArray) (hs : s.size ≤ 140737488351232) : Ev (fun k => spec_tnWon.f k s) (cnt s s.size, (s.size : Int) - cnt s s.size) := won_l0 s hs s.size 0 (by omega)
theorem bt_extract (s : ByteArray) (i e j : Nat) (hj : i + j < e) (he : e ≤ s.size) : bt (s.extract i e) (j : Int) = bt s ((i + j : Nat) : Int) := by
  have h1 : j < (s.extract i e).size := by rw [ByteArray.size_extract]; omega
  rw [bt_get _ j h1, bt_get s (i + j) (by omega)]
  congr 2
  exact ByteArray.getElem_extract ..
theorem cnt_prefix (s : ByteArray) (e : Nat) (he : e ≤ s.size) (n : Nat) (hn : n ≤ e) : cnt (s.extract 0 e) n = cnt s n := by
  induction n with
  | zero => rfl
  | succ n ih =>
    simp only [cnt]
    rw [ih (by omega), bt_extract s 0 e n (by omega) he, Nat.zero_add]
theorem won_prefix (s : ByteArray) (hs : s.size ≤ 140737488351232) (e : Nat) (he : e ≤ s.size) : Ev (fun k => spec_tnWon.f k (s.extract 0 e)) (cnt s e, (e : Int) - cnt s e) := by
  have hz : (s.extract 0 e).size = e := by rw [ByteArray.size_extract]; omega
  have h := won (s.extract 0 e) (by omega)
  rw [hz, cnt_prefix s e he e (Nat.le_refl _)] at h
  exact h
/-- What a play of a game that has not ended, or just so, can come to. -/
def fine (r : Int × Int × Nat × Bool) : Prop := 0 ≤ r.1 ∧ 0 ≤ r.2.1 ∧ r.1 ≤ 1000 ∧ r.2.1 ≤ 1000 ∧ (r.2.2.2 = ended 4 r.1 r.2.1)
theorem pl_fine (l : List Bool) : ∀ a b : Int, 0 ≤ a → 0 ≤ b → a + l.length ≤ 1000 → b + l.length ≤ 1000 → ended 4 a b = false → fine (pl 4 a b l) := by
  induction l with
  | nil => intro a b ha hb h1 h2 he; exact ⟨ha, hb, by simp only [pl]; simp only [List.length_nil] at h1; omega, by simp only [pl]; simp only [List.length_nil] at h2; omega, he.symm⟩
  | cons c l ih =>
    intro a b ha hb h1 h2 he
    simp only [List.length_cons] at h1 h2
    simp only [pl]
    have ha' : 0 ≤ (if c then a + 1 else a) ∧ (if c then a + 1 else a) ≤ a + 1 := by cases c <;> simp <;> omega
    have hb' : 0 ≤ (if c then b else b + 1) ∧ (if c then b else b + 1) ≤ b + 1 := by cases c <;> simp <;> omega
    by_cases h : ended 4 (if c then a + 1 else a) (if c then b else b + 1) = true
    · rw [if_pos h]
      exact ⟨ha'.1, hb'.1, by show (if c then a + 1 else a) ≤ 1000; omega, by show (if c then b else b + 1) ≤ 1000; omega, h.symm⟩
    · rw [if_neg h]
      exact ih _ _ ha'.1 hb'.1 (by omega) (by omega) (by simpa using h)
theorem txt_l (x : List UInt8) : (⟨x.toArray⟩ : ByteArray).toList = x := toList_mk x
/-- How a game stands that has not ended. -/
def stands (a b : Int) : Option (ByteArray × Bool) := impl_GameStands.j0 1 (decide (a < 3 ∨ b < 3)) a b (wtxt none) true
theorem j0_k (k : Nat) (c : Bool) (a b : Int) (w : ByteArray) (p : Bool) (w' : ByteArray) (p' : Bool) : impl_GameStands.j0 (k + 1) c a b w p = impl_GameStands.j0 1 c a b w' p' := by
  simp only [impl_GameStands.j0]
theorem small_all : (List.range 4).all (fun i => (List.range 4).all (fun j => !(decide (i < 3 ∨ j < 3)) || decide ((spec_tnStands.f 9 (i : Int) (j : Int)).map (fun t => (t, true)) = impl_GameStands.j0 1 true (i : Int) (j : Int) ⟨#[45]⟩ true))) = true := by kernel_rfl
theorem small_some : (List.range 4).all (fun i => (List.range 4).all (fun j => !(decide (i < 3 ∨ j < 3)) || (spec_tnStands.f 9 (i : Int) (j : Int)).isSome)) = true := by kernel_rfl
theorem open_eq (a b : Int) (h0 : 0 ≤ a) (h1 : 0 ≤ b) (h2 : a ≤ 1000) (h3 : b ≤ 1000) (he : ended 4 a b = false) : ∃ t, Ev (fun k => spec_tnStands.f k a b) t ∧ ∀ k, impl_GameStands.j0 (k + 1) (decide (a < 3 ∨ b < 3)) a b ⟨#[45]⟩ true = some (t, true) := by
  have he' : ¬ ((4 ≤ a ∨ 4 ≤ b) ∧ (2 ≤ a - b ∨ 2 ≤ b - a)) := of_decide_eq_false he
  by_cases hs : a < 3 ∨ b < 3
  · obtain ⟨i, rfl⟩ : ∃ i : Nat, a = (i : Int) := ⟨a.toNat, by omega⟩
    obtain ⟨j, rfl⟩ : ∃ j : Nat, b = (j : Int) := ⟨b.toNat, by omega⟩
    have hi : i < 4 := by omega
    have hj : j < 4 := by omega
    have g1 := List.all_eq_true.1 (List.all_eq_true.1 small_all i (List.mem_range.2 hi)) j (List.mem_range.2 hj)
    have g2 := List.all_eq_true.1 (List.all_eq_true.1 small_some i (List.mem_range.2 hi)) j (List.mem_range.2 hj)
    rw [decide_eq_true (show i < 3 ∨ j < 3 by omega), Bool.not_true, Bool.false_or] at g1 g2
    obtain ⟨t, ht⟩ := Option.isSome_iff_exists.1 g2
    have g3 := of_decide_eq_true g1
    rw [ht] at g3
    refine ⟨t, Ev.of (fun k => spec_tnStands.mono _ _ k) ht, fun k => ?_⟩
    rw [decide_eq_true hs, j0_k k _ _ _ _ _ ⟨#[45]⟩ true]
    exact g3.symm
  · have e1 : wrap64 (b + 2) = b + 2 := w64 (by omega) (by omega)
    have e2 : wrap64 (a + 2) = a + 2 := w64 (by omega) (by omega)
    have hj0 : ∀ k, spec_tnStands.j0 (k + 1) a b false = spec_tnStands.j1 k a b false := by
      intro k
      simp only [spec_tnStands.j0]
      rw [if_neg Bool.false_ne_true, most, Option.bind_some, e2]
      by_cases hm : max a b ≥ 4
      · rw [if_pos hm, decide_eq_false (by omega)]
      · rw [if_neg hm]
    have hf : ∀ k, spec_tnStands.f (k + 2) a b = spec_tnStands.j2 k a b (decide (a = b)) := by
      intro k
      unfold spec_tnStands.f
      rw [most, Option.bind_some, e1]
      have : (if max a b ≥ 4 then spec_tnStands.j0 (k + 2) a b (decide (a ≥ b + 2)) else spec_tnStands.j0 (k + 2) a b false) = spec_tnStands.j0 (k + 2) a b false := by
        by_cases hm : max a b ≥ 4
        · rw [if_pos hm, decide_eq_false (by omega)]
        · rw [if_neg hm]
      rw [this, hj0 (k + 1)]
      simp only [spec_tnStands.j1]
      rw [if_neg Bool.false_ne_true, if_pos (by omega)]
      by_cases hab : a = b
      · rw [decide_eq_true hab, beq_iff_eq.2 hab]
      · rw [decide_eq_false hab, beq_eq_false_iff_ne.2 hab]
    have hi : ∀ k, impl_GameStands.j0 (k + 1) (decide (a < 3 ∨ b < 3)) a b ⟨#[45]⟩ true = (if a = b then some (⟨#[61]⟩, true) else if a > b then some (⟨#[65]⟩, true) else some (⟨#[66]⟩, true)) := by
      intro k
      simp only [impl_GameStands.j0]
      rw [decide_eq_false hs, if_neg Bool.false_ne_true]
    by_cases hab : a = b
    · refine ⟨⟨#[61]⟩, Ev.step (f := fun k => spec_tnStands.f (k + 1) a b) (fun k => rfl) (Ev.step (f := fun k => spec_tnStands.j2 k a b (decide (a = b))) (fun k => hf k) (Ev.step (f := fun _ => some ⟨#[61]⟩) (fun k => ?_) (Ev.now _))), fun k => by rw [hi, if_pos hab]⟩
      simp only [spec_tnStands.j2]; rw [decide_eq_true hab, if_pos rfl]
    · by_cases hgt : a > b
      · refine ⟨⟨#[65]⟩, Ev.step (f := fun k => spec_tnStands.f (k + 1) a b) (fun k => rfl) (Ev.step (f := fun k => spec_tnStands.j2 k a b (decide (a = b))) (fun k => hf k) (Ev.step (f := fun k => spec_tnStands.j3 k a b true) (fun k => ?_) (Ev.step (f := fun _ => some ⟨#[65]⟩) (fun k => ?_) (Ev.now _)))), fun k => by rw [hi, if_neg hab, if_pos hgt]⟩
        · simp only [spec_tnStands.j2]; rw [decide_eq_false hab, if_neg Bool.false_ne_true, if_pos (by omega), decide_eq_true hgt]
        · simp only [spec_tnStands.j3]; rw [if_pos trivial]
      · refine ⟨⟨#[66]⟩, Ev.step (f := fun k => spec_tnStands.f (k + 1) a b) (fun k => rfl) (Ev.step (f := fun k => spec_tnStands.j2 k a b (decide (a = b))) (fun k => hf k) (Ev.step (f := fun k => spec_tnStands.j3 k a b false) (fun k => ?_) (Ev.step (f := fun _ => some ⟨#[66]⟩) (fun k => ?_) (Ev.now _)))), fun k => by rw [hi, if_neg hab, if_neg hgt]⟩
        · simp only [spec_tnStands.j2]; rw [decide_eq_false hab, if_neg Bool.false_ne_true, if_pos (by omega), decide_eq_false hgt]
        · simp only [spec_tnStands.j3]; rw [if_neg Bool.false_ne_true, if_pos (by omega), if_pos (by omega)]
theorem over_eq (a b : Int) (h0 : 0 ≤ a) (h1 : 0 ≤ b) (h2 : a ≤ 1000) (h3 : b ≤ 1000) (he : ended 4 a b = true) : Ev (fun k => spec_tnStands.f k a b) (wtxt (some (decide (a > b)))) := by
  have he' : (4 ≤ a ∨ 4 ≤ b) ∧ (2 ≤ a - b ∨ 2 ≤ b - a) := of_decide_eq_true he
  have e1 : wrap64 (b + 2) = b + 2 := w64 (by omega) (by omega)
  have e2 : wrap64 (a + 2) = a + 2 := w64 (by omega) (by omega)
  by_cases hgt : a > b
  · rw [decide_eq_true hgt]
    refine Ev.congr (f := fun k => spec_tnStands.j0 k a b true) (fun k => ?_) (Ev.step (f := fun _ => some ⟨#[97]⟩) (fun k => ?_) (Ev.now _))
    · unfold spec_tnStands.f; rw [most, Option.bind_some, e1, if_pos (by omega), decide_eq_true (by omega)]
    · simp only [spec_tnStands.j0]; rw [if_pos trivial]
  · rw [decide_eq_false hgt]
    refine Ev.congr (f := fun k => spec_tnStands.j0 k a b false) (fun k => ?_) (Ev.step (f := fun k => spec_tnStands.j1 k a b true) (fun k => ?_) (Ev.step (f := fun _ => some ⟨#[98]⟩) (fun k => ?_) (Ev.now _)))
    · unfold spec_tnStands.f; rw [most, Option.bind_some, e1, if_pos (by omega), decide_eq_false (by omega)]
    · simp only [spec_tnStands.j0]; rw [if_neg Bool.false_ne_true, most, Option.bind_some, e2, if_pos (by omega), decide_eq_true (by omega)]
    · simp only [spec_tnStands.j1]; rw [if_pos trivial]
/-! ### Texts of numbers -/
theorem num_ends (n : Nat) : ∀ a : Nat, a ≤ n → a ≤ 1000 → ∃ t, Ev (fun k => spec_l1Num.f k (a : Int)) t ∧ t.size ≤ a + 1 := by
  induction n with
  | zero =>
    intro a h _
    obtain rfl : a = 0 := by omega
    exact ⟨_, Ev.step (f := fun _ => some (strOfNums [(wrap64 (48 + ((0 : Nat) : Int))) % 256])) (fun k => by simp only [spec_l1Num.f]; rw [if_pos (by omega)]) (Ev.now _), by show 1 ≤ _; omega⟩
  | succ n ih =>
    intro a h h1000
    by_cases h10 : a < 10
    · exact ⟨_, Ev.step (f := fun _ => some (strOfNums [(wrap64 (48 + (a : Int))) % 256])) (fun k => by simp only [spec_l1Num.f]; rw [if_pos (by omega)]) (Ev.now _), by show 1 ≤ _; omega⟩
    · obtain ⟨t, ht, hz⟩ := ih (a / 10) (by omega) (by omega)
      have e : wrap64 (Int.tdiv (a : Int) 10) = ((a / 10 : Nat) : Int) := by
        rw [Int.tdiv_eq_ediv_of_nonneg (by omega), w64 (by omega) (by omega)]; omega
      have hz1 : (strOfNums [(wrap64 (48 + (Int.tmod (a : Int) 10))) % 256]).size = 1 := rfl
      refine ⟨t ++ strOfNums [(wrap64 (48 + (Int.tmod (a : Int) 10))) % 256], Ev.step (f := fun k => (spec_l1Num.f k ((a / 10 : Nat) : Int)).bind fun t122 => some (t122 ++ strOfNums [(wrap64 (48 + (Int.tmod (a : Int) 10))) % 256])) (fun k => ?_) (Ev.bind ht (Ev.now _)), ?_⟩
      · simp only [spec_l1Num.f]
        rw [if_neg (by omega), e]
        cases hk : spec_l1Num.f k ((a / 10 : Nat) : Int) with
        | none => rfl
        | some u =>
          simp only [Option.bind_some]
          have : u = t := by
            obtain ⟨K, hK⟩ := ht
            have h1 := hK (max K k) (Nat.le_max_left ..)
            have h2 := at_rounds (g := fun k => spec_l1Num.f k ((a / 10 : Nat) : Int)) (fun k => spec_l1Num.mono _ k) (Nat.le_max_right K k) hk
            simp only at h1 h2
            rw [h1] at h2
            exact (Option.some.inj h2).symm
          rw [if_pos (by rw [this, hz1]; omega)]
      · rw [ByteArray.size_append, hz1]; omega
theorem tie_ends (a b : Nat) (ha : a ≤ 1000) (hb : b ≤ 1000) : ∃ t, Ev (fun k => spec_tnTieStands.f k (a : Int) (b : Int) false) t := by
  obtain ⟨t, ht, hz⟩ := num_ends a a (Nat.le_refl _) ha
  obtain ⟨u, hu, hy⟩ := num_ends b b (Nat.le_refl _) hb
  refine ⟨(t ++ ⟨#[58]⟩) ++ u, Ev.bind ht ?_⟩
  refine Ev.congr (f := fun k => (spec_l1Num.f k (b : Int)).bind fun t127 => (if (t ++ (⟨#[58]⟩ : ByteArray)).size + t127.size ≤ 9223372036854775807 then (if false = true then (if ((t ++ (⟨#[58]⟩ : ByteArray)) ++ t127).size + 1 ≤ 9223372036854775807 then (some (((t ++ (⟨#[58]⟩ : ByteArray)) ++ t127) ++ (⟨#[33]⟩ : ByteArray))) else (none)) else (some ((t ++ (⟨#[58]⟩ : ByteArray)) ++ t127))) else (none))) (fun k => by rw [if_pos (by omega)]) (Ev.bind hu (Ev.congr (fun k => ?_) (Ev.now _)))
  rw [if_pos (by rw [ByteArray.size_append, show (⟨#[58]⟩ : ByteArray).size = 1 from rfl]; omega), if_neg Bool.false_ne_true]
/-! ### Parts of a play -/
theorem bits_take (s : ByteArray) (m : Nat) : ∀ i d, m ≤ d → (bits s i d).take m = bits s i m := by
  induction m with
  | zero => intro i d _; rfl
  | succ m ih =>
    intro i d h
    obtain ⟨d, rfl⟩ : ∃ e, d = e + 1 := ⟨d - 1, by omega⟩
    simp only [bits, List.take_succ_cons]
    rw [ih (i + 1) d (by omega)]
theorem bits_extract (s : ByteArray) (i e : Nat) (he : e ≤ s.size) (n : Nat) : ∀ j, i + j + n ≤ e → bits (s.extract i e) j n = bits s (i + j) n := by
  induction n with
  | zero => intro j _; rfl
  | succ n ih =>
    intro j h
    simp only [bits]
    rw [ih (j + 1) (by omega), bt_extract s i e j (by omega) he]
    rfl
theorem pl_bd (rt : Int) (l : List Bool) : ∀ a b : Int, a ≤ (pl rt a b l).1 ∧ (pl rt a b l).1 ≤ a + l.length ∧ b ≤ (pl rt a b l).2.1 ∧ (pl rt a b l).2.1 ≤ b + l.length ∧ ((pl rt a b l).2.2.2 = true → 1 ≤ (pl rt a b l).2.2.1) := by
  induction l with
  | nil => intro a b; simp only [pl, List.length_nil]; exact ⟨by omega, by omega, by omega, by omega, fun h => by cases h⟩
  | cons c l ih =>
    intro a b
    simp only [pl, List.length_cons]
    have ha' : a ≤ (if c then a + 1 else a) ∧ (if c then a + 1 else a) ≤ a + 1 := by cases c <;> simp <;> omega
    have hb' : b ≤ (if c then b else b + 1) ∧ (if c then b else b + 1) ≤ b + 1 := by cases c <;> simp <;> omega
    by_cases h : ended rt (if c then a + 1 else a) (if c then b else b + 1) = true
    · rw [if_pos h]; exact ⟨ha'.1, by show (if c then a + 1 else a) ≤ _; omega, hb'.1, by show (if c then b else b + 1) ≤ _; omega, fun _ => Nat.le_refl _⟩
    · rw [if_neg h]
      obtain ⟨h1, h2, h3, h4, h5⟩ := ih (if c then a + 1 else a) (if c then b else b + 1)
      exact ⟨by show a ≤ (pl rt _ _ l).1; omega, by show (pl rt _ _ l).1 ≤ _; omega, by show b ≤ (pl rt _ _ l).2.1; omega, by show (pl rt _ _ l).2.1 ≤ _; omega, fun _ => by show 1 ≤ _ + 1; omega⟩
theorem pl_take (rt : Int) (l : List Bool) : ∀ (a b : Int) (m : Nat), m ≤ l.length → ((m < (pl rt a b l).2.2.1 ∨ (pl rt a b l).2.2.2 = false) → (pl rt a b (l.take m)).2.2.2 = false) ∧ ((pl rt a b l).2.2.2 = true → m = (pl rt a b l).2.2.1 → pl rt a b (l.take m) = pl rt a b l) := by
  induction l with
  | nil => intro a b m hm; rw [List.take_nil]; exact ⟨fun _ => rfl, fun _ _ => rfl⟩
  | cons c l ih =>
    intro a b m hm
    cases m with
    | zero =>
      refine ⟨fun _ => rfl, fun h1 h2 => ?_⟩
      have := (pl_bd rt (c :: l) a b).2.2.2.2 h1
      omega
    | succ m =>
      simp only [List.length_cons] at hm
      obtain ⟨h1, h2⟩ := ih (if c then a + 1 else a) (if c then b else b + 1) m (by omega)
      simp only [List.take_succ_cons, pl]
      by_cases h : ended rt (if c then a + 1 else a) (if c then b else b + 1) = true
      · simp only [if_pos h]
        exact ⟨fun h' => h'.elim (fun h' => absurd h' (by omega)) (fun h' => by cases h'), fun _ _ => trivial⟩
      · simp only [if_neg h]
        refine ⟨fun h' => h1 (h'.elim (fun h' => .inl (by omega)) .inr), fun h3 h4 => ?_⟩
        rw [h2 h3 (by omega)]
theorem fol_none (s : ByteArray) (hp : pts s) (hs : s.size ≤ 140737488351232) (rt : Int) (hrt : 0 < rt) (i d : Nat) (hi : i + d = s.size) (m : Nat) (hm : m ≤ d) (h : m < (pl rt 0 0 (bits s i d)).2.2.1 ∨ (pl rt 0 0 (bits s i d)).2.2.2 = false) :
    ∃ q1 q2 q4, impl_follow.g rt 2 (s.extract i (i + m)) = some (q1, q2, none, q4) := by
  have hz : (s.extract i (i + m)).size = m := by rw [ByteArray.size_extract]; omega
  have hpt : pts (s.extract i (i + m)) := fun j hj => by unfold pt; rw [bt_extract s i (i + m) j (by omega) (by omega)]; exact hp (i + j) (by omega)
  obtain ⟨x, y, w, p, hg, h2, h3⟩ := follow_g (s.extract i (i + m)) hpt (by omega) rt hrt
  have hr : run rt (s.extract i (i + m)) = pl rt 0 0 ((bits s i d).take m) := by
    unfold run
    rw [hz, bits_extract s i (i + m) (by omega) m 0 (by omega), bits_take s m i d hm]; rfl
  have he := (pl_take rt (bits s i d) 0 0 m (by rw [bits_length]; exact hm)).1 h
  have hmany := (pl_many rt ((bits s i d).take m) 0 0).2 he
  rw [List.length_take, bits_length] at hmany
  have hp1 : p = true := by rw [h2, hr, hz, hmany, decide_eq_true (by omega)]
  obtain ⟨_, _, rfl⟩ := h3 hp1
  have hw : who (run rt (s.extract i (i + m))) = none := by unfold who; rw [hr, he]; rfl
  rw [hw] at hg
  exact ⟨_, _, _, hg⟩
theorem fol_some (s : ByteArray) (hp : pts s) (hs : s.size ≤ 140737488351232) (rt : Int) (hrt : 0 < rt) (i d : Nat) (hi : i + d = s.size) (h : (pl rt 0 0 (bits s i d)).2.2.2 = true) :
    ∃ q1 q2 q4, impl_follow.g rt 2 (s.extract i (i + (pl rt 0 0 (bits s i d)).2.2.1)) = some (q1, q2, some (decide ((pl rt 0 0 (bits s i d)).1 > (pl rt 0 0 (bits s i d)).2.1)), q4) := by
  have hm := (pl_many rt (bits s i d) 0 0).1
  rw [bits_length] at hm
  generalize hmm : (pl rt 0 0 (bits s i d)).2.2.1 = m at hm ⊢
  have hz : (s.extract i (i + m)).size = m := by rw [ByteArray.size_extract]; omega
  have hpt : pts (s.extract i (i + m)) := fun j hj => by unfold pt; rw [bt_extract s i (i + m) j (by omega) (by omega)]; exact hp (i + j) (by omega)
  obtain ⟨x, y, w, p, hg, h2, h3⟩ := follow_g (s.extract i (i + m)) hpt (by omega) rt hrt
  have hr : run rt (s.extract i (i + m)) = pl rt 0 0 (bits s i d) := by
    unfold run
    rw [hz, bits_extract s i (i + m) (by omega) m 0 (by omega), ← bits_take s m (i + 0) d hm]
    exact (pl_take rt (bits s i d) 0 0 m (by rw [bits_length]; exact hm)).2 h hmm.symm
  have hp1 : p = true := by rw [h2, hr, hz, hmm, decide_eq_true rfl]
  obtain ⟨_, _, rfl⟩ := h3 hp1
  have hw : who (run rt (s.extract i (i + m))) = some (decide ((pl rt 0 0 (bits s i d)).1 > (pl rt 0 0 (bits s i d)).2.1)) := by unfold who; rw [hr, h]; rfl
  rw [hw] at hg
  exact ⟨_, _, _, hg⟩
theorem extract_nil (s : ByteArray) (i : Nat) : s.extract i i = ⟨#[]⟩ := by
  apply ByteArray.ext
  rw [ByteArray.data_extract]
  simp [Nat.min_le_left]
theorem extract_snoc (s : ByteArray) (i e : Nat) (h : i ≤ e) (he : e < s.size) : s.extract i e ++ s.extract e (e + 1) = s.extract i (e + 1) := by
  apply ByteArray.ext
  rw [ByteArray.data_append, ByteArray.data_extract, ByteArray.data_extract, ByteArray.data_extract, Array.extract_append_extract]
  congr 1 <;> omega
/-! ### Sets -/
def rtOf (a b : Int) : Int := if a = 6 ∧ b = 6 then 7 else 4
def bkA (s : ByteArray) : Nat → Int
  | 0 => 0
  | n + 1 => bkA s n + if n < 12 ∧ n % 2 = 1 ∧ bt s (n : Int) = 97 then 1 else 0
def bkB (s : ByteArray) : Nat → Int
  | 0 => 0
  | n + 1 => bkB s n + if n < 12 ∧ n % 2 = 0 ∧ bt s (n : Int) = 98 then 1 else 0
/-- How a set stands: the winners of its games, the games, the breaks. -/
structure St (g : ByteArray) (a b x y : Int) : Prop where
  iv : inv a b
  sz : (g.size : Int) = a + b
  ca : cnt g g.size = a
  xa : x = bkA g g.size
  yb : y = bkB g g.size
theorem bk_le (s : ByteArray) (n : Nat) : 0 ≤ bkA s n ∧ bkA s n ≤ n ∧ 0 ≤ bkB s n ∧ bkB s n ≤ n := by
  induction n with
  | zero => simp [bkA, bkB]
  | succ n ih =>
    simp only [bkA, bkB]
    by_cases h1 : n < 12 ∧ n % 2 = 1 ∧ bt s (n : Int) = 97
    · rw [if_pos h1, if_neg (fun h => by omega)]; omega
    · rw [if_neg h1]
      by_cases h2 : n < 12 ∧ n % 2 = 0 ∧ bt s (n : Int) = 98
      · rw [if_pos h2]; omega
      · rw [if_neg h2]; omega
theorem bt_left (g t : ByteArray) (j : Nat) (h : j < g.size) : bt (g ++ t) (j : Int) = bt g (j : Int) := by
  rw [bt_get _ j (by rw [ByteArray.size_append]; omega), bt_get g j h]
  congr 2
  exact ByteArray.getElem_append_left h
theorem bt_last (g : ByteArray) (c : UInt8) : bt (g ++ ⟨#[c]⟩) (g.size : Int) = (c.toNat : Int) := by
  have h1 : g.size < (g ++ (⟨#[c]⟩ : ByteArray)).size := by rw [ByteArray.size_append]; show g.size < g.size + 1; omega
  rw [bt_get _ g.size h1]
  congr 2
  rw [ByteArray.getElem_append_right (Nat.le_refl _)]
  simp only [Nat.sub_self]
  rfl
theorem snoc_size (g : ByteArray) (c : UInt8) : (g ++ (⟨#[c]⟩ : ByteArray)).size = g.size + 1 := by rw [ByteArray.size_append]; rfl
theorem cnt_left (g t : ByteArray) (n : Nat) (h : n ≤ g.size) : cnt (g ++ t) n = cnt g n ∧ bkA (g ++ t) n = bkA g n ∧ bkB (g ++ t) n = bkB g n := by
  induction n with
  | zero => exact ⟨rfl, rfl, rfl⟩
  | succ n ih =>
    obtain ⟨h1, h2, h3⟩ := ih (by omega)
    simp only [cnt, bkA, bkB]
    rw [h1, h2, h3, bt_left g t n (by omega)]
    exact ⟨rfl, rfl, rfl⟩
theorem St.start : St ⟨#[]⟩ 0 0 0 0 := ⟨by unfold inv; omega, rfl, rfl, rfl, rfl⟩
theorem St.addA {g : ByteArray} {a b x y : Int} (h : St g a b x y) (ho : ov a b = none) : St (g ++ ⟨#[97]⟩) (a + 1) b (if a = 6 ∧ b = 6 then x else if (g.size : Int) % 2 = 0 then x else x + 1) y := by
  obtain ⟨e1, e2, e3⟩ := cnt_left g ⟨#[97]⟩ g.size (Nat.le_refl _)
  have hv := h.iv
  have hn := ov_none.1 ho
  have hs := h.sz
  unfold inv at hv
  refine ⟨(inv_next h.iv ho).1, ?_, ?_, ?_, ?_⟩
  · rw [snoc_size]; omega
  · rw [snoc_size]; simp only [cnt]; rw [bt_last, e1, h.ca, if_pos (show ((97 : UInt8).toNat : Int) = 97 from rfl)]
  · rw [snoc_size]; simp only [bkA]; rw [bt_last, e2, ← h.xa]
    by_cases h6 : a = 6 ∧ b = 6
    · rw [if_pos h6, if_neg (by omega)]; omega
    · rw [if_neg h6]
      by_cases hp : (g.size : Int) % 2 = 0
      · rw [if_pos hp, if_neg (by omega)]; omega
      · rw [if_neg hp, if_pos ⟨by omega, by omega, rfl⟩]
  · rw [snoc_size]; simp only [bkB]; rw [bt_last, e3, ← h.yb, if_neg (fun h => absurd h.2.2 (by decide))]; omega
theorem St.addB {g : ByteArray} {a b x y : Int} (h : St g a b x y) (ho : ov a b = none) : St (g ++ ⟨#[98]⟩) a (b + 1) x (if a = 6 ∧ b = 6 then y else if (g.size : Int) % 2 = 0 then y + 1 else y) := by
  obtain ⟨e1, e2, e3⟩ := cnt_left g ⟨#[98]⟩ g.size (Nat.le_refl _)
  have hv := h.iv
  have hn := ov_none.1 ho
  have hs := h.sz
  unfold inv at hv
  refine ⟨(inv_next h.iv ho).2, ?_, ?_, ?_, ?_⟩
  · rw [snoc_size]; omega
  · rw [snoc_size]; simp only [cnt]; rw [bt_last, e1, h.ca, if_neg (by decide)]; omega
  · rw [snoc_size]; simp only [bkA]; rw [bt_last, e2, ← h.xa, if_neg (fun h => absurd h.2.2 (by decide))]; omega
  · rw [snoc_size]; simp only [bkB]; rw [bt_last, e3, ← h.yb]
    by_cases h6 : a = 6 ∧ b = 6
    · rw [if_pos h6, if_neg (by omega)]; omega
    · rw [if_neg h6]
      by_cases hp : (g.size : Int) % 2 = 0
      · rw [if_pos hp, if_pos ⟨by omega, by omega, rfl⟩]
      · rw [if_neg hp, if_neg (by omega)]; omega
theorem rt_eq (a b : Int) : (if a = 6 ∧ b = 6 then (7 : Int) else 4) = rtOf a b := rfl
theorem rt_pos (a b : Int) : 0 < rtOf a b := by unfold rtOf; split <;> omega
/-- One step of the program's loop. -/
theorem step_eq (s : ByteArray) (k i : Nat) (g : ByteArray) (a b : Int) (o : ByteArray) (x y : Int) (hi : i < s.size) (hv : inv a b) (ho : ov a b = none) (hoz : o.size ≤ 1000) (hgz : g.size ≤ 1000) (w : Option Bool) (q1 q2 : Int) (q4 : Bool) (hf : impl_follow.g (rtOf a b) 2 (o ++ s.extract i (i + 1)) = some (q1, q2, w, q4)) :
    impl_readSet.l0 (k + 1) s i g a b o x y = impl_readSet.next (impl_readSet.l0 k s (i + 1)) g a b (o ++ s.extract i (i + 1)) x y w := by
  simp only [impl_readSet.l0]
  rw [if_pos hi, setOver 1 a b hv, ho, Option.bind_some, if_pos (show (wtxt none).toList = [45] from toList_mk [45]), if_pos ⟨by omega, by omega⟩, rt_eq, hf, Option.bind_some]
theorem grow (s : ByteArray) (hp : pts s) (hs : s.size ≤ 300) (g : ByteArray) (a b x y : Int) (hv : inv a b) (ho : ov a b = none) (hgz : g.size ≤ 1000) (i d : Nat) (hi : i + d = s.size) (e : Nat) : ∀ (j k : Nat), j + e ≤ d → (j + e < (pl (rtOf a b) 0 0 (bits s i d)).2.2.1 ∨ (pl (rtOf a b) 0 0 (bits s i d)).2.2.2 = false) →
    impl_readSet.l0 (k + e) s (i + j) g a b (s.extract i (i + j)) x y = impl_readSet.l0 k s (i + j + e) g a b (s.extract i (i + j + e)) x y := by
  induction e with
  | zero => intro j k _ _; rfl
  | succ e ih =>
    intro j k hj h
    obtain ⟨q1, q2, q4, hf⟩ := fol_none s hp (by omega) (rtOf a b) (rt_pos a b) i d hi (j + 1) (by omega) (h.elim (fun h => .inl (by omega)) .inr)
    have e0 : s.extract i (i + j) ++ s.extract (i + j) (i + j + 1) = s.extract i (i + (j + 1)) := extract_snoc s i (i + j) (by omega) (by omega)
    have hz : (s.extract i (i + j)).size ≤ 1000 := by rw [ByteArray.size_extract]; omega
    have hst := step_eq s (k + e) (i + j) g a b (s.extract i (i + j)) x y (by omega) hv ho hz hgz none q1 q2 q4 (by rw [e0]; exact hf)
    rw [show k + (e + 1) = k + e + 1 from rfl, hst]
    simp only [impl_readSet.next]
    rw [e0]
    have := ih (j + 1) k (by omega) (h.elim (fun h => .inl (by omega)) .inr)
    rw [show i + j + (e + 1) = i + (j + 1) + e by omega]
    exact this
/-! ### The two readings of a set -/
/-- What the reference says of a game that has not ended. -/
def Open (s : ByteArray) (a b : Int) (o st : ByteArray) (at_ : Nat) : Prop := o = s.extract at_ s.size ∧ at_ ≤ s.size ∧ (pl (rtOf a b) 0 0 (bits s at_ (s.size - at_))).2.2.2 = false ∧ (a = 6 ∧ b = 6 → Ev (fun k => spec_tnTieStands.f k (pl (rtOf a b) 0 0 (bits s at_ (s.size - at_))).1 (pl (rtOf a b) 0 0 (bits s at_ (s.size - at_))).2.1 false) st) ∧ (¬ (a = 6 ∧ b = 6) → Ev (fun k => spec_tnStands.f k (pl (rtOf a b) 0 0 (bits s at_ (s.size - at_))).1 (pl (rtOf a b) 0 0 (bits s at_ (s.size - at_))).2.1) st)
/-- What both readings come to. -/
def Both (s : ByteArray) (im : Option (ByteArray × Int × Int × ByteArray × Int × Int × Bool)) (sp : Nat → Option (ByteArray × Int × ByteArray × Bool)) : Prop :=
  (∃ g a b o x y st at_, St g a b x y ∧ im = some (g, a, b, o, x, y, true) ∧ Ev sp (g, (at_ : Nat), st, true) ∧ (ov a b ≠ none → o = ⟨#[]⟩ ∧ st = ⟨#[]⟩) ∧ (ov a b = none → Open s a b o st at_)) ∨
  (im = some (⟨#[]⟩, 0, 0, ⟨#[]⟩, 0, 0, false) ∧ ∃ g at_ st, Ev sp (g, at_, st, false))
theorem spec_step (s : ByteArray) (hs : s.size ≤ 300) (g : ByteArray) (a b x y : Int) (h : St g a b x y) (ho : ov a b = none) (i d : Nat) (hi : i + d = s.size) (R : ByteArray × Int × ByteArray × Bool)
    (hR : Ev (fun k => (fun r : Int × Int × Int × Bool => if r.2.2.2 = true then (if r.1 > r.2.1 then spec_tnSet.l0 k s (g ++ ⟨#[97]⟩) (wrap64 ((i : Int) + r.2.2.1)) (wrap64 (a + 1)) b else spec_tnSet.l0 k s (g ++ ⟨#[98]⟩) (wrap64 ((i : Int) + r.2.2.1)) a (wrap64 (b + 1))) else (if rtOf a b = 7 then (spec_tnTieStands.f k r.1 r.2.1 false).bind fun t142 => some (g, (i : Int), t142, true) else (spec_tnStands.f k r.1 r.2.1).bind fun t143 => some (g, (i : Int), t143, true))) ((pl (rtOf a b) 0 0 (bits s i d)).1, (pl (rtOf a b) 0 0 (bits s i d)).2.1, ((pl (rtOf a b) 0 0 (bits s i d)).2.2.1 : Int), (pl (rtOf a b) 0 0 (bits s i d)).2.2.2)) R) :
    Ev (fun k => spec_tnSet.l0 k s g (i : Int) a b) R := by
  have hv := h.iv
  unfold inv at hv
  have hsz := h.sz
  have hpl := play_l0 s (by omega) i (rtOf a b) d i 0 0 hi (Nat.le_refl _) (by omega) (by omega) (by omega) (by omega)
  rw [Nat.sub_self, Nat.zero_add] at hpl
  have j2 : Ev (fun k => spec_tnSet.j2 k s g (i : Int) a b (rtOf a b) 2) R := by
    refine Ev.step (f := fun k => (spec_tnPlay.f k (rtOf a b) 2 s (i : Int)).bind fun bt138 => (if bt138.2.2.2 = true then (if bt138.1 > bt138.2.1 then (spec_tnSet.l0 k s (g ++ (⟨#[97]⟩ : ByteArray)) (wrap64 ((i : Int) + bt138.2.2.1)) (wrap64 (a + 1)) b) else (spec_tnSet.l0 k s (g ++ (⟨#[98]⟩ : ByteArray)) (wrap64 ((i : Int) + bt138.2.2.1)) a (wrap64 (b + 1)))) else (if rtOf a b = 7 then ((spec_tnTieStands.f k bt138.1 bt138.2.1 false).bind fun t142 => (some (g, (i : Int), t142, true))) else ((spec_tnStands.f k bt138.1 bt138.2.1).bind fun t143 => (some (g, (i : Int), t143, true)))))) (fun k => ?_) (Ev.bind hpl hR)
    have hgz : (g.size + 1 ≤ 9223372036854775807) = True := eq_true (by omega)
    simp only [spec_tnSet.j2, hgz, if_true]
  by_cases h6 : a = 6 ∧ b = 6
  · have hrt : rtOf a b = 7 := if_pos h6
    refine Ev.step (f := fun k => spec_tnSet.j1 k s g (i : Int) a b true 4 2) (fun k => ?_) (Ev.step (fun k => ?_) j2)
    · simp only [spec_tnSet.l0, spec_tnGame.f, Option.bind_some]
      rw [tnOver a b h.iv, ho, Option.bind_some, if_neg (by simp), if_pos h6.1, beq_iff_eq.2 h6.2]
    · simp only [spec_tnSet.j1, spec_tnTie.f, Option.bind_some]
      rw [if_pos trivial, hrt]
  · have hrt : rtOf a b = 4 := if_neg h6
    refine Ev.step (f := fun k => spec_tnSet.j1 k s g (i : Int) a b false 4 2) (fun k => ?_) (Ev.step (fun k => ?_) j2)
    · simp only [spec_tnSet.l0, spec_tnGame.f, Option.bind_some]
      rw [tnOver a b h.iv, ho, Option.bind_some, if_neg (by simp)]
      by_cases ha : a = 6
      · rw [if_pos ha, beq_eq_false_iff_ne.2 (fun hb => h6 ⟨ha, hb⟩)]
      · rw [if_neg ha]
    · simp only [spec_tnSet.j1]
      rw [if_neg Bool.false_ne_true, hrt]
theorem x_le {g : ByteArray} {a b x y : Int} (h : St g a b x y) : 0 ≤ x ∧ x ≤ 14 ∧ 0 ≤ y ∧ y ≤ 14 ∧ g.size ≤ 14 := by
  have hb := bk_le g g.size
  have hv := h.iv
  unfold inv at hv
  have h1 := h.sz
  have h2 := h.xa
  have h3 := h.yb
  omega
theorem next_true (l : ByteArray → Int → Int → ByteArray → Int → Int → Option (ByteArray × Int × Int × ByteArray × Int × Int × Bool)) {g : ByteArray} {a b x y : Int} (h : St g a b x y) (o : ByteArray) : impl_readSet.next l g a b o x y (some true) = l (g ++ ⟨#[97]⟩) (a + 1) b ⟨#[]⟩ (if a = 6 ∧ b = 6 then x else if (g.size : Int) % 2 = 0 then x else x + 1) y := by
  have hv := h.iv
  unfold inv at hv
  have hx := x_le h
  simp only [impl_readSet.next]
  rw [w64 (i := a + 1) (by omega) (by omega), w64 (i := x + 1) (by omega) (by omega)]
  by_cases h6 : a = 6 ∧ b = 6
  · rw [if_pos h6, if_pos h6]
  · rw [if_neg h6, if_neg h6]
    by_cases hp : (g.size : Int) % 2 = 0
    · rw [if_pos hp, if_pos hp]
    · rw [if_neg hp, if_neg hp]
theorem next_false (l : ByteArray → Int → Int → ByteArray → Int → Int → Option (ByteArray × Int × Int × ByteArray × Int × Int × Bool)) {g : ByteArray} {a b x y : Int} (h : St g a b x y) (o : ByteArray) : impl_readSet.next l g a b o x y (some false) = l (g ++ ⟨#[98]⟩) a (b + 1) ⟨#[]⟩ x (if a = 6 ∧ b = 6 then y else if (g.size : Int) % 2 = 0 then y + 1 else y) := by
  have hv := h.iv
  unfold inv at hv
  have hx := x_le h
  simp only [impl_readSet.next]
  rw [w64 (i := b + 1) (by omega) (by omega), w64 (i := y + 1) (by omega) (by omega)]
  by_cases h6 : a = 6 ∧ b = 6
  · rw [if_pos h6, if_pos h6]
  · rw [if_neg h6, if_neg h6]
    by_cases hp : (g.size : Int) % 2 = 0
    · rw [if_pos hp, if_pos hp]
    · rw [if_neg hp, if_neg hp]
theorem one_set (s : ByteArray) (hp : pts s) (hs : s.size ≤ 300) (n : Nat) (ih : ∀ (d : Nat), d < n → ∀ (i k : Nat) (g : ByteArray) (a b x y : Int), i + d = s.size → d < k → St g a b x y → Both s (impl_readSet.l0 k s i g a b ⟨#[]⟩ x y) (fun k => spec_tnSet.l0 k s g (i : Int) a b))
    (i k : Nat) (g : ByteArray) (a b x y : Int) (hi : i + n = s.size) (hk : n < k) (h : St g a b x y) : Both s (impl_readSet.l0 k s i g a b ⟨#[]⟩ x y) (fun k => spec_tnSet.l0 k s g (i : Int) a b) := by
  have hx := x_le h
  cases ho : ov a b with
  | some c =>
    obtain ⟨k, rfl⟩ : ∃ m, k = m + 1 := ⟨k - 1, by omega⟩
    have hne : ¬ (wtxt (some c)).toList = [45] := by
      cases c
      · rw [show (wtxt (some false)).toList = [98] from toList_mk [98]]; decide
      · rw [show (wtxt (some true)).toList = [97] from toList_mk [97]]; decide
    have hsp : Ev (fun k => spec_tnSet.l0 k s g (i : Int) a b) (g, (i : Int), ⟨#[]⟩, ((i : Int) == (s.size : Int))) := by
      refine Ev.step (f := fun _ => some (g, (i : Int), ⟨#[]⟩, ((i : Int) == (s.size : Int)))) (fun k => ?_) (Ev.now _)
      simp only [spec_tnSet.l0]
      rw [tnOver a b h.iv, ho, Option.bind_some, if_pos (by simp)]
    by_cases hlt : i < s.size
    · right
      refine ⟨?_, g, (i : Int), ⟨#[]⟩, ?_⟩
      · simp only [impl_readSet.l0]
        rw [if_pos hlt, setOver 1 a b h.iv, ho, Option.bind_some, if_neg hne]
      · rw [beq_eq_false_iff_ne.2 (show (i : Int) ≠ (s.size : Int) by omega)] at hsp; exact hsp
    · left
      refine ⟨g, a, b, ⟨#[]⟩, x, y, ⟨#[]⟩, i, h, ?_, ?_, fun _ => ⟨rfl, rfl⟩, fun h => by rw [ho] at h; cases h⟩
      · simp only [impl_readSet.l0]
        rw [if_neg hlt]
      · rw [beq_iff_eq.2 (show (i : Int) = (s.size : Int) by omega)] at hsp; exact hsp
  | none =>
    have hbd := pl_bd (rtOf a b) (bits s i n) 0 0
    have hmy := pl_many (rtOf a b) (bits s i n) 0 0
    rw [bits_length] at hbd hmy
    cases hr : (pl (rtOf a b) 0 0 (bits s i n)).2.2.2 with
    | false =>
      left
      have hen : s.size - i = n := by omega
      have hst : ∃ st, (a = 6 ∧ b = 6 → Ev (fun k => spec_tnTieStands.f k (pl (rtOf a b) 0 0 (bits s i n)).1 (pl (rtOf a b) 0 0 (bits s i n)).2.1 false) st) ∧ (¬ (a = 6 ∧ b = 6) → Ev (fun k => spec_tnStands.f k (pl (rtOf a b) 0 0 (bits s i n)).1 (pl (rtOf a b) 0 0 (bits s i n)).2.1) st) := by
        by_cases h6 : a = 6 ∧ b = 6
        · obtain ⟨t, ht⟩ := tie_ends (pl (rtOf a b) 0 0 (bits s i n)).1.toNat (pl (rtOf a b) 0 0 (bits s i n)).2.1.toNat (by omega) (by omega)
          rw [Int.toNat_of_nonneg (by omega), Int.toNat_of_nonneg (by omega)] at ht
          exact ⟨t, fun _ => ht, fun h => absurd h6 h⟩
        · have hrt : rtOf a b = 4 := if_neg h6
          rw [hrt] at hr hbd ⊢
          obtain ⟨f1, f2, f3, f4, f5⟩ := pl_fine (bits s i n) 0 0 (by omega) (by omega) (by rw [bits_length]; omega) (by rw [bits_length]; omega) rfl
          obtain ⟨t, ht, _⟩ := open_eq _ _ f1 f2 f3 f4 (by rw [← f5, hr])
          exact ⟨t, fun h => absurd h h6, fun _ => ht⟩
      obtain ⟨st, hs1, hs2⟩ := hst
      refine ⟨g, a, b, s.extract i s.size, x, y, st, i, h, ?_, ?_, fun h => absurd ho h, fun _ => ⟨rfl, by omega, ?_⟩⟩
      · have hg := grow s hp hs g a b x y h.iv ho (by omega) i n hi n 0 (k - n) (by omega) (.inr hr)
        rw [Nat.sub_add_cancel (by omega)] at hg
        simp only [Nat.add_zero, extract_nil] at hg
        rw [hg]
        obtain ⟨m, hm⟩ : ∃ m, k - n = m + 1 := ⟨k - n - 1, by omega⟩
        rw [hm, hi]
        simp only [impl_readSet.l0]
        rw [if_neg (by omega)]
      · refine spec_step s hs g a b x y h ho i n hi _ ?_
        by_cases h6 : a = 6 ∧ b = 6
        · refine Ev.congr (fun k => ?_) (Ev.bind (f := fun _ t => some (g, (i : Int), t, true)) (hs1 h6) (Ev.now _))
          simp only [hr, Bool.false_eq_true, if_false]
          rw [if_pos (show rtOf a b = 7 from if_pos h6)]
        · refine Ev.congr (fun k => ?_) (Ev.bind (f := fun _ t => some (g, (i : Int), t, true)) (hs2 h6) (Ev.now _))
          simp only [hr, Bool.false_eq_true, if_false]
          rw [if_neg (show ¬ rtOf a b = 7 by rw [show rtOf a b = 4 from if_neg h6]; decide)]
      · rw [hen]
        exact ⟨hr, hs1, hs2⟩
    | true =>
      have hm1 := hbd.2.2.2.2 hr
      have hm2 := hmy.1
      obtain ⟨q1, q2, q4, hf⟩ := fol_some s hp (by omega) (rtOf a b) (rt_pos a b) i n hi hr
      generalize hmm : (pl (rtOf a b) 0 0 (bits s i n)).2.2.1 = m at hm1 hm2 hf
      obtain ⟨m, rfl⟩ : ∃ z, m = z + 1 := ⟨m - 1, by omega⟩
      obtain ⟨k, rfl⟩ : ∃ z, k = z + 1 + m := ⟨k - 1 - m, by omega⟩
      have hg := grow s hp hs g a b x y h.iv ho (by omega) i n hi m 0 (k + 1) (by omega) (.inl (by omega))
      simp only [Nat.add_zero, extract_nil] at hg
      have e0 : s.extract i (i + m) ++ s.extract (i + m) (i + m + 1) = s.extract i (i + (m + 1)) := extract_snoc s i (i + m) (by omega) (by omega)
      have hst := step_eq s k (i + m) g a b (s.extract i (i + m)) x y (by omega) h.iv ho (by rw [ByteArray.size_extract]; omega) (by omega) _ q1 q2 q4 (by rw [e0]; exact hf)
      rw [hg, hst]
      have ew : wrap64 ((i : Int) + ((m + 1 : Nat) : Int)) = ((i + m + 1 : Nat) : Int) := by rw [w64 (by omega) (by omega)]; omega
      have hv := h.iv
      unfold inv at hv
      by_cases hc : (pl (rtOf a b) 0 0 (bits s i n)).1 > (pl (rtOf a b) 0 0 (bits s i n)).2.1
      · rw [decide_eq_true hc, next_true _ h]
        have hI := ih (n - (m + 1)) (by omega) (i + m + 1) k _ _ _ _ _ (by omega) (by omega) (h.addA ho)
        have lift : ∀ R, Ev (fun k => spec_tnSet.l0 k s (g ++ ⟨#[97]⟩) ((i + m + 1 : Nat) : Int) (a + 1) b) R → Ev (fun k => spec_tnSet.l0 k s g (i : Int) a b) R := by
          intro R hR
          refine spec_step s hs g a b x y h ho i n hi R (Ev.congr (fun k => ?_) hR)
          simp only [hr, hmm, if_true]
          rw [if_pos hc, ew, w64 (i := a + 1) (by omega) (by omega)]
        rcases hI with ⟨G, A, B, O, X, Y, st, at_, z1, z2, z3, z4, z5⟩ | ⟨z1, G, at_, st, z2⟩
        · exact .inl ⟨G, A, B, O, X, Y, st, at_, z1, z2, lift _ z3, z4, z5⟩
        · exact .inr ⟨z1, G, at_, st, lift _ z2⟩
      · rw [decide_eq_false hc, next_false _ h]
        have hI := ih (n - (m + 1)) (by omega) (i + m + 1) k _ _ _ _ _ (by omega) (by omega) (h.addB ho)
        have lift : ∀ R, Ev (fun k => spec_tnSet.l0 k s (g ++ ⟨#[98]⟩) ((i + m + 1 : Nat) : Int) a (b + 1)) R → Ev (fun k => spec_tnSet.l0 k s g (i : Int) a b) R := by
          intro R hR
          refine spec_step s hs g a b x y h ho i n hi R (Ev.congr (fun k => ?_) hR)
          simp only [hr, hmm, if_true]
          rw [if_neg hc, ew, w64 (i := b + 1) (by omega) (by omega)]
        rcases hI with ⟨G, A, B, O, X, Y, st, at_, z1, z2, z3, z4, z5⟩ | ⟨z1, G, at_, st, z2⟩
        · exact .inl ⟨G, A, B, O, X, Y, st, at_, z1, z2, lift _ z3, z4, z5⟩
        · exact .inr ⟨z1, G, at_, st, lift _ z2⟩
theorem sets (s : ByteArray) (hp : pts s) (hs : s.size ≤ 300) (n : Nat) : ∀ (i k : Nat) (g : ByteArray) (a b x y : Int), i + n = s.size → n < k → St g a b x y →
    Both s (impl_readSet.l0 k s i g a b ⟨#[]⟩ x y) (fun k => spec_tnSet.l0 k s g (i : Int) a b) := by
  induction n using Nat.strongRecOn with
  | ind n ih => exact one_set s hp hs n ih
/-- The whole: what the program's readSet and the reference's tnGood, tnSet come to. -/
theorem whole (s : ByteArray) (hs : s.size ≤ 140737488351232) : (∃ g a b o x y st at_, St g a b x y ∧ ptsB 300 s = true ∧ impl_readSet.f s = some (g, a, b, o, x, y, true) ∧ Ev (fun k => spec_tnSet.f k s) (g, (at_ : Nat), st, true) ∧ Ev (fun k => spec_tnGood.f k s) true ∧ (ov a b ≠ none → o = ⟨#[]⟩ ∧ st = ⟨#[]⟩) ∧ (ov a b = none → Open s a b o st at_)) ∨
    (impl_readSet.f s = some (⟨#[]⟩, 0, 0, ⟨#[]⟩, 0, 0, false) ∧ Ev (fun k => spec_tnGood.f k s) false) := by
  by_cases h : ptsB 300 s = true
  · have hp := of_decide_eq_true h
    have himpl : impl_readSet.f s = impl_readSet.l0 (s.size + 1) s 0 ⟨#[]⟩ 0 0 ⟨#[]⟩ 0 0 := by
      unfold impl_readSet.f
      rw [isPoints s hs, h, Option.bind_some, if_pos rfl, if_pos (by omega)]
    have hP := points s hs
    rw [h] at hP
    rcases sets s hp.2 (by omega) s.size 0 (s.size + 1) ⟨#[]⟩ 0 0 0 0 (by omega) (by omega) St.start with ⟨g, a, b, o, x, y, st, at_, h1, h2, h3, h4, h5⟩ | ⟨h1, g, at_, st, h2⟩
    · exact .inl ⟨g, a, b, o, x, y, st, at_, h1, h, himpl.trans h2, h3, Ev.bind hP (Ev.congr (fun k => by rw [if_pos rfl]; rfl) (Ev.bind h3 (Ev.now true))), h4, h5⟩
    · exact .inr ⟨himpl.trans h1, Ev.bind hP (Ev.congr (fun k => by rw [if_pos rfl]; rfl) (Ev.bind h2 (Ev.now false)))⟩
  · rw [Bool.not_eq_true] at h
    have hP := points s hs
    rw [h] at hP
    refine .inr ⟨?_, Ev.bind hP (Ev.congr (fun k => by rw [if_neg Bool.false_ne_true]) (Ev.now false))⟩
    unfold impl_readSet.f
    rw [isPoints s hs, h, Option.bind_some, if_neg Bool.false_ne_true]
theorem won_set {g : ByteArray} {a b x y : Int} (h : St g a b x y) : Ev (fun k => spec_tnWon.f k g) (a, b) := by
  have hx := x_le h
  have hw := won g (by omega)
  have hz := h.sz
  rw [h.ca, show (g.size : Int) - a = b by omega] at hw
  exact hw
theorem winner {a b : Int} (h : inv a b) : spec_tnWinner.f a b = some (wtxt (ov a b)) := by
  unfold spec_tnWinner.f
  rw [tnOver a b h, Option.bind_some]
  have hv := h
  unfold inv at hv
  unfold ov
  by_cases h1 : a = 7 ∨ 6 ≤ a ∧ 2 ≤ a - b
  · rw [if_pos h1, if_pos (by rfl), if_pos (by omega)]; rfl
  · rw [if_neg h1]
    by_cases h2 : b = 7 ∨ 6 ≤ b ∧ 2 ≤ b - a
    · rw [if_pos h2, if_pos (by rfl), if_neg (by omega)]; rfl
    · rw [if_neg h2, if_neg (by simp)]; rfl
theorem spec_step2 (s : ByteArray) (hs : s.size ≤ 1000) (g : ByteArray) (a b x y : Int) (h : St g a b x y) (ho : ov a b = none) (i d : Nat) (hi : i + d = s.size) (R : ByteArray × Int × ByteArray × Bool)
    (hR : Ev (fun k => (fun r : Int × Int × Int × Bool => if r.2.2.2 = true then (if r.1 > r.2.1 then spec_tnSet.l0 k s (g ++ ⟨#[97]⟩) (wrap64 ((i : Int) + r.2.2.1)) (wrap64 (a + 1)) b else spec_tnSet.l0 k s (g ++ ⟨#[98]⟩) (wrap64 ((i : Int) + r.2.2.1)) a (wrap64 (b + 1))) else (if rtOf a b = 7 then (spec_tnTieStands.f k r.1 r.2.1 false).bind fun t142 => some (g, (i : Int), t142, true) else (spec_tnStands.f k r.1 r.2.1).bind fun t143 => some (g, (i : Int), t143, true))) ((pl (rtOf a b) 0 0 (bits s i d)).1, (pl (rtOf a b) 0 0 (bits s i d)).2.1, ((pl (rtOf a b) 0 0 (bits s i d)).2.2.1 : Int), (pl (rtOf a b) 0 0 (bits s i d)).2.2.2)) R) :
    Ev (fun k => spec_tnSet.l0 k s g (i : Int) a b) R := by
  have hv := h.iv
  unfold inv at hv
  have hsz := h.sz
  have hpl := play_l0 s (by omega) i (rtOf a b) d i 0 0 hi (Nat.le_refl _) (by omega) (by omega) (by omega) (by omega)
  rw [Nat.sub_self, Nat.zero_add] at hpl
  have j2 : Ev (fun k => spec_tnSet.j2 k s g (i : Int) a b (rtOf a b) 2) R := by
    refine Ev.step (f := fun k => (spec_tnPlay.f k (rtOf a b) 2 s (i : Int)).bind fun bt138 => (if bt138.2.2.2 = true then (if bt138.1 > bt138.2.1 then (spec_tnSet.l0 k s (g ++ (⟨#[97]⟩ : ByteArray)) (wrap64 ((i : Int) + bt138.2.2.1)) (wrap64 (a + 1)) b) else (spec_tnSet.l0 k s (g ++ (⟨#[98]⟩ : ByteArray)) (wrap64 ((i : Int) + bt138.2.2.1)) a (wrap64 (b + 1)))) else (if rtOf a b = 7 then ((spec_tnTieStands.f k bt138.1 bt138.2.1 false).bind fun t142 => (some (g, (i : Int), t142, true))) else ((spec_tnStands.f k bt138.1 bt138.2.1).bind fun t143 => (some (g, (i : Int), t143, true)))))) (fun k => ?_) (Ev.bind hpl hR)
    have hgz : (g.size + 1 ≤ 9223372036854775807) = True := eq_true (by omega)
    simp only [spec_tnSet.j2, hgz, if_true]
  by_cases h6 : a = 6 ∧ b = 6
  · have hrt : rtOf a b = 7 := if_pos h6
    refine Ev.step (f := fun k => spec_tnSet.j1 k s g (i : Int) a b true 4 2) (fun k => ?_) (Ev.step (fun k => ?_) j2)
    · simp only [spec_tnSet.l0, spec_tnGame.f, Option.bind_some]
      rw [tnOver a b h.iv, ho, Option.bind_some, if_neg (by simp), if_pos h6.1, beq_iff_eq.2 h6.2]
    · simp only [spec_tnSet.j1, spec_tnTie.f, Option.bind_some]
      rw [if_pos trivial, hrt]
  · have hrt : rtOf a b = 4 := if_neg h6
    refine Ev.step (f := fun k => spec_tnSet.j1 k s g (i : Int) a b false 4 2) (fun k => ?_) (Ev.step (fun k => ?_) j2)
    · simp only [spec_tnSet.l0, spec_tnGame.f, Option.bind_some]
      rw [tnOver a b h.iv, ho, Option.bind_some, if_neg (by simp)]
      by_cases ha : a = 6
      · rw [if_pos ha, beq_eq_false_iff_ne.2 (fun hb => h6 ⟨ha, hb⟩)]
      · rw [if_neg ha]
    · simp only [spec_tnSet.j1]
      rw [if_neg Bool.false_ne_true, hrt]
theorem Ev_uniq {α : Type} {g : Nat → Option α} {r r' : α} (h : Ev g r) (h' : Ev g r') : r = r' := by
  obtain ⟨K, h⟩ := h
  obtain ⟨K', h'⟩ := h'
  have h1 := h (max K K') (Nat.le_max_left _ _)
  have h2 := h' (max K K') (Nat.le_max_right _ _)
  rw [h1] at h2
  exact Option.some.inj h2
/-! ### One game of a set, told at any text -/
theorem st_over (s : ByteArray) {g : ByteArray} {a b x y : Int} (h : St g a b x y) (ho : ov a b ≠ none) (i : Nat) : Ev (fun k => spec_tnSet.l0 k s g (i : Int) a b) (g, (i : Int), ⟨#[]⟩, ((i : Int) == (s.size : Int))) := by
  refine Ev.step (f := fun _ => some (g, (i : Int), ⟨#[]⟩, ((i : Int) == (s.size : Int)))) (fun k => ?_) (Ev.now _)
  simp only [spec_tnSet.l0]
  cases hv : ov a b with
  | none => exact absurd hv ho
  | some c => rw [tnOver a b h.iv, hv, Option.bind_some, if_pos (by simp)]
theorem st_open (s : ByteArray) (hs : s.size ≤ 900) {g : ByteArray} {a b x y : Int} (h : St g a b x y) (ho : ov a b = none) (i d : Nat) (hi : i + d = s.size) (hr : (pl (rtOf a b) 0 0 (bits s i d)).2.2.2 = false) : ∃ st, Ev (fun k => spec_tnSet.l0 k s g (i : Int) a b) (g, (i : Int), st, true) := by
  have hbd := pl_bd (rtOf a b) (bits s i d) 0 0
  rw [bits_length] at hbd
  have hst : ∃ st, (a = 6 ∧ b = 6 → Ev (fun k => spec_tnTieStands.f k (pl (rtOf a b) 0 0 (bits s i d)).1 (pl (rtOf a b) 0 0 (bits s i d)).2.1 false) st) ∧ (¬ (a = 6 ∧ b = 6) → Ev (fun k => spec_tnStands.f k (pl (rtOf a b) 0 0 (bits s i d)).1 (pl (rtOf a b) 0 0 (bits s i d)).2.1) st) := by
    by_cases h6 : a = 6 ∧ b = 6
    · obtain ⟨t, ht⟩ := tie_ends (pl (rtOf a b) 0 0 (bits s i d)).1.toNat (pl (rtOf a b) 0 0 (bits s i d)).2.1.toNat (by omega) (by omega)
      rw [Int.toNat_of_nonneg (by omega), Int.toNat_of_nonneg (by omega)] at ht
      exact ⟨t, fun _ => ht, fun h => absurd h6 h⟩
    · have hrt : rtOf a b = 4 := if_neg h6
      rw [hrt] at hr hbd ⊢
      obtain ⟨f1, f2, f3, f4, f5⟩ := pl_fine (bits s i d) 0 0 (by omega) (by omega) (by rw [bits_length]; omega) (by rw [bits_length]; omega) rfl
      obtain ⟨t, ht, _⟩ := open_eq _ _ f1 f2 f3 f4 (by rw [← f5, hr])
      exact ⟨t, fun h => absurd h h6, fun _ => ht⟩
  obtain ⟨st, hs1, hs2⟩ := hst
  refine ⟨st, spec_step2 s (by omega) g a b x y h ho i d hi _ ?_⟩
  by_cases h6 : a = 6 ∧ b = 6
  · refine Ev.congr (fun k => ?_) (Ev.bind (f := fun _ t => some (g, (i : Int), t, true)) (hs1 h6) (Ev.now _))
    simp only [hr, Bool.false_eq_true, if_false]
    rw [if_pos (show rtOf a b = 7 from if_pos h6)]
  · refine Ev.congr (fun k => ?_) (Ev.bind (f := fun _ t => some (g, (i : Int), t, true)) (hs2 h6) (Ev.now _))
    simp only [hr, Bool.false_eq_true, if_false]
    rw [if_neg (show ¬ rtOf a b = 7 by rw [show rtOf a b = 4 from if_neg h6]; decide)]
theorem st_nextA (s : ByteArray) (hs : s.size ≤ 900) {g : ByteArray} {a b x y : Int} (h : St g a b x y) (ho : ov a b = none) (i d m : Nat) (hi : i + d = s.size) {p1 p2 : Int} (hr : pl (rtOf a b) 0 0 (bits s i d) = (p1, p2, m, true)) (hc : p1 > p2) (R : ByteArray × Int × ByteArray × Bool)
    (hR : Ev (fun k => spec_tnSet.l0 k s (g ++ ⟨#[97]⟩) ((i + m : Nat) : Int) (a + 1) b) R) : Ev (fun k => spec_tnSet.l0 k s g (i : Int) a b) R := by
  have hv := h.iv
  unfold inv at hv
  have hmy := (pl_many (rtOf a b) (bits s i d) 0 0).1
  rw [hr, bits_length] at hmy
  have hmy2 : m ≤ d := hmy
  refine spec_step2 s (by omega) g a b x y h ho i d hi R (Ev.congr (fun k => ?_) hR)
  simp only [hr, if_true]
  rw [if_pos hc, w64 (i := (i : Int) + (m : Int)) (by omega) (by omega), w64 (i := a + 1) (by omega) (by omega)]
  rfl
theorem st_nextB (s : ByteArray) (hs : s.size ≤ 900) {g : ByteArray} {a b x y : Int} (h : St g a b x y) (ho : ov a b = none) (i d m : Nat) (hi : i + d = s.size) {p1 p2 : Int} (hr : pl (rtOf a b) 0 0 (bits s i d) = (p1, p2, m, true)) (hc : ¬ p1 > p2) (R : ByteArray × Int × ByteArray × Bool)
    (hR : Ev (fun k => spec_tnSet.l0 k s (g ++ ⟨#[98]⟩) ((i + m : Nat) : Int) a (b + 1)) R) : Ev (fun k => spec_tnSet.l0 k s g (i : Int) a b) R := by
  have hv := h.iv
  unfold inv at hv
  have hmy := (pl_many (rtOf a b) (bits s i d) 0 0).1
  rw [hr, bits_length] at hmy
  have hmy2 : m ≤ d := hmy
  refine spec_step2 s (by omega) g a b x y h ho i d hi R (Ev.congr (fun k => ?_) hR)
  simp only [hr, if_true]
  rw [if_neg hc, w64 (i := (i : Int) + (m : Int)) (by omega) (by omega), w64 (i := b + 1) (by omega) (by omega)]
  rfl
/-! ### Plays put together -/
theorem pl_app (rt : Int) (l m : List Bool) : ∀ a b, (pl rt a b l).2.2.2 = true → pl rt a b (l ++ m) = pl rt a b l := by
  induction l with
  | nil => intro a b h; cases h
  | cons c l ih =>
    intro a b h
    simp only [List.cons_append, pl] at h ⊢
    by_cases he : ended rt (if c then a + 1 else a) (if c then b else b + 1) = true
    · rw [if_pos he, if_pos he]
    · rw [if_neg he] at h
      rw [if_neg he, if_neg he, ih _ _ h]
theorem pl_cont (rt : Int) (l m : List Bool) : ∀ a b, (pl rt a b l).2.2.2 = false → pl rt a b (l ++ m) = ((pl rt (pl rt a b l).1 (pl rt a b l).2.1 m).1, (pl rt (pl rt a b l).1 (pl rt a b l).2.1 m).2.1, l.length + (pl rt (pl rt a b l).1 (pl rt a b l).2.1 m).2.2.1, (pl rt (pl rt a b l).1 (pl rt a b l).2.1 m).2.2.2) := by
  induction l with
  | nil => intro a b _; simp [pl]
  | cons c l ih =>
    intro a b h
    simp only [List.cons_append, pl] at h ⊢
    by_cases he : ended rt (if c then a + 1 else a) (if c then b else b + 1) = true
    · rw [if_pos he] at h; cases h
    · rw [if_neg he] at h
      rw [if_neg he, if_neg he, ih _ _ h]
      simp only [List.length_cons]
      congr 3
      omega
theorem pl_ne (rt : Int) (l : List Bool) : ∀ a b, ended rt a b = false → (pl rt a b l).2.2.2 = false → ended rt (pl rt a b l).1 (pl rt a b l).2.1 = false := by
  induction l with
  | nil => intro a b h _; exact h
  | cons c l ih =>
    intro a b h h2
    simp only [pl] at h2 ⊢
    by_cases he : ended rt (if c then a + 1 else a) (if c then b else b + 1) = true
    · rw [if_pos he] at h2; cases h2
    · rw [if_neg he] at h2
      rw [if_neg he]
      exact ih _ _ (Bool.not_eq_true _ ▸ he) h2
theorem ne_iff {rt a b : Int} : ended rt a b = false ↔ ¬ ((rt ≤ a ∨ rt ≤ b) ∧ (2 ≤ a - b ∨ 2 ≤ b - a)) := by unfold ended; exact decide_eq_false_iff_not
theorem cost_pos {rt a b : Int} (h : ended rt a b = false) : 1 ≤ impl_FewestToSet.cost rt a b ∧ 1 ≤ impl_FewestToSet.cost rt b a := by
  have := ne_iff.1 h
  unfold impl_FewestToSet.cost
  constructor
  · split <;> omega
  · split <;> omega
theorem rep_a (rt : Int) (m : Nat) : ∀ (a b : Int) (c : Nat), ended rt a b = false → impl_FewestToSet.cost rt a b = (c : Int) →
    (m < c → pl rt a b (List.replicate m true) = (a + m, b, m, false)) ∧ (c ≤ m → pl rt a b (List.replicate m true) = (a + c, b, c, true) ∧ a + c > b) := by
  induction m with
  | zero =>
    intro a b c h hc
    have h1 := (cost_pos h).1
    exact ⟨fun _ => by simp [pl], fun h2 => by omega⟩
  | succ m ih =>
    intro a b c h hc
    have hn := ne_iff.1 h
    have h1 := (cost_pos h).1
    simp only [List.replicate_succ, pl, if_true]
    by_cases he : ended rt (a + 1) b = true
    · have he2 := of_decide_eq_true he
      have hc1 : c = 1 := by unfold impl_FewestToSet.cost at hc; split at hc <;> omega
      subst hc1
      rw [if_pos he]
      exact ⟨fun h2 => by omega, fun _ => ⟨rfl, by unfold impl_FewestToSet.cost at hc; split at hc <;> omega⟩⟩
    · have he2 := Bool.eq_false_iff.2 he
      have he3 := ne_iff.1 he2
      obtain ⟨c', rfl⟩ : ∃ c', c = c' + 1 := ⟨c - 1, by omega⟩
      have hc' : impl_FewestToSet.cost rt (a + 1) b = (c' : Int) := by unfold impl_FewestToSet.cost at hc ⊢; split at hc <;> split <;> omega
      obtain ⟨i1, i2⟩ := ih (a + 1) b c' he2 hc'
      rw [if_neg he]
      refine ⟨fun h2 => ?_, fun h2 => ?_⟩
      · rw [i1 (by omega)]
        simp only [Prod.mk.injEq, and_true, true_and]
        omega
      · obtain ⟨e1, e2⟩ := i2 (by omega)
        rw [e1]
        simp only [Prod.mk.injEq, and_true, true_and]
        exact ⟨by omega, by omega⟩
theorem rep_b (rt : Int) (m : Nat) : ∀ (a b : Int) (c : Nat), ended rt a b = false → impl_FewestToSet.cost rt b a = (c : Int) →
    (m < c → pl rt a b (List.replicate m false) = (a, b + m, m, false)) ∧ (c ≤ m → pl rt a b (List.replicate m false) = (a, b + c, c, true) ∧ ¬ a > b + c) := by
  induction m with
  | zero =>
    intro a b c h hc
    have h1 := (cost_pos h).2
    exact ⟨fun _ => by simp [pl], fun h2 => by omega⟩
  | succ m ih =>
    intro a b c h hc
    have hn := ne_iff.1 h
    have h1 := (cost_pos h).2
    simp only [List.replicate_succ, pl, Bool.false_eq_true, if_false]
    by_cases he : ended rt a (b + 1) = true
    · have he2 := of_decide_eq_true he
      have hc1 : c = 1 := by unfold impl_FewestToSet.cost at hc; split at hc <;> omega
      subst hc1
      rw [if_pos he]
      exact ⟨fun h2 => by omega, fun _ => ⟨rfl, by unfold impl_FewestToSet.cost at hc; split at hc <;> omega⟩⟩
    · have he2 := Bool.eq_false_iff.2 he
      have he3 := ne_iff.1 he2
      obtain ⟨c', rfl⟩ : ∃ c', c = c' + 1 := ⟨c - 1, by omega⟩
      have hc' : impl_FewestToSet.cost rt (b + 1) a = (c' : Int) := by unfold impl_FewestToSet.cost at hc ⊢; split at hc <;> split <;> omega
      obtain ⟨i1, i2⟩ := ih a (b + 1) c' he2 hc'
      rw [if_neg he]
      refine ⟨fun h2 => ?_, fun h2 => ?_⟩
      · rw [i1 (by omega)]
        simp only [Prod.mk.injEq, and_true, true_and]
        omega
      · obtain ⟨e1, e2⟩ := i2 (by omega)
        rw [e1]
        simp only [Prod.mk.injEq, and_true, true_and]
        exact ⟨by omega, by omega⟩
/-! ### Texts with more points of one side -/
theorem bits_add (s : ByteArray) (n e : Nat) : ∀ i, bits s i (n + e) = bits s i n ++ bits s (i + n) e := by
  induction n with
  | zero => intro i; simp [bits]
  | succ n ih =>
    intro i
    rw [show n + 1 + e = (n + e) + 1 by omega]
    simp only [bits, List.cons_append]
    rw [ih (i + 1), show i + 1 + n = i + (n + 1) by omega]
theorem bits_left (s t : ByteArray) (n : Nat) : ∀ i, i + n ≤ s.size → bits (s ++ t) i n = bits s i n := by
  induction n with
  | zero => intro i _; rfl
  | succ n ih =>
    intro i h
    simp only [bits]
    rw [bt_left s t i (by omega), ih (i + 1) (by omega)]
def sd : Bool → ByteArray
  | true => ⟨#[97]⟩
  | false => ⟨#[98]⟩
def tl (c : Bool) : Nat → ByteArray
  | 0 => ⟨#[]⟩
  | m + 1 => tl c m ++ sd c
theorem sd_size (c : Bool) : (sd c).size = 1 := by cases c <;> rfl
theorem tl_size (c : Bool) (m : Nat) : (tl c m).size = m := by
  induction m with
  | zero => rfl
  | succ m ih => simp only [tl]; rw [ByteArray.size_append, ih, sd_size]
theorem app_nil (s : ByteArray) : s ++ (⟨#[]⟩ : ByteArray) = s := by
  apply ByteArray.ext
  rw [ByteArray.data_append]
  simp
theorem app_succ (s : ByteArray) (c : Bool) (m : Nat) : s ++ tl c (m + 1) = (s ++ tl c m) ++ sd c := by
  simp only [tl]
  rw [ByteArray.append_assoc]
theorem nw_size (s : ByteArray) (c : Bool) (m : Nat) : (s ++ tl c m).size = s.size + m := by rw [ByteArray.size_append, tl_size]
theorem bt_sd (s : ByteArray) (c : Bool) : bt (s ++ sd c) (s.size : Int) = if c then 97 else 98 := by
  cases c
  · exact bt_last s 98
  · exact bt_last s 97
theorem bt_tl (s : ByteArray) (c : Bool) (m : Nat) : ∀ j, j < m → bt (s ++ tl c m) ((s.size + j : Nat) : Int) = if c then 97 else 98 := by
  induction m with
  | zero => intro j h; omega
  | succ m ih =>
    intro j h
    rw [app_succ]
    by_cases hj : j = m
    · subst hj
      have := bt_sd (s ++ tl c j) c
      rw [nw_size] at this
      exact this
    · rw [bt_left _ _ _ (by rw [nw_size]; omega)]
      exact ih j (by omega)
theorem bits_tl (s : ByteArray) (c : Bool) (m e : Nat) : ∀ j, j + e ≤ m → bits (s ++ tl c m) (s.size + j) e = List.replicate e c := by
  induction e with
  | zero => intro j _; rfl
  | succ e ih =>
    intro j h
    simp only [bits, List.replicate_succ]
    rw [bt_tl s c m j (by omega), show s.size + j + 1 = s.size + (j + 1) by omega, ih (j + 1) (by omega)]
    cases c <;> simp
/-! ### Where the points stand -/
theorem reach (s : ByteArray) (hs : s.size ≤ 300) (n : Nat) : ∀ (i : Nat) (g : ByteArray) (a b x y : Int), i + n = s.size → St g a b x y →
    ∃ G A B X Y at_, St G A B X Y ∧ at_ ≤ s.size ∧ (∀ (t : ByteArray), t.size ≤ 500 → ∀ R, Ev (fun k => spec_tnSet.l0 k (s ++ t) G ((at_ : Nat) : Int) A B) R → Ev (fun k => spec_tnSet.l0 k (s ++ t) g (i : Int) a b) R) ∧ (ov A B = none → (pl (rtOf A B) 0 0 (bits s at_ (s.size - at_))).2.2.2 = false) := by
  induction n using Nat.strongRecOn with
  | ind n ih =>
    intro i g a b x y hi h
    cases ho : ov a b with
    | some c => exact ⟨g, a, b, x, y, i, h, by omega, fun t _ R hR => hR, fun h2 => by rw [ho] at h2; cases h2⟩
    | none =>
      cases hr : (pl (rtOf a b) 0 0 (bits s i n)).2.2.2 with
      | false => exact ⟨g, a, b, x, y, i, h, by omega, fun t _ R hR => hR, fun _ => by rw [show s.size - i = n by omega]; exact hr⟩
      | true =>
        have hbd := pl_bd (rtOf a b) (bits s i n) 0 0
        have hmy := pl_many (rtOf a b) (bits s i n) 0 0
        rw [bits_length] at hmy
        have hm1 := hbd.2.2.2.2 hr
        have hm2 := hmy.1
        have long : ∀ (t : ByteArray), pl (rtOf a b) 0 0 (bits (s ++ t) i (n + t.size)) = pl (rtOf a b) 0 0 (bits s i n) := by
          intro t
          rw [bits_add, bits_left s t n i (by omega)]
          exact pl_app _ _ _ _ _ hr
        generalize hq : pl (rtOf a b) 0 0 (bits s i n) = q at hr hm1 hm2 long
        obtain ⟨p1, p2, m, e⟩ := q
        have hm1' : 1 ≤ m := hm1
        have hm2' : m ≤ n := hm2
        have he : e = true := hr
        subst he
        by_cases hc : p1 > p2
        · obtain ⟨G, A, B, X, Y, at_, z1, z2, z3, z4⟩ := ih (n - m) (by omega) (i + m) _ _ _ _ _ (by omega) (h.addA ho)
          exact ⟨G, A, B, X, Y, at_, z1, z2, fun t ht R hR => st_nextA (s ++ t) (by rw [ByteArray.size_append]; omega) h ho i (n + t.size) m (by rw [ByteArray.size_append]; omega) (long t) hc R (z3 t ht R hR), z4⟩
        · obtain ⟨G, A, B, X, Y, at_, z1, z2, z3, z4⟩ := ih (n - m) (by omega) (i + m) _ _ _ _ _ (by omega) (h.addB ho)
          exact ⟨G, A, B, X, Y, at_, z1, z2, fun t ht R hR => st_nextB (s ++ t) (by rw [ByteArray.size_append]; omega) h ho i (n + t.size) m (by rw [ByteArray.size_append]; omega) (long t) hc R (z3 t ht R hR), z4⟩
/-- How a set stands behind n0 more points of side c, and what more such points make of it. -/
structure Pos (s : ByteArray) (c : Bool) (g : ByteArray) (a b x y : Int) (n0 at_ : Nat) (p1 p2 : Int) : Prop where
  st : St g a b x y
  ov : ov a b = none
  le : at_ ≤ s.size + n0
  ne : ended (rtOf a b) p1 p2 = false
  p10 : 0 ≤ p1
  p11 : p1 ≤ 300
  p20 : 0 ≤ p2
  p21 : p2 ≤ 300
  rc : ∀ m, n0 ≤ m → m ≤ 500 → ∀ R, Ev (fun k => spec_tnSet.l0 k (s ++ tl c m) g (at_ : Int) a b) R → Ev (fun k => spec_tnSet.f k (s ++ tl c m)) R
  pl : ∀ m, n0 ≤ m → m ≤ 500 → pl (rtOf a b) 0 0 (bits (s ++ tl c m) at_ (s.size + m - at_)) = ((pl (rtOf a b) p1 p2 (List.replicate (m - n0) c)).1, (pl (rtOf a b) p1 p2 (List.replicate (m - n0) c)).2.1, (s.size + n0 - at_) + (pl (rtOf a b) p1 p2 (List.replicate (m - n0) c)).2.2.1, (pl (rtOf a b) p1 p2 (List.replicate (m - n0) c)).2.2.2)
def own (c : Bool) (p1 p2 : Int) : Int := if c then p1 else p2
def oth (c : Bool) (p1 p2 : Int) : Int := if c then p2 else p1
theorem sd_w (c : Bool) : sd c = wtxt (some c) := by cases c <;> rfl
theorem dash_ne (c : Bool) : ¬ (wtxt none).toList = (sd c).toList := by
  rw [show (wtxt none).toList = [45] from toList_mk [45]]
  cases c
  · rw [show (sd false).toList = [98] from toList_mk [98]]; decide
  · rw [show (sd true).toList = [97] from toList_mk [97]]; decide
/-- What the reference's loop makes of one text. -/
theorem loop_step (s : ByteArray) (hs : s.size ≤ 900) (c : Bool) (m : Nat) (hm : m ≤ 900) {g : ByteArray} {a b x y n : Int} {st : ByteArray} {t : Bool} (h : St g a b x y) (ho : ov a b = none) (he : Ev (fun k => spec_tnSet.f k s) (g, n, st, t)) (R : Int × Bool)
    (hR : Ev (fun k => spec_FewestToSet.l0 k (sd c) ((m + 1 : Nat) : Int) (s ++ sd c)) R) : Ev (fun k => spec_FewestToSet.l0 k (sd c) (m : Int) s) R := by
  refine Ev.step (f := fun k => (spec_tnSet.f k s).bind fun bt352 => ((spec_tnWon.f k bt352.1).bind fun bt356 => ((spec_tnWinner.f bt356.1 bt356.2).bind fun t358 => (if t358.toList = (sd c).toList then (some ((m : Int), true)) else (if s.size + (sd c).size ≤ 9223372036854775807 then (spec_FewestToSet.l0 k (sd c) (wrap64 ((m : Int) + 1)) (s ++ sd c)) else (none)))))) (fun k => by simp only [spec_FewestToSet.l0]) (Ev.bind he (Ev.bind (won_set h) ?_))
  refine Ev.congr (fun k => ?_) hR
  rw [winner h.iv, Option.bind_some, ho, if_neg (dash_ne c), if_pos (by rw [sd_size]; omega), w64 (by omega) (by omega)]
  rfl
theorem loop_end (s : ByteArray) (c : Bool) (m : Nat) {g : ByteArray} {a b x y n : Int} {st : ByteArray} {t : Bool} (h : St g a b x y) (ho : ov a b = some c) (he : Ev (fun k => spec_tnSet.f k s) (g, n, st, t)) : Ev (fun k => spec_FewestToSet.l0 k (sd c) (m : Int) s) ((m : Int), true) := by
  refine Ev.step (f := fun k => (spec_tnSet.f k s).bind fun bt352 => ((spec_tnWon.f k bt352.1).bind fun bt356 => ((spec_tnWinner.f bt356.1 bt356.2).bind fun t358 => (if t358.toList = (sd c).toList then (some ((m : Int), true)) else (if s.size + (sd c).size ≤ 9223372036854775807 then (spec_FewestToSet.l0 k (sd c) (wrap64 ((m : Int) + 1)) (s ++ sd c)) else (none)))))) (fun k => by simp only [spec_FewestToSet.l0]) (Ev.bind he (Ev.bind (won_set h) ?_))
  refine Ev.congr (f := fun _ => some ((m : Int), true)) (fun k => ?_) (Ev.now _)
  rw [winner h.iv, Option.bind_some, ho, sd_w, if_pos rfl]
theorem cost_le {rt a b : Int} (hr0 : 4 ≤ rt) (hr : rt ≤ 7) (h0 : 0 ≤ a) (h1 : 0 ≤ b) (h2 : b ≤ 300) : impl_FewestToSet.cost rt a b ≤ 302 := by
  unfold impl_FewestToSet.cost; split <;> omega
theorem rt_bd (a b : Int) : 4 ≤ rtOf a b ∧ rtOf a b ≤ 7 := by unfold rtOf; split <;> omega
theorem rep (rt : Int) (c : Bool) (m : Nat) (p1 p2 : Int) (k : Nat) (h : ended rt p1 p2 = false) (hc : impl_FewestToSet.cost rt (own c p1 p2) (oth c p1 p2) = (k : Int)) :
    (m < k → (pl rt p1 p2 (List.replicate m c)).2.2.2 = false) ∧ (k ≤ m → ∃ q1 q2, pl rt p1 p2 (List.replicate m c) = (q1, q2, k, true) ∧ (q1 > q2 ↔ c = true)) := by
  cases c with
  | true =>
    obtain ⟨h1, h2⟩ := rep_a rt m p1 p2 k h hc
    exact ⟨fun hm => by rw [h1 hm], fun hm => ⟨_, _, (h2 hm).1, fun _ => rfl, fun _ => (h2 hm).2⟩⟩
  | false =>
    obtain ⟨h1, h2⟩ := rep_b rt m p1 p2 k h hc
    exact ⟨fun hm => by rw [h1 hm], fun hm => ⟨_, _, (h2 hm).1, fun e => absurd e (h2 hm).2, fun e => by cases e⟩⟩
def incA (c : Bool) (a : Int) : Int := if c then a + 1 else a
def incB (c : Bool) (b : Int) : Int := if c then b else b + 1
theorem ov_inc {a b : Int} (c : Bool) (h : inv a b) (ho : ov a b = none) : inv (incA c a) (incB c b) ∧ (ov (incA c a) (incB c b) = none ∨ ov (incA c a) (incB c b) = some c) := by
  have hn := ov_none.1 ho
  have hi := inv_next h ho
  unfold inv at h
  cases c with
  | true =>
    refine ⟨hi.1, ?_⟩
    show ov (a + 1) b = none ∨ ov (a + 1) b = some true
    unfold ov
    by_cases h1 : a + 1 = 7 ∨ 6 ≤ a + 1 ∧ 2 ≤ a + 1 - b
    · rw [if_pos h1]; exact .inr rfl
    · rw [if_neg h1, if_neg (by omega)]; exact .inl rfl
  | false =>
    refine ⟨hi.2, ?_⟩
    show ov a (b + 1) = none ∨ ov a (b + 1) = some false
    unfold ov
    rw [if_neg (by omega)]
    by_cases h1 : b + 1 = 7 ∨ 6 ≤ b + 1 ∧ 2 ≤ b + 1 - a
    · rw [if_pos h1]; exact .inr rfl
    · rw [if_neg h1]; exact .inl rfl
/-- One game more for side c. -/
theorem Pos.next {s : ByteArray} (hs : s.size ≤ 300) {c : Bool} {g : ByteArray} {a b x y : Int} {n0 at_ : Nat} {p1 p2 : Int} (P : Pos s c g a b x y n0 at_ p1 p2) (k : Nat) (hc : impl_FewestToSet.cost (rtOf a b) (own c p1 p2) (oth c p1 p2) = (k : Int)) :
    ∃ G X Y, St G (incA c a) (incB c b) X Y ∧ ∀ m, n0 + k ≤ m → m ≤ 500 → ∀ R, Ev (fun j => spec_tnSet.l0 j (s ++ tl c m) G ((s.size + (n0 + k) : Nat) : Int) (incA c a) (incB c b)) R → Ev (fun j => spec_tnSet.f j (s ++ tl c m)) R := by
  have hle := P.le
  cases c with
  | true =>
    refine ⟨_, _, _, P.st.addA P.ov, fun m h1 h2 R hR => P.rc m (by omega) h2 R ?_⟩
    obtain ⟨q1, q2, e1, e2⟩ := (rep (rtOf a b) true (m - n0) p1 p2 k P.ne hc).2 (by omega)
    have hp := P.pl m (by omega) h2
    rw [e1] at hp
    refine st_nextA (s ++ tl true m) (by rw [nw_size]; omega) P.st P.ov at_ (s.size + m - at_) (s.size + n0 - at_ + k) (by rw [nw_size]; omega) hp (e2.2 rfl) R ?_
    rw [show at_ + (s.size + n0 - at_ + k) = s.size + (n0 + k) by omega]
    simp only [incA, incB, if_true, Bool.false_eq_true, if_false] at hR
    exact hR
  | false =>
    refine ⟨_, _, _, P.st.addB P.ov, fun m h1 h2 R hR => P.rc m (by omega) h2 R ?_⟩
    obtain ⟨q1, q2, e1, e2⟩ := (rep (rtOf a b) false (m - n0) p1 p2 k P.ne hc).2 (by omega)
    have hp := P.pl m (by omega) h2
    rw [e1] at hp
    refine st_nextB (s ++ tl false m) (by rw [nw_size]; omega) P.st P.ov at_ (s.size + m - at_) (s.size + n0 - at_ + k) (by rw [nw_size]; omega) hp (fun h => by cases e2.1 h) R ?_
    rw [show at_ + (s.size + n0 - at_ + k) = s.size + (n0 + k) by omega]
    simp only [incA, incB, if_true, Bool.false_eq_true, if_false] at hR
    exact hR
theorem Pos.fresh {s : ByteArray} (hs : s.size ≤ 300) {c : Bool} {G : ByteArray} {A B X Y : Int} {n1 : Nat} (h : St G A B X Y) (ho : _root_.Go.Proofs.YtjnkcgddalbojaaDoor.Pure.ov A B = none) (rc : ∀ m, n1 ≤ m → m ≤ 500 → ∀ R, Ev (fun k => spec_tnSet.l0 k (s ++ tl c m) G ((s.size + n1 : Nat) : Int) A B) R → Ev (fun k => spec_tnSet.f k (s ++ tl c m)) R) : Pos s c G A B X Y n1 (s.size + n1) 0 0 where
  st := h
  ov := ho
  le := Nat.le_refl _
  ne := ne_iff.2 (by omega)
  p10 := Int.le_refl _
  p11 := by decide
  p20 := Int.le_refl _
  p21 := by decide
  rc := rc
  pl := fun m h1 h2 => by
    rw [show s.size + m - (s.size + n1) = m - n1 by omega, bits_tl s c m (m - n1) n1 (by omega), Nat.sub_self, Nat.zero_add]
/-- While the game is open the reference's loop goes on. -/
theorem wait {s : ByteArray} (hs : s.size ≤ 300) {c : Bool} {g : ByteArray} {a b x y : Int} {n0 at_ : Nat} {p1 p2 : Int} (P : Pos s c g a b x y n0 at_ p1 p2) (k : Nat) (hc : impl_FewestToSet.cost (rtOf a b) (own c p1 p2) (oth c p1 p2) = (k : Int)) (hb : n0 + k ≤ 500) (R : Int × Bool)
    (hR : Ev (fun j => spec_FewestToSet.l0 j (sd c) ((n0 + k : Nat) : Int) (s ++ tl c (n0 + k))) R) (d : Nat) : ∀ m, n0 ≤ m → m + d = n0 + k → Ev (fun j => spec_FewestToSet.l0 j (sd c) (m : Int) (s ++ tl c m)) R := by
  have hle := P.le
  induction d with
  | zero =>
    intro m h1 h2
    rw [show m = n0 + k by omega]
    exact hR
  | succ d ih =>
    intro m h1 h2
    have hn := ih (m + 1) (by omega) (by omega)
    have hp := P.pl m h1 (by omega)
    have hf := (rep (rtOf a b) c (m - n0) p1 p2 k P.ne hc).1 (by omega)
    obtain ⟨st, hst⟩ := st_open (s ++ tl c m) (by rw [nw_size]; omega) P.st P.ov at_ (s.size + m - at_) (by rw [nw_size]; omega) (by rw [hp]; exact hf)
    rw [app_succ] at hn
    exact loop_step (s ++ tl c m) (by rw [nw_size]; omega) c m (by omega) P.st P.ov (P.rc m h1 (by omega) _ hst) R hn
theorem sd_97 (c : Bool) : (sd c).toList = if c then [97] else [98] := by
  cases c
  · exact toList_mk [98]
  · exact toList_mk [97]
theorem wl (c : Bool) : (wtxt (some c)).toList = if c then [97] else [98] := by rw [← sd_w, sd_97]
theorem wl_n : (wtxt none).toList = [45] := toList_mk [45]
theorem wl_iff (c : Bool) (o : Option Bool) (ho : o = none ∨ o = some c) : (wtxt o).toList = (if c then [97] else [98]) ↔ o = some c := by
  rcases ho with rfl | rfl
  · rw [wl_n]
    exact ⟨fun h => by cases c <;> simp at h, fun h => by cases h⟩
  · rw [wl]; simp
/-- The program's step. -/
theorem impl_step (K : Nat) (c : Bool) (n0 : Nat) (hn : n0 ≤ 500) (a b p1 p2 : Int) (o w : ByteArray) (pp : Bool) (hv : inv a b) (ho : ov a b = none) (hf : impl_follow.f (rtOf a b) 2 o = some (p1, p2, w, pp)) (q1 : 0 ≤ p1) (q2 : p1 ≤ 300) (q3 : 0 ≤ p2) (q4 : p2 ≤ 300) :
    impl_FewestToSet.l0 (K + 1) (sd c) (n0 : Int) a b o = if ov (incA c a) (incB c b) = some c then some ((n0 : Int) + impl_FewestToSet.cost (rtOf a b) (own c p1 p2) (oth c p1 p2), true) else impl_FewestToSet.l0 K (sd c) ((n0 : Int) + impl_FewestToSet.cost (rtOf a b) (own c p1 p2) (oth c p1 p2)) (incA c a) (incB c b) ⟨#[]⟩ := by
  obtain ⟨hi, hcs⟩ := ov_inc c hv ho
  have hiff := wl_iff c _ hcs
  unfold inv at hv
  simp only [impl_FewestToSet.l0]
  rw [if_pos (by omega), show (if a = 6 ∧ b = 6 then (7 : Int) else 4) = rtOf a b from rfl, hf, Option.bind_some, if_pos (by show 0 ≤ p1 ∧ p1 ≤ 1000 ∧ 0 ≤ p2 ∧ p2 ≤ 1000; omega)]
  cases c with
  | true =>
    have e1 : incA true a = a + 1 := rfl
    have e2 : incB true b = b := rfl
    rw [e1, e2] at hi hiff hcs ⊢
    have hiff : (wtxt (ov (a + 1) b)).toList = [97] ↔ ov (a + 1) b = some true := hiff
    rw [if_neg (by rw [sd_97]; decide), setOver 1 _ _ hi, Option.bind_some]
    by_cases h : ov (a + 1) b = some true
    · rw [if_pos (hiff.2 h), if_pos h]; rfl
    · rw [if_neg (fun h2 => h (hiff.1 h2)), if_neg h]; rfl
  | false =>
    have e1 : incA false a = a := rfl
    have e2 : incB false b = b + 1 := rfl
    rw [e1, e2] at hi hiff hcs ⊢
    have hiff : (wtxt (ov a (b + 1))).toList = [98] ↔ ov a (b + 1) = some false := hiff
    rw [if_pos (show (sd false).toList = [98] from sd_97 false), setOver 1 _ _ hi, Option.bind_some]
    by_cases h : ov a (b + 1) = some false
    · rw [if_pos (hiff.2 h), if_pos h]; rfl
    · rw [if_neg (fun h2 => h (hiff.1 h2)), if_neg h]; rfl
theorem follow_nil (rt : Int) : ∃ w pp, impl_follow.f rt 2 ⟨#[]⟩ = some (0, 0, w, pp) := by
  refine ⟨wtxt none, true, ?_⟩
  unfold impl_follow.f impl_follow.g
  rfl
theorem runs {s : ByteArray} (hs : s.size ≤ 300) (c : Bool) (K : Nat) : ∀ (g : ByteArray) (a b x y : Int) (n0 at_ : Nat) (p1 p2 : Int) (o w : ByteArray) (pp : Bool), Pos s c g a b x y n0 at_ p1 p2 → impl_follow.f (rtOf a b) 2 o = some (p1, p2, w, pp) →
    14 - (a + b) ≤ K → (n0 : Int) + impl_FewestToSet.cost (rtOf a b) (own c p1 p2) (oth c p1 p2) + 7 * (14 - (a + b)) ≤ 500 →
    ∃ N : Nat, impl_FewestToSet.l0 K (sd c) (n0 : Int) a b o = some ((N : Int), true) ∧ Ev (fun k => spec_FewestToSet.l0 k (sd c) (n0 : Int) (s ++ tl c n0)) ((N : Int), true) := by
  induction K with
  | zero =>
    intro g a b x y n0 at_ p1 p2 o w pp P hf hK hb
    have hv := P.st.iv
    have hn := ov_none.1 P.ov
    unfold inv at hv
    omega
  | succ K ih =>
    intro g a b x y n0 at_ p1 p2 o w pp P hf hK hb
    have hv := P.st.iv
    have hn := ov_none.1 P.ov
    have hcp := cost_pos P.ne
    have hpos : 1 ≤ impl_FewestToSet.cost (rtOf a b) (own c p1 p2) (oth c p1 p2) := by
      cases c
      · exact hcp.2
      · exact hcp.1
    obtain ⟨k, hk⟩ : ∃ k : Nat, impl_FewestToSet.cost (rtOf a b) (own c p1 p2) (oth c p1 p2) = (k : Int) := ⟨(impl_FewestToSet.cost (rtOf a b) (own c p1 p2) (oth c p1 p2)).toNat, by omega⟩
    obtain ⟨G, X, Y, hG, rc⟩ := P.next hs k hk
    obtain ⟨hi, hcs⟩ := ov_inc c hv P.ov
    have hsum : incA c a + incB c b = a + b + 1 := by cases c <;> simp only [incA, incB, if_true, Bool.false_eq_true, if_false] <;> omega
    unfold inv at hv
    rw [hk] at hb
    have hstep := impl_step K c n0 (by omega) a b p1 p2 o w pp P.st.iv P.ov hf P.p10 P.p11 P.p20 P.p21
    rw [hk, show (n0 : Int) + (k : Int) = ((n0 + k : Nat) : Int) by omega] at hstep
    rcases hcs with hov | hov
    · have P' := Pos.fresh hs hG hov rc
      obtain ⟨w', pp', hf'⟩ := follow_nil (rtOf (incA c a) (incB c b))
      have hc7 : impl_FewestToSet.cost (rtOf (incA c a) (incB c b)) (own c 0 0) (oth c 0 0) ≤ 7 := by
        have := rt_bd (incA c a) (incB c b)
        unfold impl_FewestToSet.cost own oth
        cases c <;> simp only [if_true, Bool.false_eq_true, if_false] <;> split <;> omega
      obtain ⟨N, h1, h2⟩ := ih _ _ _ _ _ (n0 + k) _ 0 0 ⟨#[]⟩ w' pp' P' hf' (by rw [hsum]; omega) (by rw [hsum]; omega)
      refine ⟨N, ?_, wait hs P k hk (by omega) _ h2 k n0 (Nat.le_refl _) rfl⟩
      rw [hstep, if_neg (by rw [hov]; simp)]
      exact h1
    · refine ⟨n0 + k, ?_, wait hs P k hk (by omega) _ ?_ k n0 (Nat.le_refl _) rfl⟩
      · rw [hstep, if_pos hov]
      · exact loop_end _ c (n0 + k) hG hov (rc (n0 + k) (Nat.le_refl _) (by omega) _ (st_over _ hG (by rw [hov]; simp) _))
theorem pts_ext (s : ByteArray) (hp : pts s) (i e : Nat) (he : e ≤ s.size) : pts (s.extract i e) := by
  intro j hj
  rw [ByteArray.size_extract] at hj
  have := hp (i + j) (by omega)
  unfold pt at this ⊢
  rw [bt_extract s i e j (by omega) he]
  exact this
theorem both (s t : ByteArray) (hs : s.size ≤ 140737488351232) : ∃ r, Ev (fun k => spec_FewestToSet.f k s t) r ∧ impl_FewestToSet.f s t = some r := by
  have jt : Ev (fun k => spec_FewestToSet.j0 k s t true) (0, false) := Ev.step (f := fun _ => some (0, false)) (fun k => by simp only [spec_FewestToSet.j0]; rw [if_pos trivial]) (Ev.now _)
  rcases whole s hs with ⟨g, a, b, o, x, y, st, at_, h1, h0, h2, h3, h4, h5, h6⟩ | ⟨h1, h2⟩
  · have hp := of_decide_eq_true h0
    by_cases hside : t.toList = [97] ∨ t.toList = [98]
    · obtain ⟨c, rfl⟩ : ∃ c, t = sd c := by
        rcases hside with h | h
        · exact ⟨true, impl_FewestToSet.byt h⟩
        · exact ⟨false, impl_FewestToSet.byt h⟩
      have hsf : Ev (fun k => spec_FewestToSet.j0 k s (sd c) false) (match ov a b with | none => (match impl_FewestToSet.l0 20 (sd c) 0 a b o with | some r => r | none => (0, false)) | some v => (0, (wtxt (some v)).toList == (sd c).toList)) ∧ (ov a b = none → ∃ r, impl_FewestToSet.l0 20 (sd c) 0 a b o = some r) := by
        have hj : ∀ k, spec_FewestToSet.j0 (k + 1) s (sd c) false = (spec_tnSet.f k s).bind fun bt345 => ((spec_tnWon.f k bt345.1).bind fun bt349 => ((spec_tnWinner.f bt349.1 bt349.2).bind fun t351 => (if t351.toList = ([45] : List UInt8) then (spec_FewestToSet.l0 k (sd c) 0 s) else (some (0, (t351.toList == (sd c).toList)))))) := by
          intro k
          simp only [spec_FewestToSet.j0]
          rw [if_neg (by simp)]
        cases ho : ov a b with
        | some v =>
          refine ⟨Ev.step hj (Ev.bind h3 (Ev.bind (won_set h1) (Ev.congr (f := fun _ => some (0, (wtxt (some v)).toList == (sd c).toList)) (fun k => ?_) (Ev.now _)))), fun h => by cases h⟩
          rw [winner h1.iv, Option.bind_some, ho, if_neg (by rw [wl]; cases v <;> decide)]
        | none =>
          obtain ⟨G, A, B, X, Y, at', z1, z2, z3, z4⟩ := reach s (by omega) s.size 0 ⟨#[]⟩ 0 0 0 0 (by omega) St.start
          obtain ⟨ho1, ho2, ho3, _, _⟩ := h6 ho
          -- the two tellings are one
          have hG : G = g ∧ ((at' : Nat) : Int) = ((at_ : Nat) : Int) := by
            have hz : ∀ R, Ev (fun k => spec_tnSet.l0 k s G ((at' : Nat) : Int) A B) R → Ev (fun k => spec_tnSet.f k s) R := by
              intro R hR
              have h := z3 ⟨#[]⟩ (Nat.zero_le _) R (by rw [app_nil]; exact hR)
              rw [app_nil] at h
              exact h
            cases hO : ov A B with
            | some v =>
              have e := Ev_uniq (hz _ (st_over s z1 (by rw [hO]; simp) at')) h3
              simp only [Prod.mk.injEq] at e
              exact ⟨e.1, e.2.1⟩
            | none =>
              obtain ⟨st', hst'⟩ := st_open s (by omega) z1 hO at' (s.size - at') (by omega) (z4 hO)
              have e := Ev_uniq (hz _ hst') h3
              simp only [Prod.mk.injEq] at e
              exact ⟨e.1, e.2.1⟩
          obtain ⟨rfl, hat⟩ := hG
          have hat' : at' = at_ := by omega
          subst hat'
          have eA : A = a := by rw [← z1.ca, ← h1.ca]
          have eB : B = b := by have e1 := z1.sz; have e2 := h1.sz; omega
          subst eA; subst eB
          have hrun : pl (rtOf A B) 0 0 (bits o 0 o.size) = pl (rtOf A B) 0 0 (bits s at' (s.size - at')) := by
            have e : o.size = s.size - at' := by rw [ho1, ByteArray.size_extract]; omega
            rw [e, ho1, bits_extract s at' s.size (Nat.le_refl _) (s.size - at') 0 (by omega)]
            rfl
          have hmy := pl_many (rtOf A B) (bits s at' (s.size - at')) 0 0
          have hbd := pl_bd (rtOf A B) (bits s at' (s.size - at')) 0 0
          rw [bits_length] at hmy hbd
          have hoz : o.size = s.size - at' := by rw [ho1, ByteArray.size_extract]; omega
          obtain ⟨q1, q2, w, pp, hf, hpp, hq⟩ := follow_f o (by rw [ho1]; exact pts_ext s hp.2 at' s.size (Nat.le_refl _)) (by omega) (rtOf A B) (rt_pos A B)
          have hpt : pp = true := by
            rw [hpp]
            unfold Pure.run
            rw [hrun, hoz]
            exact decide_eq_true (hmy.2 ho3)
          obtain ⟨e1, e2, _⟩ := hq hpt
          unfold Pure.run at e1 e2
          rw [hrun] at e1 e2
          have hne := pl_ne (rtOf A B) (bits s at' (s.size - at')) 0 0 (ne_iff.2 (by omega)) ho3
          rw [← e1, ← e2] at hne
          have P : Pos s c G A B X Y 0 at' q1 q2 := {
            st := z1
            ov := ho
            le := z2
            ne := hne
            p10 := by omega
            p11 := by omega
            p20 := by omega
            p21 := by omega
            rc := fun m _ hm R hR => z3 (tl c m) (by rw [tl_size]; omega) R hR
            pl := fun m _ hm => by
              rw [show s.size + m - at' = (s.size - at') + m by omega, bits_add, bits_left s (tl c m) (s.size - at') at' (by omega), show at' + (s.size - at') = s.size + 0 by omega, bits_tl s c m m 0 (by omega), pl_cont _ _ _ _ _ ho3, bits_length, ← e1, ← e2]
              rfl }
          have hrb := rt_bd A B
          have hcl : impl_FewestToSet.cost (rtOf A B) (own c q1 q2) (oth c q1 q2) ≤ 302 := by
            unfold own oth
            cases c
            · exact cost_le hrb.1 hrb.2 (by omega) (by show 0 ≤ q1; omega) (by show q1 ≤ 300; omega)
            · exact cost_le hrb.1 hrb.2 (by omega) (by show 0 ≤ q2; omega) (by show q2 ≤ 300; omega)
          have hiv := z1.iv
          unfold inv at hiv
          obtain ⟨Nn, r1, r2⟩ := runs (s := s) (by omega) c 20 G A B X Y 0 at' q1 q2 o (wtxt w) pp P hf (by omega) (by show (((0 : Nat) : Int)) + _ + _ ≤ 500; omega)
          have r1' : impl_FewestToSet.l0 20 (sd c) 0 A B o = some ((Nn : Int), true) := r1
          refine ⟨?_, fun _ => ⟨_, r1'⟩⟩
          rw [r1']
          have r2' : Ev (fun k => spec_FewestToSet.l0 k (sd c) 0 s) ((Nn : Int), true) := by
            have e : s ++ tl c 0 = s := app_nil s
            rw [e] at r2
            exact r2
          refine Ev.step hj (Ev.bind h3 (Ev.bind (won_set z1) (Ev.congr (fun k => ?_) r2')))
          rw [winner z1.iv, Option.bind_some, ho, if_pos wl_n]
      obtain ⟨hsf, hex⟩ := hsf
      have hspec : Ev (fun k => spec_FewestToSet.f k s (sd c)) (match ov a b with | none => (match impl_FewestToSet.l0 20 (sd c) 0 a b o with | some r => r | none => (0, false)) | some v => (0, (wtxt (some v)).toList == (sd c).toList)) := by
        refine Ev.bind h4 (Ev.congr (fun k => ?_) hsf)
        rw [if_pos rfl]
        cases c
        · rw [if_neg (by rw [sd_97]; decide), sd_97]; rfl
        · exact if_pos (sd_97 true)
      refine ⟨_, hspec, ?_⟩
      unfold impl_FewestToSet.f
      rw [h2, Option.bind_some, if_pos rfl, if_pos hside, setOver 1 a b h1.iv, Option.bind_some]
      cases ho : ov a b with
      | some v =>
        rw [if_neg (by rw [wl]; cases v <;> decide)]
      | none =>
        obtain ⟨r, hr⟩ := hex ho
        rw [if_pos wl_n]
        show impl_FewestToSet.l0 20 (sd c) 0 a b o = _
        rw [hr]
    · refine ⟨(0, false), Ev.bind h4 (Ev.congr (fun k => ?_) jt), ?_⟩
      · rw [if_pos rfl, if_neg (fun h => hside (.inl h)), bne_iff_ne.2 (fun h => hside (.inr h))]
      · unfold impl_FewestToSet.f
        rw [h2, Option.bind_some, if_pos rfl, if_neg hside]
  · refine ⟨(0, false), Ev.bind h2 (Ev.congr (fun k => by rw [if_neg Bool.false_ne_true]) jt), ?_⟩
    unfold impl_FewestToSet.f
    rw [h1, Option.bind_some, if_neg Bool.false_ne_true]
theorem FnExactFewestToSet : ∀ (a0 : ByteArray) (a1 : ByteArray), (a0.size ≤ 140737488351232) → (a1.size ≤ 140737488351232) → ∃ k, laws_FnExactFewestToSet.f k a0 a1 = some true := by
  intro s t hs _
  obtain ⟨r, h1, h2⟩ := both s t hs
  by_cases hb : (s.size : Int) > 1048576
  · exact ⟨0, by unfold laws_FnExactFewestToSet.f; rw [if_pos hb]⟩
  · by_cases hb2 : (t.size : Int) > 1048576
    · exact ⟨0, by unfold laws_FnExactFewestToSet.f; rw [if_neg hb, if_pos hb2]⟩
    · refine Ev.rounds (Ev.congr (fun k => by unfold laws_FnExactFewestToSet.f; rw [if_neg hb, if_neg hb2, h2]) (Ev.bind h1 (Ev.congr (f := fun _ => some true) (fun k => ?_) (Ev.now true))))
      rw [Option.bind_some, if_pos rfl, bne_self_eq_false, if_neg Bool.false_ne_true]
end Go.Proofs.YtjnkcgddalbojaaDoor.Pure
