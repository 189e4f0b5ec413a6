/- For all numbers of games, the program's FirstGameOrder answers what the reference's answers. (The pure statement behind the row: over numbers and lists alone.) -/
import Derived.Test.YtjnkcgddalbojaaDoorPAx51
import Derived.Test.YtjnkcgddalbojaaDoorPAx47
import Derived.Test.YtjnkcgddalbojaaDoorPAx50
import Derived.Test.YtjnkcgddalbojaaDoorPAx49
import Derived.Test.YtjnkcgddalbojaaDoorPAx48
import Derived.Test.YtjnkcgddalbojaaDoorPAx46
import Derived.Test.YtjnkcgddalbojaaDoorPAx2045
import Derived.Test.YtjnkcgddalbojaaDoorPAx1045
import Derived.Test.YtjnkcgddalbojaaDoorPAx1047
import Derived.Test.YtjnkcgddalbojaaDoorPAx33
import Derived.Test.YtjnkcgddalbojaaDoorPAx31
import Derived.Test.YtjnkcgddalbojaaDoorPAx8
import Derived.Test.YtjnkcgddalbojaaDoorPAx14
import Derived.Test.YtjnkcgddalbojaaDoorPAx2
import Derived.Test.YtjnkcgddalbojaaDoorPAx2001
import Derived.KernelRfl
import Derived.Laws.Strings
import Derived.Test.YtjnkcgddalbojaaDoorPAx16
import Derived.Test.YtjnkcgddalbojaaDoorPAx1022
import Derived.Test.YtjnkcgddalbojaaDoorPAx1029
import Derived.Test.YtjnkcgddalbojaaDoorPAx11
import Derived.Test.YtjnkcgddalbojaaDoorPAx1006
import Derived.Test.YtjnkcgddalbojaaDoorPAx1009
set_option linter.unusedSimpArgs false
set_option linter.unusedVariables false
namespace Go.Proofs.YtjnkcgddalbojaaDoor.Pure
open Go.RowKit Go.Proofs.YtjnkcgddalbojaaDoor.PA Go.Proofs.YtjnkcgddalbojaaDoorW.PrintWords Go.Proofs.YtjnkcgddalbojaaDoorW.PrintLast Go.Proofs.YtjnkcgddalbojaaDoorW.PrintMore

theorem w64 {i : Int} (h0 : -9223372036854775808 ≤ i) (h : i ≤ 9223372036854775807) : wrap64 i = i := by unfold wrap64; omega
theorem toList_mk (l : List UInt8) : (⟨l.toArray⟩ : ByteArray).toList = l := by rw [ByteArray.toList_eq]
theorem drop_nil (p : UInt8 → Bool) (m : List UInt8) (h : ∀ x ∈ m.dropWhile p, p x = true) : m.dropWhile p = [] := by
  induction m with
  | nil => rfl
  | cons a m ih =>
    by_cases ha : p a = true
    · rw [List.dropWhile_cons_of_pos ha] at h ⊢
      exact ih h
    · rw [List.dropWhile_cons_of_neg ha] at h
      exact absurd (h a (List.mem_cons_self ..)) ha
theorem drop_iff (p : UInt8 → Bool) (m : List UInt8) : m.dropWhile p = [] ↔ ∀ x ∈ m, p x = true := by
  induction m with
  | nil => simp
  | cons a m ih =>
    by_cases ha : p a = true
    · rw [List.dropWhile_cons_of_pos ha, ih]
      simp [ha]
    · rw [List.dropWhile_cons_of_neg ha]
      simp [ha]
theorem trim_nil (l cs : List UInt8) : Lib.trimS l cs = [] ↔ ∀ b ∈ l, cs.contains b = true := by
  unfold Lib.trimS Lib.trimLeftS Lib.trimRightS
  rw [drop_iff]
  constructor
  · intro h
    have h1 := drop_nil (cs.contains ·) l.reverse (fun x hx => h x (List.mem_reverse.2 hx))
    rw [drop_iff] at h1
    exact fun b hb => h1 b (List.mem_reverse.2 hb)
  · intro h x hx
    have h1 : l.reverse.dropWhile (cs.contains ·) = [] := (drop_iff _ _).2 (fun b hb => h b (List.mem_reverse.1 hb))
    rw [h1] at hx
    cases hx
theorem bytes_all (s : ByteArray) (p : UInt8 → Prop) : (∀ b ∈ s.data.toList, p b) ↔ ∀ (j : Nat) (h : j < s.size), p s[j] := by
  constructor
  · intro h j hj
    exact h _ (Array.getElem_mem_toList (xs := s.data) hj)
  · intro h b hb
    obtain ⟨i, hi, e⟩ := List.getElem_of_mem hb
    rw [← e]
    exact h i (by rw [Array.length_toList] at hi; exact hi)
theorem bt_get (s : ByteArray) (j : Nat) (h : j < s.size) : bt s (j : Int) = ((s[j]'h).toNat : Int) := by
  have := bt_at s (j : Int) (by simpa using h)
  rw [← this]
  rfl
/-! ### Points -/
def pt (s : ByteArray) (j : Nat) : Prop := bt s (j : Int) = 97 ∨ bt s (j : Int) = 98
instance (s : ByteArray) (j : Nat) : Decidable (pt s j) := by unfold pt; infer_instance
def pts (s : ByteArray) : Prop := ∀ j, j < s.size → pt s j
instance (s : ByteArray) : Decidable (pts s) := Nat.decidableBallLT s.size (fun j _ => pt s j)
def ptsB (m : Int) (s : ByteArray) : Bool := decide ((s.size : Int) ≤ m ∧ pts s)
theorem points_l0 (s : ByteArray) (hs : s.size ≤ 140737488351232) (d : Nat) : ∀ i : Nat, i + d = s.size →
    ((∀ j, i ≤ j → j < s.size → pt s j) → Ev (fun k => spec_tnPoints.l0 k s (i : Int)) true) ∧ (¬ (∀ j, i ≤ j → j < s.size → pt s j) → Ev (fun k => spec_tnPoints.l0 k s (i : Int)) false) := by
  induction d with
  | zero =>
    intro i hi
    refine ⟨fun _ => Ev.step (f := fun _ => some true) (fun k => ?_) (Ev.now _), fun h => absurd (fun j h1 h2 => by omega) h⟩
    simp only [spec_tnPoints.l0]; rw [if_neg (by omega)]
  | succ d ih =>
    intro i hi
    obtain ⟨h1, h2⟩ := ih (i + 1) (by omega)
    by_cases ho : pt s i
    · have step : ∀ k, spec_tnPoints.l0 (k + 1) s (i : Int) = spec_tnPoints.l0 k s ((i + 1 : Nat) : Int) := by
        intro k
        simp only [spec_tnPoints.l0]
        rw [if_pos (by omega), if_pos (by omega), w64 (i := (i : Int) + 1) (by omega) (by omega)]
        rcases ho with e | e
        · rw [if_pos e]; rfl
        · rw [if_neg (by omega), if_pos e]; rfl
      refine ⟨fun h => Ev.step step (h1 (fun j hj => h j (by omega))), fun h => Ev.step step (h2 (fun h' => h (fun j hj hjs => ?_)))⟩
      by_cases e : j = i
      · rw [e]; exact ho
      · exact h' j (by omega) hjs
    · refine ⟨fun h => absurd (h i (Nat.le_refl _) (by omega)) ho, fun _ => Ev.step (f := fun _ => some false) (fun k => ?_) (Ev.now _)⟩
      simp only [spec_tnPoints.l0]
      rw [if_pos (by omega), if_pos (by omega), if_neg (fun e => ho (.inl e)), if_neg (fun e => ho (.inr e))]
theorem points (s : ByteArray) (hs : s.size ≤ 140737488351232) : Ev (fun k => spec_tnPoints.f k s) (ptsB 300 s) := by
  by_cases h : (s.size : Int) > 300
  · have e : ptsB 300 s = false := decide_eq_false (fun h' => by have := h'.1; omega)
    rw [e]
    exact Ev.congr (f := fun _ => some false) (fun k => by unfold spec_tnPoints.f; rw [if_pos h]) (Ev.now _)
  · obtain ⟨h1, h2⟩ := points_l0 s hs s.size 0 (by omega)
    by_cases hp : pts s
    · have e : ptsB 300 s = true := decide_eq_true ⟨by omega, hp⟩
      rw [e]
      exact Ev.congr (fun k => by unfold spec_tnPoints.f; rw [if_neg h]; rfl) (h1 (fun j _ hj => hp j hj))
    · have e : ptsB 300 s = false := decide_eq_false (fun h' => hp h'.2)
      rw [e]
      exact Ev.congr (fun k => by unfold spec_tnPoints.f; rw [if_neg h]; rfl) (h2 (fun h' => hp (fun j hj => h' j (Nat.zero_le _) hj)))
theorem ab (b : UInt8) : ([97, 98] : List UInt8).contains b = true ↔ ((b.toNat : Int) = 97 ∨ (b.toNat : Int) = 98) := by
  have key : ∀ n : Fin 256, ([97, 98] : List UInt8).contains (UInt8.ofNat n.val) = decide ((n.val : Int) = 97 ∨ (n.val : Int) = 98) := by decide +kernel
  have h := key ⟨b.toNat, b.toNat_lt⟩
  simp only [UInt8.ofNat_toNat] at h
  rw [h, decide_eq_true_iff]
theorem trim_pts (s : ByteArray) : Lib.trimS s.data.toList [97, 98] = [] ↔ pts s := by
  rw [trim_nil, bytes_all s (fun b => ([97, 98] : List UInt8).contains b = true)]
  constructor
  · intro h j hj
    unfold pt
    rw [bt_get s j hj]
    exact (ab _).1 (h j hj)
  · intro h j hj
    have := h j hj
    unfold pt at this
    rw [bt_get s j hj] at this
    exact (ab _).2 this
theorem isPoints (s : ByteArray) (hs : s.size ≤ 140737488351232) (m : Int) : impl_isPoints.f s m = some (ptsB m s) := by
  unfold impl_isPoints.f
  by_cases h : (s.size : Int) ≤ m
  · have e : strings_Trim.f s (⟨#[97, 98]⟩ : ByteArray) = some ⟨(Lib.trimS s.data.toList [97, 98]).toArray⟩ := by
      unfold strings_Trim.f
      rw [if_pos ⟨by omega, by decide, by decide⟩]
    rw [if_pos h, e, Option.bind_some, toList_mk]
    by_cases hp : pts s
    · rw [(trim_pts s).2 hp, show ptsB m s = true from decide_eq_true ⟨h, hp⟩]; rfl
    · rw [show ptsB m s = false from decide_eq_false (fun h' => hp h'.2), beq_eq_false_iff_ne.2 (fun e => hp ((trim_pts s).1 e))]
  · rw [if_neg h, show ptsB m s = false from decide_eq_false (fun h' => h h'.1)]
/-! ### A race -/
def ended (rt a b : Int) : Bool := decide ((rt ≤ a ∨ rt ≤ b) ∧ (2 ≤ a - b ∨ 2 ≤ b - a))
/-- What a play of a race comes to: the points of both, how many points, has it ended. -/
def pl (rt : Int) : Int → Int → List Bool → Int × Int × Nat × Bool
  | a, b, [] => (a, b, 0, false)
  | a, b, c :: l => if ended rt (if c then a + 1 else a) (if c then b else b + 1) then (if c then a + 1 else a, if c then b else b + 1, 1, true)
      else ((pl rt (if c then a + 1 else a) (if c then b else b + 1) l).1, (pl rt (if c then a + 1 else a) (if c then b else b + 1) l).2.1, (pl rt (if c then a + 1 else a) (if c then b else b + 1) l).2.2.1 + 1, (pl rt (if c then a + 1 else a) (if c then b else b + 1) l).2.2.2)
def bits (s : ByteArray) (i : Nat) : Nat → List Bool
  | 0 => []
  | d + 1 => decide (bt s (i : Int) = 97) :: bits s (i + 1) d
theorem pl_many (rt : Int) (l : List Bool) : ∀ a b, (pl rt a b l).2.2.1 ≤ l.length ∧ ((pl rt a b l).2.2.2 = false → (pl rt a b l).2.2.1 = l.length) := by
  induction l with
  | nil => intro a b; exact ⟨Nat.le_refl _, fun _ => rfl⟩
  | cons c l ih =>
    intro a b
    simp only [pl]
    by_cases he : ended rt (if c then a + 1 else a) (if c then b else b + 1) = true
    · rw [if_pos he]
      exact ⟨by simp, fun h => by cases h⟩
    · rw [if_neg he]
      have h := ih (if c then a + 1 else a) (if c then b else b + 1)
      exact ⟨by simp only [List.length_cons]; omega, fun h2 => by simp only [List.length_cons]; rw [h.2 h2]⟩
theorem bits_length (s : ByteArray) (d : Nat) : ∀ i, (bits s i d).length = d := by
  induction d with
  | zero => intro i; rfl
  | succ d ih => intro i; simp only [bits, List.length_cons, ih]
theorem most (a b : Int) : spec_l1Most.f a b = some (max a b) := by
  unfold spec_l1Most.f
  by_cases h : a > b
  · rw [if_pos h, Int.max_eq_left (by omega)]
  · rw [if_neg h, Int.max_eq_right (by omega)]
theorem abs_eq (a : Int) (h0 : -9223372036854775807 ≤ a) (h1 : a ≤ 9223372036854775807) : spec_l1Abs.f a = some (max a (-a)) := by
  unfold spec_l1Abs.f
  rw [w64 (by omega) (by omega), most]; rfl
theorem play_l0 (s : ByteArray) (hs : s.size ≤ 140737488351232) (fr : Nat) (rt : Int) (d : Nat) : ∀ (i : Nat) (a b : Int), i + d = s.size → fr ≤ i → 0 ≤ a → a ≤ i → 0 ≤ b → b ≤ i →
    Ev (fun k => spec_tnPlay.l0 k s (fr : Int) a b (i : Int) rt 2) ((pl rt a b (bits s i d)).1, (pl rt a b (bits s i d)).2.1, ((i - fr + (pl rt a b (bits s i d)).2.2.1 : Nat) : Int), (pl rt a b (bits s i d)).2.2.2) := by
  induction d with
  | zero =>
    intro i a b hi hf ha ha2 hb hb2
    refine Ev.step (f := fun _ => some (a, b, ((i - fr + 0 : Nat) : Int), false)) (fun k => ?_) (Ev.now _)
    simp only [spec_tnPlay.l0]
    rw [if_neg (by omega), w64 (by omega) (by omega)]
    congr 4
    omega
  | succ d ih =>
    intro i a b hi hf ha ha2 hb hb2
    have j1 : ∀ (a b : Int), 0 ≤ a → a ≤ i + 1 → 0 ≤ b → b ≤ i + 1 → Ev (fun k => spec_tnPlay.j1 k s (fr : Int) a b (i : Int) rt 2) (if ended rt a b then (a, b, ((i - fr + 1 : Nat) : Int), true) else ((pl rt a b (bits s (i + 1) d)).1, (pl rt a b (bits s (i + 1) d)).2.1, ((i - fr + ((pl rt a b (bits s (i + 1) d)).2.2.1 + 1) : Nat) : Int), (pl rt a b (bits s (i + 1) d)).2.2.2)) := by
      intro a b ha ha2 hb hb2
      have e2 : wrap64 ((i : Int) + 1) = ((i + 1 : Nat) : Int) := by rw [w64 (by omega) (by omega)]; rfl
      have e3 : wrap64 (((i + 1 : Nat) : Int) - (fr : Int)) = ((i - fr + 1 : Nat) : Int) := by rw [w64 (by omega) (by omega)]; omega
      have e4 : wrap64 (a - b) = a - b := w64 (by omega) (by omega)
      have hi1 := ih (i + 1) a b (by omega) (by omega) ha (by omega) hb (by omega)
      have e5 : (i + 1 - fr + (pl rt a b (bits s (i + 1) d)).2.2.1) = (i - fr + ((pl rt a b (bits s (i + 1) d)).2.2.1 + 1)) := by omega
      rw [e5] at hi1
      have hgo : ∀ k, spec_tnPlay.j1 (k + 1) s (fr : Int) a b (i : Int) rt 2 = if ended rt a b then some (a, b, ((i - fr + 1 : Nat) : Int), true) else spec_tnPlay.l0 k s (fr : Int) a b ((i + 1 : Nat) : Int) rt 2 := by
        intro k
        simp only [spec_tnPlay.j1]
        rw [most, Option.bind_some, e4, abs_eq _ (by omega) (by omega), Option.bind_some, e2, e3]
        by_cases h1 : max a b ≥ rt
        · rw [if_pos h1]
          by_cases h2 : max (a - b) (-(a - b)) ≥ 2
          · rw [if_pos h2, show ended rt a b = true from decide_eq_true ⟨by omega, by omega⟩, if_pos rfl]
          · rw [if_neg h2, show ended rt a b = false from decide_eq_false (fun h => h2 (by have := h.2; omega)), if_neg Bool.false_ne_true]
        · rw [if_neg h1, show ended rt a b = false from decide_eq_false (fun h => h1 (by have := h.1; omega)), if_neg Bool.false_ne_true]
      by_cases he : ended rt a b = true
      · rw [if_pos he]
        exact Ev.step (f := fun _ => some (a, b, ((i - fr + 1 : Nat) : Int), true)) (fun k => by rw [hgo k, if_pos he]) (Ev.now _)
      · rw [if_neg he]
        exact Ev.step (fun k => by rw [hgo k, if_neg he]) hi1
    by_cases h97 : bt s (i : Int) = 97
    · have h := j1 (a + 1) b (by omega) (by omega) hb (by omega)
      refine Ev.step (f := fun k => spec_tnPlay.j1 k s (fr : Int) (a + 1) b (i : Int) rt 2) (fun k => ?_) ?_
      · simp only [spec_tnPlay.l0]
        rw [if_pos (by omega), if_pos (by omega), if_pos h97, w64 (i := a + 1) (by omega) (by omega)]
      · simp only [bits, h97, decide_true, pl, if_true]
        by_cases he : ended rt (a + 1) b = true
        · simp only [he, if_true] at h ⊢; exact h
        · simp only [he, if_false] at h ⊢; exact h
    · have h := j1 a (b + 1) ha (by omega) (by omega) (by omega)
      refine Ev.step (f := fun k => spec_tnPlay.j1 k s (fr : Int) a (b + 1) (i : Int) rt 2) (fun k => ?_) ?_
      · simp only [spec_tnPlay.l0]
        rw [if_pos (by omega), if_pos (by omega), if_neg h97, w64 (i := b + 1) (by omega) (by omega)]
      · simp only [bits, h97, decide_false, pl, Bool.false_eq_true, if_false]
        by_cases he : ended rt a (b + 1) = true
        · simp only [he, if_true] at h ⊢; exact h
        · simp only [he, if_false, Bool.false_eq_true] at h ⊢; exact h
/-! ### The program's follow -/
theorem decode_pt (s : ByteArray) (i : Nat) (h : i < s.size) (hp : pt s i) : ((Utf8.decode s i).1 : Int) = bt s (i : Int) ∧ (Utf8.decode s i).2 = 1 := by
  have e := bt_get s i h
  have ha : (s[i]'h).toNat < 128 := by unfold pt at hp; omega
  rw [decode_ascii s i h ha, e]
  exact ⟨rfl, rfl⟩
theorem won_eq (rt a b : Int) (ha : 0 ≤ a) (ha2 : a ≤ 140737488351232) (hb : 0 ≤ b) (hb2 : b ≤ 140737488351232) : impl_Race_hasWon.f rt 2 a b = some (decide (rt ≤ a ∧ 2 ≤ a - b)) := by
  unfold impl_Race_hasWon.f
  rw [w64 (i := a - b) (by omega) (by omega)]
  by_cases h : a ≥ rt
  · rw [if_pos h]
    by_cases h2 : a - b ≥ 2
    · rw [decide_eq_true h2, decide_eq_true ⟨h, h2⟩]
    · rw [decide_eq_false h2, decide_eq_false (fun h' => h2 h'.2)]
  · rw [if_neg h, decide_eq_false (fun h' => h h'.1)]
theorem follow_won (s : ByteArray) (hp : pts s) (rt : Int) (d : Nat) : ∀ (i k : Nat) (a b : Int) (x play : Bool), i + d = s.size → d < k →
    ∃ x' y', impl_follow.l0 k rt 2 s i a b (some x) play = some (x', y', some x, if d = 0 then play else false) ∧ (d = 0 → x' = a ∧ y' = b) := by
  induction d with
  | zero =>
    intro i k a b x play hi hk
    obtain ⟨k, rfl⟩ : ∃ m, k = m + 1 := ⟨k - 1, by omega⟩
    refine ⟨a, b, ?_, fun _ => ⟨rfl, rfl⟩⟩
    simp only [impl_follow.l0]
    rw [if_neg (by omega)]
    rfl
  | succ d ih =>
    intro i k a b x play hi hk
    obtain ⟨k, rfl⟩ : ∃ m, k = m + 1 := ⟨k - 1, by omega⟩
    obtain ⟨e1, e2⟩ := decode_pt s i (by omega) (hp i (by omega))
    by_cases h97 : bt s (i : Int) = 97
    · obtain ⟨x', y', h, _⟩ := ih (i + 1) k (wrap64 (a + 1)) b x false (by omega) (by omega)
      refine ⟨x', y', ?_, fun h => by cases h⟩
      simp only [impl_follow.l0]
      rw [if_pos (by omega), e1, e2, if_pos h97]
      simp only [impl_follow.next]
      rw [h]
      simp
    · obtain ⟨x', y', h, _⟩ := ih (i + 1) k a (wrap64 (b + 1)) x false (by omega) (by omega)
      refine ⟨x', y', ?_, fun h => by cases h⟩
      simp only [impl_follow.l0]
      rw [if_pos (by omega), e1, e2, if_neg h97]
      simp only [impl_follow.next]
      rw [h]
      simp
/-- Who has won a race that a play has come to. -/
def who (r : Int × Int × Nat × Bool) : Option Bool := if r.2.2.2 = true then some (decide (r.1 > r.2.1)) else none
theorem follow_l0 (s : ByteArray) (hp : pts s) (hs : s.size ≤ 140737488351232) (rt : Int) (hrt : 0 < rt) (d : Nat) : ∀ (i k : Nat) (a b : Int), i + d = s.size → d < k → 0 ≤ a → a ≤ i → 0 ≤ b → b ≤ i →
    ∃ x y w p, impl_follow.l0 k rt 2 s i a b none true = some (x, y, w, p) ∧ p = decide ((pl rt a b (bits s i d)).2.2.1 = d) ∧ (p = true → x = (pl rt a b (bits s i d)).1 ∧ y = (pl rt a b (bits s i d)).2.1 ∧ w = who (pl rt a b (bits s i d))) := by
  induction d with
  | zero =>
    intro i k a b hi hk ha ha2 hb hb2
    obtain ⟨k, rfl⟩ : ∃ m, k = m + 1 := ⟨k - 1, by omega⟩
    refine ⟨a, b, none, true, ?_, rfl, fun _ => ⟨rfl, rfl, rfl⟩⟩
    simp only [impl_follow.l0]
    rw [if_neg (by omega)]
  | succ d ih =>
    intro i k a b hi hk ha ha2 hb hb2
    obtain ⟨k, rfl⟩ : ∃ m, k = m + 1 := ⟨k - 1, by omega⟩
    obtain ⟨e1, e2⟩ := decode_pt s i (by omega) (hp i (by omega))
    have key : ∀ (a' b' : Int), 0 ≤ a' → a' ≤ i + 1 → 0 ≤ b' → b' ≤ i + 1 → ∀ r : Int × Int × Nat × Bool, r = (if ended rt a' b' then (a', b', 1, true) else ((pl rt a' b' (bits s (i + 1) d)).1, (pl rt a' b' (bits s (i + 1) d)).2.1, (pl rt a' b' (bits s (i + 1) d)).2.2.1 + 1, (pl rt a' b' (bits s (i + 1) d)).2.2.2)) →
        ∃ x y w p, impl_follow.next (impl_follow.l0 k rt 2 s (i + 1)) rt 2 a' b' none true = some (x, y, w, p) ∧ p = decide (r.2.2.1 = d + 1) ∧ (p = true → x = r.1 ∧ y = r.2.1 ∧ w = who r) := by
      intro a' b' ha' ha2' hb' hb2' r hr
      simp only [impl_follow.next]
      rw [won_eq rt a' b' ha' (by omega) hb' (by omega), won_eq rt b' a' hb' (by omega) ha' (by omega), Option.bind_some, Option.bind_some]
      by_cases h1 : rt ≤ a' ∧ 2 ≤ a' - b'
      · have he : ended rt a' b' = true := decide_eq_true ⟨.inl h1.1, .inl h1.2⟩
        rw [if_pos he] at hr
        subst hr
        rw [decide_eq_true h1, if_pos rfl]
        obtain ⟨x', y', h, h0⟩ := follow_won s hp rt d (i + 1) k a' b' true true (by omega) (by omega)
        refine ⟨x', y', _, _, h, ?_, fun hd => ?_⟩
        · by_cases hd : d = 0
          · subst hd; rfl
          · rw [if_neg hd]; exact (decide_eq_false (show ¬ ((1 : Nat) = d + 1) by omega)).symm
        · by_cases hd0 : d = 0
          · obtain ⟨rfl, rfl⟩ := h0 hd0
            refine ⟨rfl, rfl, ?_⟩
            show some true = (if true = true then some (decide (x' > y')) else none)
            rw [if_pos rfl, decide_eq_true (by omega)]
          · rw [if_neg hd0] at hd; cases hd
      · rw [decide_eq_false h1, if_neg Bool.false_ne_true]
        by_cases h2 : rt ≤ b' ∧ 2 ≤ b' - a'
        · have he : ended rt a' b' = true := decide_eq_true ⟨.inr h2.1, .inr h2.2⟩
          rw [if_pos he] at hr
          subst hr
          rw [decide_eq_true h2, if_pos rfl]
          obtain ⟨x', y', h, h0⟩ := follow_won s hp rt d (i + 1) k a' b' false true (by omega) (by omega)
          refine ⟨x', y', _, _, h, ?_, fun hd => ?_⟩
          · by_cases hd : d = 0
            · subst hd; rfl
            · rw [if_neg hd]; exact (decide_eq_false (show ¬ ((1 : Nat) = d + 1) by omega)).symm
          · by_cases hd0 : d = 0
            · obtain ⟨rfl, rfl⟩ := h0 hd0
              refine ⟨rfl, rfl, ?_⟩
              show some false = (if true = true then some (decide (x' > y')) else none)
              rw [if_pos rfl, decide_eq_false (by omega)]
            · rw [if_neg hd0] at hd; cases hd
        · have he : ended rt a' b' = false := decide_eq_false (fun h => by have := h.1; have := h.2; omega)
          rw [he, if_neg Bool.false_ne_true] at hr
          rw [decide_eq_false h2, if_neg Bool.false_ne_true]
          obtain ⟨x, y, w, p, h, hpp, hw⟩ := ih (i + 1) k a' b' (by omega) (by omega) ha' (by omega) hb' (by omega)
          refine ⟨x, y, w, p, h, ?_, fun hp1 => ?_⟩
          · rw [hpp, hr]
            simp
          · obtain ⟨h3, h4, h5⟩ := hw hp1
            rw [hr]
            exact ⟨h3, h4, h5⟩
    by_cases h97 : bt s (i : Int) = 97
    · have h := key (a + 1) b (by omega) (by omega) hb (by omega) _ rfl
      obtain ⟨x, y, w, p, h, hpp, hw⟩ := h
      refine ⟨x, y, w, p, ?_, ?_, ?_⟩
      · simp only [impl_follow.l0]
        rw [if_pos (by omega), e1, e2, if_pos h97, w64 (i := a + 1) (by omega) (by omega)]
        exact h
      · rw [hpp]; simp only [bits, h97, decide_true, pl, if_true]
      · intro hp1; have := hw hp1; simp only [bits, h97, decide_true, pl, if_true]; exact this
    · have h := key a (b + 1) ha (by omega) (by omega) (by omega) _ rfl
      obtain ⟨x, y, w, p, h, hpp, hw⟩ := h
      refine ⟨x, y, w, p, ?_, ?_, ?_⟩
      · simp only [impl_follow.l0]
        rw [if_pos (by omega), e1, e2, if_neg h97, w64 (i := b + 1) (by omega) (by omega)]
        exact h
      · rw [hpp]; simp only [bits, h97, decide_false, pl, Bool.false_eq_true, if_false]
      · intro hp1; have := hw hp1; simp only [bits, h97, decide_false, pl, Bool.false_eq_true, if_false]; exact this
def run (rt : Int) (s : ByteArray) : Int × Int × Nat × Bool := pl rt 0 0 (bits s 0 s.size)
theorem follow_g (s : ByteArray) (hp : pts s) (hs : s.size ≤ 140737488351232) (rt : Int) (hrt : 0 < rt) :
    ∃ x y w p, impl_follow.g rt 2 s = some (x, y, w, p) ∧ p = decide ((run rt s).2.2.1 = s.size) ∧ (p = true → x = (run rt s).1 ∧ y = (run rt s).2.1 ∧ w = who (run rt s)) :=
  follow_l0 s hp hs rt hrt s.size 0 (s.size + 1) 0 0 (by omega) (by omega) (by omega) (by omega) (by omega) (by omega)
theorem follow_f (s : ByteArray) (hp : pts s) (hs : s.size ≤ 140737488351232) (rt : Int) (hrt : 0 < rt) :
    ∃ x y w p, impl_follow.f rt 2 s = some (x, y, wtxt w, p) ∧ p = decide ((run rt s).2.2.1 = s.size) ∧ (p = true → x = (run rt s).1 ∧ y = (run rt s).2.1 ∧ w = who (run rt s)) := by
  obtain ⟨x, y, w, p, h, h2, h3⟩ := follow_g s hp hs rt hrt
  exact ⟨x, y, w, p, impl_follow.of_g h, h2, h3⟩
theorem play (s : ByteArray) (hs : s.size ≤ 140737488351232) (rt : Int) : Ev (fun k => spec_tnPlay.f k rt 2 s 0) ((run rt s).1, (run rt s).2.1, ((run rt s).2.2.1 : Int), (run rt s).2.2.2) := by
  have h := play_l0 s hs 0 rt s.size 0 0 0 (by omega) (by omega) (by omega) (by omega) (by omega) (by omega)
  have e : (0 - 0 + (pl rt 0 0 (bits s 0 s.size)).2.2.1) = (run rt s).2.2.1 := by unfold run; omega
  rw [e] at h
  exact h
def isGame (rt : Int) (s : ByteArray) : Bool := ptsB 300 s && decide ((run rt s).2.2.1 = s.size)
theorem tnIs (s : ByteArray) (hs : s.size ≤ 140737488351232) (rt : Int) : Ev (fun k => spec_tnIs.f k rt 2 s) (isGame rt s) := by
  refine Ev.bind (play s hs rt) (Ev.bind (points s hs) ?_)
  unfold isGame
  cases ptsB 300 s
  · exact Ev.congr (f := fun _ => some false) (fun k => by rw [if_neg Bool.false_ne_true]) (Ev.now _)
  · refine Ev.congr (f := fun _ => some (decide ((run rt s).2.2.1 = s.size))) (fun k => ?_) (Ev.now _)
    rw [if_pos rfl]
    congr 1
    show (((run rt s).2.2.1 : Int) == (s.size : Int)) = _
    by_cases h : (run rt s).2.2.1 = s.size
    · rw [h, decide_eq_true rfl]; exact beq_self_eq_true _
    · rw [decide_eq_false h]; exact beq_eq_false_iff_ne.2 (by omega)
theorem game (s : ByteArray) (hs : s.size ≤ 140737488351232) : impl_IsTennisGame.f s = some (isGame 4 s) := by
  unfold impl_IsTennisGame.f
  rw [isPoints s hs, Option.bind_some]
  unfold isGame
  by_cases h : ptsB 300 s = true
  · have hp : pts s := (of_decide_eq_true h).2
    obtain ⟨x, y, w, p, hf, h2, _⟩ := follow_f s hp hs 4 (by omega)
    rw [h, if_pos rfl]
    simp only [impl_tennis.f, Option.bind_some]
    rw [hf, Option.bind_some, h2]
    simp
  · rw [Bool.not_eq_true] at h
    rw [h, if_neg Bool.false_ne_true]
    rfl
/-! ### Games -/
/-- Whose a set is with so many games. -/
def ov (a b : Int) : Option Bool := if a = 7 ∨ 6 ≤ a ∧ 2 ≤ a - b then some true else if b = 7 ∨ 6 ≤ b ∧ 2 ≤ b - a then some false else none
def inv (a b : Int) : Prop := 0 ≤ a ∧ a ≤ 7 ∧ 0 ≤ b ∧ b ≤ 7 ∧ (a ≤ 6 ∨ b ≤ 6)
theorem setOver (k : Nat) (a b : Int) (h : inv a b) : impl_setOver.f (k + 1) a b = some (wtxt (ov a b)) := by
  obtain ⟨h1, h2, h3, h4, h5⟩ := h
  have e1 : wrap64 (a - b) = a - b := w64 (by omega) (by omega)
  have e2 : wrap64 (b - a) = b - a := w64 (by omega) (by omega)
  unfold impl_setOver.f ov
  simp only [impl_setOver.j0]
  rw [e1, e2]
  by_cases ha : a = 7
  · rw [if_pos ha, if_pos (Or.inl ha)]; rfl
  · rw [if_neg ha]
    by_cases ha6 : a ≥ 6
    · rw [if_pos ha6]
      by_cases hd : a - b ≥ 2
      · rw [decide_eq_true hd, if_pos rfl, if_pos (Or.inr ⟨ha6, hd⟩)]; rfl
      · rw [decide_eq_false hd, if_neg Bool.false_ne_true, if_neg (show ¬ (a = 7 ∨ 6 ≤ a ∧ 2 ≤ a - b) by omega)]
        by_cases hb : b = 7
        · rw [if_pos hb, if_pos (Or.inl hb)]; rfl
        · rw [if_neg hb]
          by_cases hb6 : b ≥ 6
          · rw [if_pos hb6]
            by_cases hd2 : b - a ≥ 2
            · rw [if_pos hd2, if_pos (Or.inr ⟨hb6, hd2⟩)]; rfl
            · rw [if_neg hd2, if_neg (show ¬ (b = 7 ∨ 6 ≤ b ∧ 2 ≤ b - a) by omega)]; rfl
          · rw [if_neg hb6, if_neg (show ¬ (b = 7 ∨ 6 ≤ b ∧ 2 ≤ b - a) by omega)]; rfl
    · rw [if_neg ha6, if_neg Bool.false_ne_true, if_neg (show ¬ (a = 7 ∨ 6 ≤ a ∧ 2 ≤ a - b) by omega)]
      by_cases hb : b = 7
      · rw [if_pos hb, if_pos (Or.inl hb)]; rfl
      · rw [if_neg hb]
        by_cases hb6 : b ≥ 6
        · rw [if_pos hb6]
          by_cases hd2 : b - a ≥ 2
          · rw [if_pos hd2, if_pos (Or.inr ⟨hb6, hd2⟩)]; rfl
          · rw [if_neg hd2, if_neg (show ¬ (b = 7 ∨ 6 ≤ b ∧ 2 ≤ b - a) by omega)]; rfl
        · rw [if_neg hb6, if_neg (show ¬ (b = 7 ∨ 6 ≤ b ∧ 2 ≤ b - a) by omega)]; rfl
theorem ov_none {a b : Int} : ov a b = none ↔ ¬ (a = 7 ∨ 6 ≤ a ∧ 2 ≤ a - b) ∧ ¬ (b = 7 ∨ 6 ≤ b ∧ 2 ≤ b - a) := by
  unfold ov
  by_cases h1 : a = 7 ∨ 6 ≤ a ∧ 2 ≤ a - b
  · rw [if_pos h1]; exact ⟨fun h => (by cases h), fun h => absurd h1 h.1⟩
  · rw [if_neg h1]
    by_cases h2 : b = 7 ∨ 6 ≤ b ∧ 2 ≤ b - a
    · rw [if_pos h2]; exact ⟨fun h => (by cases h), fun h => absurd h2 h.2⟩
    · rw [if_neg h2]; exact ⟨fun _ => ⟨h1, h2⟩, fun _ => rfl⟩
theorem tnOver (a b : Int) (h : inv a b) : spec_tnOver.f a b = some (ov a b).isSome := by
  obtain ⟨h1, h2, h3, h4, h5⟩ := h
  have e4 : wrap64 (a - b) = a - b := w64 (by omega) (by omega)
  unfold spec_tnOver.f
  rw [most, Option.bind_some, e4, abs_eq _ (by omega) (by omega), Option.bind_some, Option.bind_some]
  cases ho : ov a b with
  | none =>
    have h0 := ov_none.1 ho
    by_cases h6 : max a b ≥ 6
    · rw [if_pos h6, if_neg (by omega), beq_eq_false_iff_ne.2 (by omega)]; rfl
    · rw [if_neg h6, beq_eq_false_iff_ne.2 (by omega)]; rfl
  | some x =>
    have h0 : ¬ (¬ (a = 7 ∨ 6 ≤ a ∧ 2 ≤ a - b) ∧ ¬ (b = 7 ∨ 6 ≤ b ∧ 2 ≤ b - a)) := fun h => by rw [ov_none.2 h] at ho; cases ho
    rw [if_pos (by omega)]
    by_cases hd : max (a - b) (-(a - b)) ≥ 2
    · rw [if_pos hd]; rfl
    · rw [if_neg hd, beq_iff_eq.2 (show max a b = 7 by omega)]; rfl
theorem inv_next {a b : Int} (h : inv a b) (ho : ov a b = none) : inv (a + 1) b ∧ inv a (b + 1) := by
  have h0 := ov_none.1 ho
  unfold inv at h ⊢
  omega
/-- How many games among the first n are won by a. -/
def cnt (s : ByteArray) : Nat → Int
  | 0 => 0
  | n + 1 => cnt s n + if bt s (n : Int) = 97 then 1 else 0
theorem cnt_le (s : ByteArray) (n : Nat) : 0 ≤ cnt s n ∧ cnt s n ≤ n := by
  induction n with
  | zero => exact ⟨Int.le_refl _, Int.le_refl _⟩
  | succ n ih =>
    simp only [cnt]
    by_cases h : bt s (n : Int) = 97
    · rw [if_pos h]; omega
    · rw [if_neg h]; omega
theorem won_l0 (s : ByteArray) (hs : s.size ≤ 140737488351232) (d : Nat) : ∀ i : Nat, i + d = s.size → Ev (fun k => spec_tnWon.l0 k s (cnt s i) (i : Int)) (cnt s s.size, (s.size : Int) - cnt s s.size) := by
  induction d with
  | zero =>
    intro i hi
    obtain rfl : i = s.size := by omega
    have hc := cnt_le s s.size
    refine Ev.step (f := fun _ => some (cnt s s.size, (s.size : Int) - cnt s s.size)) (fun k => ?_) (Ev.now _)
    simp only [spec_tnWon.l0]
    rw [if_neg (by omega), w64 (by omega) (by omega)]
  | succ d ih =>
    intro i hi
    have hc := cnt_le s i
    refine Ev.step (fun k => ?_) (ih (i + 1) (by omega))
    simp only [spec_tnWon.l0]
    rw [if_pos (by omega), if_pos (by omega), w64 (i := (i : Int) + 1) (by omega) (by omega)]
    simp only [cnt]
    by_cases h : bt s (i : Int) = 97
    · rw [if_pos h, if_pos h, w64 (by omega) (by omega)]; rfl
    · rw [if_neg h, if_neg h, Int.add_zero]; rfl
theorem won (s : ByteArray) (hs : s.size ≤ 140737488351232) : Ev (fun k => spec_tnWon.f k s) (cnt s s.size, (s.size : Int) - cnt s s.size) := won_l0 s hs s.size 0 (by omega)
theorem bt_extract (s : ByteArray) (i e j : Nat) (hj : i + j < e) (he : e ≤ s.size) : bt (s.extract i e) (j : Int) = bt s ((i + j : Nat) : Int) := by
  have h1 : j < (s.extract i e).size := by rw [ByteArray.size_extract]; omega
  rw [bt_get _ j h1, bt_get s (i + j) (by omega)]
  congr 2
  exact ByteArray.getElem_extract ..
theorem cnt_prefix (s : ByteArray) (e : Nat) (he : e ≤ s.size) (n : Nat) (hn : n ≤ e) : cnt (s.extract 0 e) n = cnt s n := by
  induction n with
  | zero => rfl
  | succ n ih =>
    simp only [cnt]
    rw [ih (by omega), bt_extract s 0 e n (by omega) he, Nat.zero_add]
theorem won_prefix (s : ByteArray) (hs : s.size ≤ 140737488351232) (e : Nat) (he : e ≤ s.size) : Ev (fun k => spec_tnWon.f k (s.extract 0 e)) (cnt s e, (e : Int) - cnt s e) := by
  have hz : (s.extract 0 e).size = e := by rw [ByteArray.size_extract]; omega
  have h := won (s.extract 0 e) (by omega)
  rw [hz, cnt_prefix s e he e (Nat.le_refl _)] at h
  exact h
/-! ### Game orders -/
def ord (s : ByteArray) (i : Nat) : Nat → Bool
  | 0 => true
  | d + 1 => (ov (cnt s i) ((i : Int) - cnt s i)).isNone && ord s (i + 1) d
theorem next_inv (s : ByteArray) (i : Nat) (h : inv (cnt s i) ((i : Int) - cnt s i)) (ho : ov (cnt s i) ((i : Int) - cnt s i) = none) : inv (cnt s (i + 1)) (((i + 1 : Nat) : Int) - cnt s (i + 1)) := by
  obtain ⟨h1, h2⟩ := inv_next h ho
  simp only [cnt]
  by_cases h97 : bt s (i : Int) = 97
  · rw [if_pos h97]
    have e : ((i + 1 : Nat) : Int) - (cnt s i + 1) = (i : Int) - cnt s i := by omega
    rw [e]; exact h1
  · rw [if_neg h97]
    have e : ((i + 1 : Nat) : Int) - (cnt s i + 0) = (i : Int) - cnt s i + 1 := by omega
    rw [e, Int.add_zero]; exact h2
theorem impl_ord (s : ByteArray) (hp : pts s) (d : Nat) : ∀ (i k : Nat), i + d = s.size → d < k → inv (cnt s i) ((i : Int) - cnt s i) → impl_IsGameOrder.l0 k s i (cnt s i) ((i : Int) - cnt s i) = some (ord s i d) := by
  induction d with
  | zero =>
    intro i k hi hk hv
    obtain ⟨k, rfl⟩ : ∃ m, k = m + 1 := ⟨k - 1, by omega⟩
    simp only [impl_IsGameOrder.l0]
    rw [if_neg (by omega)]; rfl
  | succ d ih =>
    intro i k hi hk hv
    obtain ⟨k, rfl⟩ : ∃ m, k = m + 1 := ⟨k - 1, by omega⟩
    obtain ⟨e1, e2⟩ := decode_pt s i (by omega) (hp i (by omega))
    have hc := cnt_le s i
    have hv' := hv
    unfold inv at hv'
    simp only [impl_IsGameOrder.l0, ord]
    rw [if_pos (by omega), setOver 1 _ _ hv, Option.bind_some]
    cases ho : ov (cnt s i) ((i : Int) - cnt s i) with
    | none =>
      have hn := ih (i + 1) k (by omega) (by omega) (next_inv s i hv ho)
      rw [if_pos (show (wtxt none).toList = [45] from toList_mk [45]), e1, e2]
      by_cases h97 : bt s (i : Int) = 97
      · have c1 : cnt s (i + 1) = cnt s i + 1 := by simp only [cnt]; rw [if_pos h97]
        have c2 : ((i + 1 : Nat) : Int) - cnt s (i + 1) = (i : Int) - cnt s i := by omega
        rw [if_pos h97, w64 (by omega) (by omega), ← c1, ← c2, hn]
        simp
      · have c1 : cnt s (i + 1) = cnt s i := by simp only [cnt]; rw [if_neg h97]; omega
        have c2 : ((i + 1 : Nat) : Int) - cnt s (i + 1) = (i : Int) - cnt s i + 1 := by omega
        rw [if_neg h97, w64 (by omega) (by omega), ← c2, ← c1, hn]
        simp
    | some x =>
      have hne : ¬ (wtxt (some x)).toList = [45] := by
        cases x
        · rw [show (wtxt (some false)).toList = [98] from toList_mk [98]]; decide
        · rw [show (wtxt (some true)).toList = [97] from toList_mk [97]]; decide
      rw [if_neg hne]
      simp
theorem spec_ord (s : ByteArray) (hs : s.size ≤ 140737488351232) (d : Nat) : ∀ (i : Nat), i + d = s.size → inv (cnt s i) ((i : Int) - cnt s i) → Ev (fun k => spec_tnOrder.l0 k s (i : Int)) (ord s i d) := by
  induction d with
  | zero =>
    intro i hi hv
    refine Ev.step (f := fun _ => some true) (fun k => ?_) (Ev.now _)
    simp only [spec_tnOrder.l0]
    rw [if_neg (by omega)]
  | succ d ih =>
    intro i hi hv
    have hw := won_prefix s hs i (by omega)
    refine Ev.step (f := fun k => (spec_tnWon.f k (s.extract 0 i)).bind fun bt265 => ((spec_tnOver.f bt265.1 bt265.2).bind fun t267 => (if t267 = true then (some false) else (spec_tnOrder.l0 k s ((i + 1 : Nat) : Int))))) (fun k => ?_) (Ev.bind hw ?_)
    · simp only [spec_tnOrder.l0]
      rw [if_pos (by omega), if_pos (by omega), if_pos (by omega), w64 (i := (i : Int) + 1) (by omega) (by omega)]
      rfl
    · cases ho : ov (cnt s i) ((i : Int) - cnt s i) with
      | none =>
        have hn := ih (i + 1) (by omega) (next_inv s i hv ho)
        simp only [ord, ho, Option.isNone_none, Bool.true_and]
        exact Ev.congr (fun k => by rw [tnOver _ _ hv, ho, Option.bind_some, if_neg (by simp)]) hn
      | some x =>
        simp only [ord, ho, Option.isNone_some, Bool.false_and]
        exact Ev.congr (f := fun _ => some false) (fun k => by rw [tnOver _ _ hv, ho, Option.bind_some, if_pos (by simp)]) (Ev.now _)
theorem inv0 : inv 0 0 := by unfold inv; omega
def order (s : ByteArray) : Bool := ptsB 13 s && ord s 0 s.size
theorem impl_order (s : ByteArray) (hs : s.size ≤ 140737488351232) : impl_IsGameOrder.f s = some (order s) := by
  unfold impl_IsGameOrder.f order
  rw [isPoints s hs, Option.bind_some]
  by_cases h : ptsB 13 s = true
  · rw [h, if_pos rfl, Bool.true_and]
    exact impl_ord s (of_decide_eq_true h).2 s.size 0 (s.size + 1) (by omega) (by omega) inv0
  · rw [Bool.not_eq_true] at h
    rw [h, if_neg Bool.false_ne_true, Bool.false_and]
theorem spec_order (s : ByteArray) (hs : s.size ≤ 140737488351232) : Ev (fun k => spec_tnOrder.f k s) (order s) := by
  unfold order
  by_cases h13 : (s.size : Int) > 13
  · rw [show ptsB 13 s = false from decide_eq_false (fun h => by have := h.1; omega), Bool.false_and]
    refine Ev.congr (f := fun k => spec_tnOrder.j0 k s true) (fun k => by unfold spec_tnOrder.f; rw [if_pos h13]) (Ev.step (f := fun _ => some false) (fun k => ?_) (Ev.now _))
    simp only [spec_tnOrder.j0]; rw [if_pos trivial]
  · have e : ptsB 300 s = ptsB 13 s := by
      unfold ptsB
      exact decide_eq_decide.2 ⟨fun h => ⟨by omega, h.2⟩, fun h => ⟨by omega, h.2⟩⟩
    refine Ev.congr (f := fun k => (spec_tnPoints.f k s).bind fun t264 => (spec_tnOrder.j0 k s (!t264))) (fun k => by unfold spec_tnOrder.f; rw [if_neg h13]) (Ev.bind (points s hs) ?_)
    rw [e]
    cases ptsB 13 s
    · exact Ev.step (f := fun _ => some false) (fun k => by simp only [spec_tnOrder.j0]; rw [if_pos (by simp)]) (Ev.now _)
    · rw [Bool.true_and]
      refine Ev.step (fun k => ?_) (spec_ord s hs s.size 0 (by omega) inv0)
      simp only [spec_tnOrder.j0]; rw [if_neg (by simp)]; rfl
namespace Fo
theorem w64 {i : Int} (h0 : -9223372036854775808 ≤ i) (h : i ≤ 9223372036854775807) : wrap64 i = i := by unfold wrap64; omega
theorem w64s {i n : Nat} (h : i < n) (hn : n ≤ 4611686018427387904) : wrap64 ((i : Int) + 1) = ((i + 1 : Nat) : Int) := by rw [w64 (by omega) (by omega)]; omega
/-! ### A set's end, told on small numbers -/
def over (i j : Nat) : Bool := Nat.beq i 7 || Nat.beq j 7 || (Nat.ble 6 i && Nat.ble (j + 2) i) || (Nat.ble 6 j && Nat.ble (i + 2) j)
/-- The orders in which i and j won games go on to a and b, and no set is over before. -/
def cnt (a b : Nat) : Nat → Nat → Nat → Nat
  | 0, i, j => if i = a ∧ j = b then 1 else 0
  | d + 1, i, j => if i = a ∧ j = b then 1 else if over i j = true then 0 else (if i < a then cnt a b d (i + 1) j else 0) + (if j < b then cnt a b d i (j + 1) else 0)
def prevA (r : Nat → Nat → Nat) : Nat → Nat → Nat
  | 0, _ => 0
  | i + 1, b => if over i b = true then 0 else r i b
def prevB (r : Nat → Nat → Nat) (a : Nat) : Nat → Nat
  | 0 => 0
  | j + 1 => if over a j = true then 0 else r a j
def back : Nat → Nat → Nat → Nat
  | 0, a, b => if a = 0 ∧ b = 0 then 1 else 0
  | d + 1, a, b => if a = 0 ∧ b = 0 then 1 else prevA (back d) a b + prevB (back d) a b
theorem same : (List.range 8).all (fun a => (List.range 8).all (fun b => Nat.beq (cnt a b 14 0 0) (back 14 a b))) = true := by kernel_rfl
theorem same_of (a b : Nat) (ha : a ≤ 7) (hb : b ≤ 7) : cnt a b 14 0 0 = back 14 a b := by
  have h := List.all_eq_true.1 (List.all_eq_true.1 same a (List.mem_range.2 (by omega))) b (List.mem_range.2 (by omega))
  exact Nat.eq_of_beq_eq_true h
theorem cnt_le (a b : Nat) : ∀ d i j, cnt a b d i j ≤ 2 ^ d
  | 0, i, j => by
    unfold cnt
    by_cases h : i = a ∧ j = b
    · rw [if_pos h]; exact Nat.le_refl _
    · rw [if_neg h]; exact Nat.zero_le _
  | d + 1, i, j => by
    have h1 := cnt_le a b d (i + 1) j
    have h2 := cnt_le a b d i (j + 1)
    have h3 : 2 ^ (d + 1) = 2 ^ d + 2 ^ d := by rw [Nat.pow_succ]; omega
    have h4 : 0 < 2 ^ d := Nat.pow_pos (by omega)
    rw [h3]
    unfold cnt
    split
    · omega
    · split
      · omega
      · split <;> split <;> omega
theorem back_le : ∀ d a b, back d a b ≤ 2 ^ d
  | 0, i, j => by
    unfold back
    by_cases h : i = 0 ∧ j = 0
    · rw [if_pos h]; exact Nat.le_refl _
    · rw [if_neg h]; exact Nat.zero_le _
  | d + 1, i, j => by
    have h3 : 2 ^ (d + 1) = 2 ^ d + 2 ^ d := by rw [Nat.pow_succ]; omega
    have h4 : 0 < 2 ^ d := Nat.pow_pos (by omega)
    rw [h3]
    unfold back
    have ha : prevA (back d) i j ≤ 2 ^ d := by
      cases i with
      | zero => exact Nat.zero_le _
      | succ i =>
        show (if over i j = true then 0 else back d i j) ≤ 2 ^ d
        split
        · omega
        · exact back_le d _ _
    have hb : prevB (back d) i j ≤ 2 ^ d := by
      cases j with
      | zero => exact Nat.zero_le _
      | succ j =>
        show (if over i j = true then 0 else back d i j) ≤ 2 ^ d
        split
        · omega
        · exact back_le d _ _
    split
    · omega
    · omega
/-! ### The reference's -/
theorem most (a b : Int) : spec_l1Most.f a b = some (if a > b then a else b) := by
  unfold spec_l1Most.f; by_cases h : a > b
  · rw [if_pos h, if_pos h]
  · rw [if_neg h, if_neg h]
theorem abs_ (a : Int) (h : -1000 ≤ a ∧ a ≤ 1000) : spec_l1Abs.f a = some (if a > -a then a else -a) := by
  unfold spec_l1Abs.f
  rw [most, w64 (by omega) (by omega)]; rfl
theorem tnOver (i j : Nat) (hi : i ≤ 7) (hj : j ≤ 7) : spec_tnOver.f (i : Int) (j : Int) = some (over i j) := by
  have key : (List.range 8).all (fun i => (List.range 8).all (fun j => decide (spec_tnOver.f (i : Int) (j : Int) = some (over i j)))) = true := by kernel_rfl
  exact of_decide_eq_true (List.all_eq_true.1 (List.all_eq_true.1 key i (List.mem_range.2 (by omega))) j (List.mem_range.2 (by omega)))
def str (l : List UInt8) : ByteArray := ⟨l.toArray⟩
theorem str_size (l : List UInt8) : (str l).size = l.length := rfl
theorem str_a (l : List UInt8) : str l ++ (⟨#[97]⟩ : ByteArray) = str (l ++ [97]) := by
  apply ByteArray.ext
  rw [ByteArray.data_append]
  simp [str]
theorem str_b (l : List UInt8) : str l ++ (⟨#[98]⟩ : ByteArray) = str (l ++ [98]) := by
  apply ByteArray.ext
  rw [ByteArray.data_append]
  simp [str]
def wonA (l : List UInt8) : Nat := l.countP (fun c => c == 97)
theorem wonA_le (l : List UInt8) : wonA l ≤ l.length := List.countP_le_length
theorem bt_str (l : List UInt8) (i : Nat) (h : i < l.length) : bt (str l) (i : Int) = (((l[i]'h).toNat : Nat) : Int) := by
  unfold bt
  rw [dif_pos (by rw [Int.toNat_natCast, str_size]; exact h)]
  rfl
theorem won_l0 (l : List UInt8) (hl : l.length ≤ 1000) (d : Nat) : ∀ (i a : Nat), i + d = l.length → a ≤ i → Ev (fun k => spec_tnWon.l0 k (str l) (a : Int) (i : Int)) (((a + wonA (l.drop i) : Nat) : Int), (((l.length - (a + wonA (l.drop i))) : Nat) : Int)) := by
  induction d with
  | zero =>
    intro i a hi ha
    rw [List.drop_of_length_le (by omega)]
    refine Ev.step (f := fun _ => some ((a : Int), ((l.length - a : Nat) : Int))) (fun k => ?_) (Ev.now _)
    simp only [spec_tnWon.l0]
    rw [str_size, if_neg (by omega), w64 (by omega) (by omega), show ((l.length : Int) - (a : Int)) = ((l.length - a : Nat) : Int) by omega]
  | succ d ih =>
    intro i a hi ha
    have hlt : i < l.length := by omega
    have hd : l.drop i = l[i] :: l.drop (i + 1) := List.drop_eq_getElem_cons hlt
    rw [hd]
    by_cases hc : l[i] = 97
    · have e : a + wonA (l[i] :: l.drop (i + 1)) = (a + 1) + wonA (l.drop (i + 1)) := by
        unfold wonA
        rw [List.countP_cons_of_pos (by rw [hc]; rfl)]; omega
      rw [e]
      refine Ev.step (fun k => ?_) (ih (i + 1) (a + 1) (by omega) (by omega))
      simp only [spec_tnWon.l0]
      rw [str_size, if_pos (by omega), if_pos (by omega), bt_str l i hlt, if_pos (by rw [hc]; rfl), w64s (n := 2000) (by omega) (by omega), w64s (n := 2000) (by omega) (by omega)]
    · have e : a + wonA (l[i] :: l.drop (i + 1)) = a + wonA (l.drop (i + 1)) := by
        unfold wonA
        rw [List.countP_cons_of_neg (by simpa using hc)]
      rw [e]
      refine Ev.step (fun k => ?_) (ih (i + 1) a (by omega) (by omega))
      simp only [spec_tnWon.l0]
      rw [str_size, if_pos (by omega), if_pos (by omega), bt_str l i hlt, if_neg (fun h => hc (UInt8.toNat_inj.1 (by have : (l[i].toNat : Int) = 97 := h; show l[i].toNat = 97; omega))), w64s (n := 2000) (by omega) (by omega)]
theorem won (l : List UInt8) (hl : l.length ≤ 1000) : Ev (fun k => spec_tnWon.f k (str l)) ((wonA l : Int), ((l.length - wonA l : Nat) : Int)) := by
  have h := won_l0 l hl l.length 0 0 (by omega) (by omega)
  rw [List.drop_zero, Nat.zero_add] at h
  exact Ev.congr (fun k => rfl) h
theorem wonA_a (l : List UInt8) : wonA (l ++ [97]) = wonA l + 1 := by unfold wonA; rw [List.countP_append]; rfl
theorem wonA_b (l : List UInt8) : wonA (l ++ [98]) = wonA l := by unfold wonA; rw [List.countP_append]; rfl
theorem orders_step (a b : Nat) (l : List UInt8) (hl : l.length ≤ 100) (r : List ByteArray) (h : Ev (fun k => spec_tnOrders.j0 k (a : Int) (b : Int) (str l) (wonA l : Int) ((l.length - wonA l : Nat) : Int) (decide (wonA l = a ∧ l.length - wonA l = b))) r) : Ev (fun k => spec_tnOrders.f k (a : Int) (b : Int) (str l)) r := by
  refine Ev.step (f := fun k => (spec_tnWon.f k (str l)).bind fun bt108 => (if bt108.1 = (a : Int) then (spec_tnOrders.j0 k (a : Int) (b : Int) (str l) bt108.1 bt108.2 (bt108.2 == (b : Int))) else (spec_tnOrders.j0 k (a : Int) (b : Int) (str l) bt108.1 bt108.2 false))) (fun k => by simp only [spec_tnOrders.f]) (Ev.bind (won l (by omega)) ?_)
  refine Ev.congr (fun k => ?_) h
  by_cases h1 : wonA l = a
  · rw [if_pos (by show (wonA l : Int) = (a : Int); omega)]
    show spec_tnOrders.j0 k (a : Int) (b : Int) (str l) (wonA l : Int) ((l.length - wonA l : Nat) : Int) (((l.length - wonA l : Nat) : Int) == (b : Int)) = _
    congr 1
    by_cases h2 : l.length - wonA l = b
    · rw [decide_eq_true ⟨h1, h2⟩, h2]; exact beq_self_eq_true _
    · rw [decide_eq_false (fun x => h2 x.2)]; exact beq_eq_false_iff_ne.2 (by omega)
  · rw [if_neg (by show ¬ (wonA l : Int) = (a : Int); omega), decide_eq_false (fun x => h1 x.1)]
/-- The first of the orders, told by what is still to come. -/
def first (a b : Nat) : Nat → Nat → Nat → Option (List UInt8)
  | 0, i, j => if i = a ∧ j = b then some [] else none
  | d + 1, i, j => if i = a ∧ j = b then some [] else if over i j = true then none else (if i < a then (first a b d (i + 1) j).map (97 :: ·) else none).or (if j < b then (first a b d i (j + 1)).map (98 :: ·) else none)
theorem map_cons (l : List UInt8) (c : UInt8) (o : Option (List UInt8)) : (o.map (c :: ·)).map (fun t => str (l ++ t)) = o.map (fun t => str ((l ++ [c]) ++ t)) := by
  cases o with
  | none => rfl
  | some t => simp
theorem orders (a b : Nat) (ha : a ≤ 7) (hb : b ≤ 7) : ∀ (d : Nat) (l : List UInt8), wonA l ≤ a → l.length - wonA l ≤ b → l.length + d = 14 → ∃ r, Ev (fun k => spec_tnOrders.f k (a : Int) (b : Int) (str l)) r ∧ r.length = cnt a b d (wonA l) (l.length - wonA l) ∧ r.head? = (first a b d (wonA l) (l.length - wonA l)).map (fun t => str (l ++ t))
  | 0, l, hi, hj, hd => by
    have hw := wonA_le l
    refine ⟨[str l], orders_step a b l (by omega) _ ?_, ?_, ?_⟩
    · refine Ev.step (f := fun _ => some [str l]) (fun k => ?_) (Ev.now _)
      simp only [spec_tnOrders.j0]
      rw [if_pos (decide_eq_true (by omega))]
    · unfold cnt
      rw [if_pos (by omega)]; rfl
    · unfold first
      rw [if_pos (by omega)]; simp
  | d + 1, l, hi, hj, hd => by
    have hw := wonA_le l
    have hlen : l.length ≤ 100 := by omega
    by_cases hend : wonA l = a ∧ l.length - wonA l = b
    · refine ⟨[str l], orders_step a b l (by omega) _ ?_, ?_, ?_⟩
      · refine Ev.step (f := fun _ => some [str l]) (fun k => ?_) (Ev.now _)
        simp only [spec_tnOrders.j0]
        rw [if_pos (decide_eq_true hend)]
      · unfold cnt
        rw [if_pos hend]; rfl
      · unfold first
        rw [if_pos hend]; simp
    · cases hov : over (wonA l) (l.length - wonA l)
      · have go : ∀ r, Ev (fun k => if (wonA l : Int) < (a : Int) then (if (str l).size + 1 ≤ 9223372036854775807 then ((spec_tnOrders.f k (a : Int) (b : Int) (str l ++ (⟨#[97]⟩ : ByteArray))).bind fun t114 => (if ((l.length - wonA l : Nat) : Int) < (b : Int) then ((spec_tnOrders.f k (a : Int) (b : Int) (str l ++ (⟨#[98]⟩ : ByteArray))).bind fun t117 => (if t114.length + t117.length < 8796093022208 then (some (t114 ++ t117)) else (none))) else (some t114))) else (none)) else (if ((l.length - wonA l : Nat) : Int) < (b : Int) then (if (str l).size + 1 ≤ 9223372036854775807 then ((spec_tnOrders.f k (a : Int) (b : Int) (str l ++ (⟨#[98]⟩ : ByteArray))).bind fun t123 => (if ([] : List ByteArray).length + t123.length < 8796093022208 then (some (([] : List ByteArray) ++ t123)) else (none))) else (none)) else (some ([] : List ByteArray)))) r → Ev (fun k => spec_tnOrders.f k (a : Int) (b : Int) (str l)) r := by
          intro r h
          refine orders_step a b l hlen _ (Ev.step (fun k => ?_) h)
          simp only [spec_tnOrders.j0]
          rw [decide_eq_false hend, if_neg Bool.false_ne_true, tnOver _ _ (by omega) (by omega), Option.bind_some, hov, if_neg Bool.false_ne_true]
        have ec : cnt a b (d + 1) (wonA l) (l.length - wonA l) = (if wonA l < a then cnt a b d (wonA l + 1) (l.length - wonA l) else 0) + (if l.length - wonA l < b then cnt a b d (wonA l) (l.length - wonA l + 1) else 0) := by
          conv => lhs; unfold cnt
          rw [if_neg hend, hov, if_neg Bool.false_ne_true]
        have ef : first a b (d + 1) (wonA l) (l.length - wonA l) = (if wonA l < a then (first a b d (wonA l + 1) (l.length - wonA l)).map (97 :: ·) else none).or (if l.length - wonA l < b then (first a b d (wonA l) (l.length - wonA l + 1)).map (98 :: ·) else none) := by
          conv => lhs; unfold first
          rw [if_neg hend, hov, if_neg Bool.false_ne_true]
        have ihA : wonA l < a → ∃ r, Ev (fun k => spec_tnOrders.f k (a : Int) (b : Int) (str l ++ (⟨#[97]⟩ : ByteArray))) r ∧ r.length = cnt a b d (wonA l + 1) (l.length - wonA l) ∧ r.head? = (first a b d (wonA l + 1) (l.length - wonA l)).map (fun t => str ((l ++ [97]) ++ t)) := by
          intro hlt
          have hla : (l ++ [(97 : UInt8)]).length = l.length + 1 := by simp
          obtain ⟨r, h1, h2, h3⟩ := orders a b ha hb d (l ++ [97]) (by rw [wonA_a]; omega) (by rw [wonA_a, hla]; omega) (by rw [hla]; omega)
          refine ⟨r, by rw [str_a]; exact h1, ?_, ?_⟩
          · rw [h2, wonA_a, hla, show l.length + 1 - (wonA l + 1) = l.length - wonA l by omega]
          · rw [h3, wonA_a, hla, show l.length + 1 - (wonA l + 1) = l.length - wonA l by omega]
        have ihB : l.length - wonA l < b → ∃ r, Ev (fun k => spec_tnOrders.f k (a : Int) (b : Int) (str l ++ (⟨#[98]⟩ : ByteArray))) r ∧ r.length = cnt a b d (wonA l) (l.length - wonA l + 1) ∧ r.head? = (first a b d (wonA l) (l.length - wonA l + 1)).map (fun t => str ((l ++ [98]) ++ t)) := by
          intro hlt
          have hlb : (l ++ [(98 : UInt8)]).length = l.length + 1 := by simp
          obtain ⟨r, h1, h2, h3⟩ := orders a b ha hb d (l ++ [98]) (by rw [wonA_b]; omega) (by rw [wonA_b, hlb]; omega) (by rw [hlb]; omega)
          refine ⟨r, by rw [str_b]; exact h1, ?_, ?_⟩
          · rw [h2, wonA_b, hlb, show l.length + 1 - wonA l = l.length - wonA l + 1 from Nat.succ_sub hw]
          · rw [h3, wonA_b, hlb, show l.length + 1 - wonA l = l.length - wonA l + 1 from Nat.succ_sub hw]
        have hd14 : 2 ^ d ≤ 2 ^ 14 := Nat.pow_le_pow_right (by omega) (by omega)
        have h14 : (2 : Nat) ^ 14 = 16384 := by decide
        have hca := cnt_le a b d (wonA l + 1) (l.length - wonA l)
        have hcb := cnt_le a b d (wonA l) (l.length - wonA l + 1)
        rw [ec]
        by_cases hA : wonA l < a
        · obtain ⟨ra, ea, la, fa⟩ := ihA hA
          rw [if_pos hA]
          by_cases hB : l.length - wonA l < b
          · obtain ⟨rb, eb, lb, fb⟩ := ihB hB
            rw [if_pos hB]
            refine ⟨ra ++ rb, go _ ?_, by rw [List.length_append, la, lb], by rw [ef, if_pos hA, if_pos hB, List.head?_append, fa, fb, Option.map_or, map_cons, map_cons]⟩
            refine Ev.congr (fun k => by rw [if_pos (show (wonA l : Int) < (a : Int) by omega), if_pos (show (str l).size + 1 ≤ 9223372036854775807 by rw [str_size]; omega)]) (Ev.bind ea ?_)
            refine Ev.congr (fun k => by rw [if_pos (show ((l.length - wonA l : Nat) : Int) < (b : Int) by omega)]) (Ev.bind eb ?_)
            exact Ev.congr (fun k => by rw [if_pos (show ra.length + rb.length < 8796093022208 by omega)]) (Ev.now _)
          · rw [if_neg hB]
            refine ⟨ra, go _ ?_, by rw [la]; omega, by rw [ef, if_pos hA, if_neg hB, fa, Option.map_or, map_cons]; simp⟩
            refine Ev.congr (fun k => by rw [if_pos (show (wonA l : Int) < (a : Int) by omega), if_pos (show (str l).size + 1 ≤ 9223372036854775807 by rw [str_size]; omega)]) (Ev.bind ea ?_)
            exact Ev.congr (fun k => by rw [if_neg (show ¬ ((l.length - wonA l : Nat) : Int) < (b : Int) by omega)]) (Ev.now _)
        · rw [if_neg hA]
          by_cases hB : l.length - wonA l < b
          · obtain ⟨rb, eb, lb, fb⟩ := ihB hB
            rw [if_pos hB]
            refine ⟨rb, go _ ?_, by rw [lb]; omega, by rw [ef, if_neg hA, if_pos hB, fb, Option.map_or, map_cons]; simp⟩
            refine Ev.congr (fun k => by rw [if_neg (show ¬ (wonA l : Int) < (a : Int) by omega), if_pos (show ((l.length - wonA l : Nat) : Int) < (b : Int) by omega), if_pos (show (str l).size + 1 ≤ 9223372036854775807 by rw [str_size]; omega)]) (Ev.bind eb ?_)
            exact Ev.congr (fun k => by rw [if_pos (show ([] : List ByteArray).length + rb.length < 8796093022208 by rw [List.length_nil]; omega), List.nil_append]) (Ev.now _)
          · rw [if_neg hB]
            refine ⟨[], go _ ?_, rfl, by rw [ef, if_neg hA, if_neg hB]; rfl⟩
            exact Ev.congr (fun k => by rw [if_neg (show ¬ (wonA l : Int) < (a : Int) by omega), if_neg (show ¬ ((l.length - wonA l : Nat) : Int) < (b : Int) by omega)]) (Ev.now _)
      · refine ⟨[], orders_step a b l hlen _ ?_, ?_, ?_⟩
        · refine Ev.step (f := fun _ => some []) (fun k => ?_) (Ev.now _)
          simp only [spec_tnOrders.j0]
          rw [decide_eq_false hend, if_neg Bool.false_ne_true, tnOver _ _ (by omega) (by omega), Option.bind_some, hov, if_pos rfl]
        · conv => rhs; unfold cnt
          rw [if_neg hend, hov, if_pos rfl]; rfl
        · conv => rhs; unfold first
          rw [if_neg hend, hov, if_pos rfl]; rfl
/-! ### The program's -/
theorem dash_l : (⟨#[45]⟩ : ByteArray).toList = [45] := ByteArray.toList_eq _
theorem aa_l : (⟨#[97]⟩ : ByteArray).toList = [97] := ByteArray.toList_eq _
theorem bb_l : (⟨#[98]⟩ : ByteArray).toList = [98] := ByteArray.toList_eq _
theorem setOver (i j : Nat) (hi : i ≤ 7) (hj : j ≤ 7) : ∃ s : ByteArray, Ev (fun k => impl_setOver.f k (i : Int) (j : Int)) s ∧ ((s.toList = [45]) ↔ over i j = false) := by
  have key : (List.range 8).all (fun i => (List.range 8).all (fun j => decide (impl_setOver.f 1 (i : Int) (j : Int) = some (⟨#[45]⟩ : ByteArray) ∧ over i j = false) || decide ((impl_setOver.f 1 (i : Int) (j : Int) = some (⟨#[97]⟩ : ByteArray) ∨ impl_setOver.f 1 (i : Int) (j : Int) = some (⟨#[98]⟩ : ByteArray)) ∧ over i j = true))) = true := by kernel_rfl
  have h := List.all_eq_true.1 (List.all_eq_true.1 key i (List.mem_range.2 (by omega))) j (List.mem_range.2 (by omega))
  rw [Bool.or_eq_true] at h
  rcases h with h | h
  · have := of_decide_eq_true h
    refine ⟨_, Ev.of (fun k => impl_setOver.mono _ _ k) this.1, ?_⟩
    rw [this.2]; exact ⟨fun _ => rfl, fun _ => dash_l⟩
  · have := of_decide_eq_true h
    rcases this.1 with h1 | h1
    · refine ⟨_, Ev.of (fun k => impl_setOver.mono _ _ k) h1, ?_⟩
      rw [this.2, aa_l]; exact ⟨fun x => absurd x (by decide), fun x => absurd x (by decide)⟩
    · refine ⟨_, Ev.of (fun k => impl_setOver.mono _ _ k) h1, ?_⟩
      rw [this.2, bb_l]; exact ⟨fun x => absurd x (by decide), fun x => absurd x (by decide)⟩
theorem go_j2 (a b x : Nat) (ha : a ≤ 7) (hb : b ≤ 7) (hx : x ≤ 16384) (d : Nat) (hd : d ≤ 14) (hrec : ∀ j, b = j + 1 → Ev (fun k => impl_gameOrders.f k (a : Int) (j : Int)) (back d a j : Int)) : Ev (fun k => impl_gameOrders.j2 k (a : Int) (b : Int) (x : Int)) ((x + prevB (back d) a b : Nat) : Int) := by
  cases b with
  | zero =>
    refine Ev.step (f := fun _ => some ((x + 0 : Nat) : Int)) (fun k => ?_) (Ev.now _)
    simp only [impl_gameOrders.j2]
    rw [if_neg (by omega)]; rfl
  | succ j =>
    obtain ⟨s, hs, hsl⟩ := setOver a j ha (by omega)
    have hbk := back_le d a j
    have h14 : 2 ^ d ≤ 2 ^ 14 := Nat.pow_le_pow_right (by omega) hd
    have h15 : (2 : Nat) ^ 14 = 16384 := by decide
    refine Ev.step (f := fun k => (impl_setOver.f k (a : Int) (j : Int)).bind fun t135 => (if t135.toList = ([45] : List UInt8) then ((impl_gameOrders.f k (a : Int) (j : Int)).bind fun t136 => (some (wrap64 ((x : Int) + t136)))) else (some (x : Int)))) (fun k => ?_) (Ev.bind hs ?_)
    · simp only [impl_gameOrders.j2]
      rw [if_pos (by omega), w64 (i := ((j + 1 : Nat) : Int) - 1) (by omega) (by omega), show ((j + 1 : Nat) : Int) - 1 = (j : Int) by omega]
    · cases ho : over a j
      · refine Ev.congr (fun k => by rw [if_pos (hsl.2 ho)]) (Ev.bind (hrec j rfl) ?_)
        refine Ev.congr (fun k => ?_) (Ev.now _)
        rw [w64 (by omega) (by omega)]
        show _ = some (((x + (if over a j = true then 0 else back d a j) : Nat)) : Int)
        rw [ho, if_neg Bool.false_ne_true]
        congr 1
      · refine Ev.congr (fun k => ?_) (Ev.now _)
        rw [if_neg (fun h => by rw [hsl.1 h] at ho; exact Bool.false_ne_true ho)]
        show _ = some (((x + (if over a j = true then 0 else back d a j) : Nat)) : Int)
        rw [ho, if_pos rfl]; rfl
theorem gameOrders : ∀ (d a b : Nat), a ≤ 7 → b ≤ 7 → a + b ≤ d → d ≤ 14 → Ev (fun k => impl_gameOrders.f k (a : Int) (b : Int)) (back d a b : Int)
  | 0, a, b, ha, hb, hd, _ => by
    have h0 : a = 0 ∧ b = 0 := by omega
    obtain ⟨rfl, rfl⟩ := h0
    refine Ev.step (f := fun k => impl_gameOrders.j0 k ((0 : Nat) : Int) ((0 : Nat) : Int) true) (fun k => by simp only [impl_gameOrders.f]; rw [if_pos (by rfl)]; rfl) (Ev.step (f := fun _ => some 1) (fun k => by simp only [impl_gameOrders.j0]; rw [if_pos trivial]) (Ev.now _))
  | d + 1, a, b, ha, hb, hd, hd14 => by
    by_cases h0 : a = 0 ∧ b = 0
    · obtain ⟨rfl, rfl⟩ := h0
      refine Ev.step (f := fun k => impl_gameOrders.j0 k ((0 : Nat) : Int) ((0 : Nat) : Int) true) (fun k => by simp only [impl_gameOrders.f]; rw [if_pos (by rfl)]; rfl) (Ev.step (f := fun _ => some 1) (fun k => by simp only [impl_gameOrders.j0]; rw [if_pos trivial]) (Ev.now _))
    · have hj0 : ∀ k, impl_gameOrders.f (k + 1) (a : Int) (b : Int) = impl_gameOrders.j0 k (a : Int) (b : Int) false := by
        intro k
        simp only [impl_gameOrders.f]
        by_cases h1 : a = 0
        · rw [if_pos (by omega), beq_eq_false_iff_ne.2 (by omega)]
        · rw [if_neg (by omega)]
      refine Ev.step hj0 ?_
      have eb : back (d + 1) a b = prevA (back d) a b + prevB (back d) a b := by
        conv => lhs; unfold back
        rw [if_neg h0]
      rw [eb]
      have h14 : 2 ^ d ≤ 2 ^ 14 := Nat.pow_le_pow_right (by omega) (by omega)
      have h15 : (2 : Nat) ^ 14 = 16384 := by decide
      have hrecB : ∀ j, b = j + 1 → Ev (fun k => impl_gameOrders.f k (a : Int) (j : Int)) (back d a j : Int) := fun j hj => gameOrders d a j ha (by omega) (by omega) (by omega)
      cases a with
      | zero =>
        have h2 := go_j2 0 b 0 (by omega) hb (by omega) d (by omega) hrecB
        have ez : prevA (back d) 0 b = 0 := rfl
        rw [ez]
        refine Ev.step (f := fun k => impl_gameOrders.j1 k ((0 : Nat) : Int) (b : Int) 0 false) (fun k => by simp only [impl_gameOrders.j0]; rw [if_neg Bool.false_ne_true, if_neg (by omega)]) (Ev.step (fun k => by simp only [impl_gameOrders.j1]; rw [if_neg Bool.false_ne_true]; rfl) h2)
      | succ i =>
        have ea : prevA (back d) (i + 1) b = if over i b = true then 0 else back d i b := rfl
        rw [ea]
        obtain ⟨s, hs, hsl⟩ := setOver i b (by omega) hb
        have hbk := back_le d i b
        refine Ev.step (f := fun k => (impl_setOver.f k (i : Int) (b : Int)).bind fun t133 => impl_gameOrders.j1 k ((i + 1 : Nat) : Int) (b : Int) 0 (t133.toList == ([45] : List UInt8))) (fun k => ?_) (Ev.bind hs ?_)
        · simp only [impl_gameOrders.j0]
          rw [if_neg Bool.false_ne_true, if_pos (by omega), w64 (i := ((i + 1 : Nat) : Int) - 1) (by omega) (by omega), show ((i + 1 : Nat) : Int) - 1 = (i : Int) by omega]
        · cases ho : over i b
          · have h2 := go_j2 (i + 1) b (back d i b) ha hb (by omega) d (by omega) hrecB
            have h3 := gameOrders d i b (by omega) hb (by omega) (by omega)
            refine Ev.step (f := fun k => (impl_gameOrders.f k (i : Int) (b : Int)).bind fun t134 => impl_gameOrders.j2 k ((i + 1 : Nat) : Int) (b : Int) (wrap64 (0 + t134))) (fun k => ?_) (Ev.bind h3 ?_)
            · rw [hsl.2 ho]
              simp only [impl_gameOrders.j1]
              rw [if_pos (by rfl), w64 (i := ((i + 1 : Nat) : Int) - 1) (by omega) (by omega), show ((i + 1 : Nat) : Int) - 1 = (i : Int) by omega]
            · rw [if_neg Bool.false_ne_true]
              exact Ev.congr (fun k => by rw [Int.zero_add, w64 (by omega) (by omega)]) h2
          · have h2 := go_j2 (i + 1) b 0 ha hb (by omega) d (by omega) hrecB
            rw [if_pos rfl]
            refine Ev.step (fun k => ?_) h2
            rw [show (s.toList == ([45] : List UInt8)) = false from beq_eq_false_iff_ne.2 (fun h => by rw [hsl.1 h] at ho; exact Bool.false_ne_true ho)]
            simp only [impl_gameOrders.j1]
            rw [if_neg Bool.false_ne_true]; rfl
theorem in_eq (a b c : Int) : spec_l1In.f a b c = some (decide (b ≤ a ∧ a ≤ c)) := by
  unfold spec_l1In.f; by_cases h : b ≤ a <;> simp [h]
theorem within_eq (a b c : Int) : impl_within.f a b c = some (decide (b ≤ a ∧ a ≤ c)) := by
  unfold impl_within.f; by_cases h : b ≤ a <;> simp [h]
theorem back_more (a b : Nat) (ha : a ≤ 7) (hb : b ≤ 7) : back 14 a b = cnt a b 14 0 0 := (same_of a b ha hb).symm
def val (a b : Int) : Int × Bool := if (0 ≤ a ∧ a ≤ 7) ∧ (0 ≤ b ∧ b ≤ 7) then ((cnt a.toNat b.toNat 14 0 0 : Int), true) else (0, false)
theorem impl_v (a b : Int) : Ev (fun k => impl_CountGameOrders.f k a b) (val a b) := by
  by_cases ha : 0 ≤ a ∧ a ≤ 7
  · by_cases hb : 0 ≤ b ∧ b ≤ 7
    · have h1 := gameOrders 14 a.toNat b.toNat (by omega) (by omega) (by omega) (by omega)
      rw [show ((a.toNat : Nat) : Int) = a by omega, show ((b.toNat : Nat) : Int) = b by omega, back_more _ _ (by omega) (by omega)] at h1
      unfold val
      rw [if_pos ⟨ha, hb⟩]
      refine Ev.congr (f := fun k => (impl_gameOrders.f k a b).bind fun t => some (t, true)) (fun k => ?_) (Ev.bind h1 (Ev.now _))
      unfold impl_CountGameOrders.f
      rw [within_eq, decide_eq_true ha, Option.bind_some, if_pos rfl, within_eq, decide_eq_true hb, Option.bind_some, if_pos rfl]
    · unfold val
      rw [if_neg (fun h => hb h.2)]
      exact Ev.congr (fun k => by unfold impl_CountGameOrders.f; rw [within_eq, decide_eq_true ha, Option.bind_some, if_pos rfl, within_eq, decide_eq_false hb, Option.bind_some, if_neg Bool.false_ne_true]) (Ev.now _)
  · unfold val
    rw [if_neg (fun h => ha h.1)]
    exact Ev.congr (fun k => by unfold impl_CountGameOrders.f; rw [within_eq, decide_eq_false ha, Option.bind_some, if_neg Bool.false_ne_true]) (Ev.now _)
/-! ### The program's search -/
def AB (l : List UInt8) : Prop := ∀ c ∈ l, c = 97 ∨ c = 98
theorem AB_snoc {l : List UInt8} (h : AB l) {c : UInt8} (hc : c = 97 ∨ c = 98) : AB (l ++ [c]) := by
  intro x hx
  rcases List.mem_append.1 hx with hx | hx
  · exact h x hx
  · rw [List.mem_singleton.1 hx]; exact hc
theorem count_b (l : List UInt8) (h : AB l) : l.count 98 = l.length - wonA l := by
  have key : l.count 98 + wonA l = l.length := by
    induction l with
    | nil => rfl
    | cons c l ih =>
      have ih := ih (fun x hx => h x (List.mem_cons_of_mem _ hx))
      unfold wonA at ih ⊢
      rcases h c List.mem_cons_self with rfl | rfl
      · rw [List.count_cons_of_ne (by decide), List.countP_cons_of_pos (by decide), List.length_cons]; omega
      · rw [List.count_cons_self, List.countP_cons_of_neg (by decide), List.length_cons]; omega
  omega
theorem bt_left (g t : ByteArray) (j : Nat) (h : j < g.size) : bt (g ++ t) (j : Int) = bt g (j : Int) := by
  rw [bt_get _ j (by rw [ByteArray.size_append]; omega), bt_get g j h]
  congr 2
  exact ByteArray.getElem_append_left h
theorem cnt_left (g t : ByteArray) (n : Nat) (h : n ≤ g.size) : Pure.cnt (g ++ t) n = Pure.cnt g n := by
  induction n with
  | zero => rfl
  | succ n ih =>
    simp only [Pure.cnt]
    rw [ih (by omega), bt_left g t n (by omega)]
theorem cnt_take (l : List UInt8) (n : Nat) (hn : n ≤ l.length) : Pure.cnt (str l) n = ((wonA (l.take n) : Nat) : Int) := by
  induction n with
  | zero => rfl
  | succ n ih =>
    simp only [Pure.cnt]
    rw [ih (by omega), bt_str l n (by omega), List.take_succ_eq_append_getElem (by omega)]
    unfold wonA
    rw [List.countP_append]
    by_cases hc : l[n] = 97
    · rw [if_pos (by rw [hc]; rfl), hc]; simp
    · rw [if_neg (fun h => hc (UInt8.toNat_inj.1 (by have : (l[n].toNat : Int) = 97 := h; show l[n].toNat = 97; omega))), List.countP_cons_of_neg (by simpa using hc)]; simp
theorem cnt_all (l : List UInt8) : Pure.cnt (str l) l.length = ((wonA l : Nat) : Int) := by rw [cnt_take l l.length (Nat.le_refl _), List.take_length]
theorem ord_snoc (s : ByteArray) (d : Nat) : ∀ i, ord s i (d + 1) = (ord s i d && (ov (Pure.cnt s (i + d)) (((i + d : Nat) : Int) - Pure.cnt s (i + d))).isNone) := by
  induction d with
  | zero => intro i; simp [ord]
  | succ d ih =>
    intro i
    rw [show ord s i (d + 1 + 1) = ((ov (Pure.cnt s i) ((i : Int) - Pure.cnt s i)).isNone && ord s (i + 1) (d + 1)) from rfl, ih (i + 1), show ord s i (d + 1) = ((ov (Pure.cnt s i) ((i : Int) - Pure.cnt s i)).isNone && ord s (i + 1) d) from rfl, show i + 1 + d = i + (d + 1) by omega, Bool.and_assoc]
theorem ord_left (g t : ByteArray) (d : Nat) : ∀ i, i + d ≤ g.size → ord (g ++ t) i d = ord g i d := by
  induction d with
  | zero => intro i _; rfl
  | succ d ih =>
    intro i h
    simp only [ord]
    rw [cnt_left g t i (by omega), ih (i + 1) (by omega)]
theorem ov_over_all : (List.range 8).all (fun i => (List.range 8).all (fun j => decide ((ov (i : Int) (j : Int)).isNone = !(over i j)))) = true := by kernel_rfl
theorem ov_over (i j : Nat) (hi : i ≤ 7) (hj : j ≤ 7) : (ov (i : Int) (j : Int)).isNone = !(over i j) :=
  of_decide_eq_true (List.all_eq_true.1 (List.all_eq_true.1 ov_over_all i (List.mem_range.2 (by omega))) j (List.mem_range.2 (by omega)))
theorem pts_str (l : List UInt8) (h : AB l) : pts (str l) := by
  intro j hj
  unfold pt
  rw [bt_str l j hj]
  rcases h _ (List.getElem_mem hj) with e | e
  · left; rw [e]; rfl
  · right; rw [e]; rfl
theorem snoc (l : List UInt8) (c : UInt8) (hc : c = 97 ∨ c = 98) : str (l ++ [c]) = str l ++ (⟨#[c]⟩ : ByteArray) := by
  rcases hc with rfl | rfl
  · exact (str_a l).symm
  · exact (str_b l).symm
theorem order_snoc (l : List UInt8) (hl : l.length + 1 ≤ 13) (hAB : AB l) (ho : order (str l) = true) (c : UInt8) (hc : c = 97 ∨ c = 98) (h7 : wonA l ≤ 7) (h7' : l.length - wonA l ≤ 7) : order (str (l ++ [c])) = !(over (wonA l) (l.length - wonA l)) := by
  have hw := wonA_le l
  unfold order at ho ⊢
  rw [Bool.and_eq_true] at ho
  have hsz : (str (l ++ [c])).size = l.length + 1 := by rw [str_size, List.length_append]; rfl
  have hp : ptsB 13 (str (l ++ [c])) = true := decide_eq_true ⟨by rw [hsz]; omega, pts_str _ (AB_snoc hAB hc)⟩
  rw [hp, Bool.true_and, hsz, ord_snoc, snoc l c hc, ord_left (str l) _ l.length 0 (by rw [str_size]; omega)]
  have e1 : ord (str l) 0 l.length = true := ho.2
  rw [e1, Bool.true_and, Nat.zero_add, cnt_left (str l) _ l.length (Nat.le_of_eq (str_size l).symm), cnt_all, show ((l.length : Nat) : Int) - ((wonA l : Nat) : Int) = ((l.length - wonA l : Nat) : Int) by omega, ov_over _ _ h7 h7']
def res (l : List UInt8) : Option (List UInt8) → ByteArray × Bool
  | some t => (str (l ++ t), true)
  | none => (⟨#[]⟩, false)
theorem cb_a (l : List UInt8) : ((Lib.countByte (str l).data.toList 97 : Nat) : Int) = ((wonA l : Nat) : Int) := rfl
theorem cb_b (l : List UInt8) (h : AB l) : ((Lib.countByte (str l).data.toList 98 : Nat) : Int) = ((l.length - wonA l : Nat) : Int) := by
  show ((l.count 98 : Nat) : Int) = _
  rw [count_b l h]
theorem dead (a b : Nat) (l : List UInt8) (hAB : AB l) (hl : l.length ≤ 14) (h : wonA l > a ∨ l.length - wonA l > b ∨ order (str l) = false) : Ev (fun k => impl_FirstGameOrder.find k (a : Int) (b : Int) (str l)) (⟨#[]⟩, false) := by
  refine Ev.step (f := fun _ => some (⟨#[]⟩, false)) (fun k => ?_) (Ev.now _)
  simp only [impl_FirstGameOrder.find]
  rw [cb_a, cb_b l hAB]
  by_cases h1 : wonA l > a
  · rw [if_pos (by omega)]
  · rw [if_neg (by omega)]
    by_cases h2 : l.length - wonA l > b
    · rw [if_pos (by omega)]
    · rw [if_neg (by omega), impl_order (str l) (by rw [str_size]; omega), Option.bind_some, (h.resolve_left h1).resolve_left h2, if_neg Bool.false_ne_true]
theorem find_eq (a b : Nat) (ha : a ≤ 7) (hb : b ≤ 7) (hab : a + b ≤ 13) : ∀ (d : Nat) (l : List UInt8), AB l → order (str l) = true → wonA l ≤ a → l.length - wonA l ≤ b → l.length + d = 14 →
    Ev (fun k => impl_FirstGameOrder.find k (a : Int) (b : Int) (str l)) (res l (first a b d (wonA l) (l.length - wonA l)))
  | 0, l, _, _, hi, hj, hd => by
    have hw := wonA_le l
    omega
  | d + 1, l, hAB, ho, hi, hj, hd => by
    have hw := wonA_le l
    have hlen : l.length ≤ 13 := by omega
    have hla : (l ++ [(97 : UInt8)]).length = l.length + 1 := by simp
    have hlb : (l ++ [(98 : UInt8)]).length = l.length + 1 := by simp
    have hABa := AB_snoc hAB (c := 97) (.inl rfl)
    have hABb := AB_snoc hAB (c := 98) (.inr rfl)
    have hsz : (str l).size ≤ 1000 := by rw [str_size]; omega
    have hstep : ∀ k, impl_FirstGameOrder.find (k + 1) (a : Int) (b : Int) (str l) = if wonA l = a ∧ l.length - wonA l = b then some (str l, true) else impl_FirstGameOrder.next (impl_FirstGameOrder.find k (a : Int) (b : Int)) (str l) := by
      intro k
      simp only [impl_FirstGameOrder.find]
      rw [cb_a, cb_b l hAB, if_neg (by omega), if_neg (by omega), impl_order (str l) (by rw [str_size]; omega), Option.bind_some, ho, if_pos rfl]
      by_cases h1 : wonA l = a
      · rw [if_pos (by omega)]
        by_cases h2 : l.length - wonA l = b
        · rw [if_pos (by omega), if_pos ⟨h1, h2⟩]
        · rw [if_neg (by omega), if_neg (fun h => h2 h.2)]
      · rw [if_neg (by omega), if_neg (fun h => h1 h.1)]
    by_cases hend : wonA l = a ∧ l.length - wonA l = b
    · have e : first a b (d + 1) (wonA l) (l.length - wonA l) = some [] := by unfold first; rw [if_pos hend]
      rw [e]
      refine Ev.step (f := fun _ => some (str l, true)) (fun k => by rw [hstep, if_pos hend]) ?_
      have e2 : res l (some []) = (str l, true) := by show (str (l ++ []), true) = _; rw [List.append_nil]
      rw [e2]
      exact Ev.now _
    · refine Ev.step (fun k => by rw [hstep, if_neg hend]) ?_
      have hl12 : l.length + 1 ≤ 13 := by omega
      have go : ∀ (oa ob : Option (List UInt8)), Ev (fun k => impl_FirstGameOrder.find k (a : Int) (b : Int) (str (l ++ [97]))) (res (l ++ [97]) oa) → Ev (fun k => impl_FirstGameOrder.find k (a : Int) (b : Int) (str (l ++ [98]))) (res (l ++ [98]) ob) →
          Ev (fun k => impl_FirstGameOrder.next (impl_FirstGameOrder.find k (a : Int) (b : Int)) (str l)) (res l ((oa.map (97 :: ·)).or (ob.map (98 :: ·)))) := by
        intro oa ob h1 h2
        refine Ev.congr (fun k => by unfold impl_FirstGameOrder.next; rw [if_pos hsz, str_a, str_b]) (Ev.bind h1 ?_)
        cases oa with
        | some t =>
          refine Ev.congr (f := fun _ => some (res l (some (97 :: t)))) (fun k => ?_) (Ev.now _)
          simp [res]
        | none =>
          refine Ev.congr (f := fun k => impl_FirstGameOrder.find k (a : Int) (b : Int) (str (l ++ [98]))) (fun k => if_neg Bool.false_ne_true) ?_
          cases ob with
          | some t =>
            have e : res l (((none : Option (List UInt8)).map (97 :: ·)).or ((some t).map (98 :: ·))) = res (l ++ [98]) (some t) := by simp [res]
            rw [e]; exact h2
          | none => exact h2
      cases hov : over (wonA l) (l.length - wonA l) with
      | true =>
        have e : first a b (d + 1) (wonA l) (l.length - wonA l) = none := by
          conv => lhs; unfold first
          rw [if_neg hend, hov, if_pos rfl]
        rw [e]
        have oa := order_snoc l hl12 hAB ho 97 (.inl rfl) (by omega) (by omega)
        have ob := order_snoc l hl12 hAB ho 98 (.inr rfl) (by omega) (by omega)
        rw [hov] at oa ob
        exact go none none (dead a b _ hABa (by omega) (.inr (.inr oa))) (dead a b _ hABb (by omega) (.inr (.inr ob)))
      | false =>
        have e : first a b (d + 1) (wonA l) (l.length - wonA l) = ((if wonA l < a then first a b d (wonA l + 1) (l.length - wonA l) else none).map (97 :: ·)).or ((if l.length - wonA l < b then first a b d (wonA l) (l.length - wonA l + 1) else none).map (98 :: ·)) := by
          conv => lhs; unfold first
          rw [if_neg hend, hov, if_neg Bool.false_ne_true]
          by_cases hA : wonA l < a
          · rw [if_pos hA, if_pos hA]
            by_cases hB : l.length - wonA l < b
            · rw [if_pos hB, if_pos hB]
            · rw [if_neg hB, if_neg hB]; rfl
          · rw [if_neg hA, if_neg hA]
            by_cases hB : l.length - wonA l < b
            · rw [if_pos hB, if_pos hB]; rfl
            · rw [if_neg hB, if_neg hB]; rfl
        rw [e]
        have oa := order_snoc l hl12 hAB ho 97 (.inl rfl) (by omega) (by omega)
        have ob := order_snoc l hl12 hAB ho 98 (.inr rfl) (by omega) (by omega)
        rw [hov] at oa ob
        refine go _ _ ?_ ?_
        · by_cases hA : wonA l < a
          · rw [if_pos hA]
            have h1 := find_eq a b ha hb hab d (l ++ [97]) hABa oa (by rw [wonA_a]; omega) (by rw [wonA_a, hla]; omega) (by rw [hla]; omega)
            rw [wonA_a, hla, show l.length + 1 - (wonA l + 1) = l.length - wonA l by omega] at h1
            exact h1
          · rw [if_neg hA]
            exact dead a b _ hABa (by omega) (.inl (by rw [wonA_a]; omega))
        · by_cases hB : l.length - wonA l < b
          · rw [if_pos hB]
            have h1 := find_eq a b ha hb hab d (l ++ [98]) hABb ob (by rw [wonA_b]; omega) (by rw [wonA_b, hlb]; omega) (by rw [hlb]; omega)
            rw [wonA_b, hlb, show l.length + 1 - wonA l = l.length - wonA l + 1 from Nat.succ_sub hw] at h1
            exact h1
          · rw [if_neg hB]
            exact dead a b _ hABb (by omega) (.inr (.inl (by rw [wonA_b, hlb]; omega)))
theorem cnt77 : cnt 7 7 14 0 0 = 0 := by decide +kernel
theorem both (a b : Int) : ∃ r, Ev (fun k => spec_FirstGameOrder.f k a b) r ∧ Ev (fun k => impl_FirstGameOrder.f k a b) r := by
  have hv := impl_v a b
  have hbad : ¬ ((0 ≤ a ∧ a ≤ 7) ∧ (0 ≤ b ∧ b ≤ 7)) → Ev (fun k => impl_FirstGameOrder.f k a b) (⟨#[]⟩, false) := by
    intro h
    unfold val at hv
    rw [if_neg h] at hv
    exact Ev.bind hv (Ev.congr (fun k => by rw [if_neg Bool.false_ne_true]) (Ev.now ((⟨#[]⟩ : ByteArray), false)))
  have sbad : spec_tnGames.f a b = some false → Ev (fun k => spec_FirstGameOrder.f k a b) (⟨#[]⟩, false) := fun hg => Ev.congr (fun k => by unfold spec_FirstGameOrder.f; rw [hg, Option.bind_some, if_neg Bool.false_ne_true]) (Ev.now _)
  by_cases ha : 0 ≤ a ∧ a ≤ 7
  · by_cases hb : 0 ≤ b ∧ b ≤ 7
    · have hg : spec_tnGames.f a b = some true := by unfold spec_tnGames.f; rw [in_eq, decide_eq_true ha, Option.bind_some, if_pos rfl, in_eq, decide_eq_true hb]; rfl
      obtain ⟨r, h1, h2, h3⟩ := orders a.toNat b.toNat (by omega) (by omega) 14 [] (by show 0 ≤ a.toNat; omega) (by show 0 ≤ b.toNat; omega) rfl
      have ea : ((a.toNat : Nat) : Int) = a := by omega
      have eb : ((b.toNat : Nat) : Int) = b := by omega
      rw [ea, eb] at h1
      have h2' : r.length = cnt a.toNat b.toNat 14 0 0 := h2
      have h3' : r.head? = (first a.toNat b.toNat 14 0 0).map (fun t => str ([] ++ t)) := h3
      unfold val at hv
      rw [if_pos ⟨ha, hb⟩] at hv
      have sstep : ∀ k, spec_FirstGameOrder.f k a b = (spec_tnOrders.f k a b (str [])).bind fun t387 => (if (t387.length : Int) = 0 then (some ((⟨#[]⟩ : ByteArray), false)) else (if 0 < (t387.length : Int) then (some (rdOf ByteArray.empty t387 0, true)) else (none))) := by
        intro k
        unfold spec_FirstGameOrder.f
        rw [hg, Option.bind_some, if_pos rfl]; rfl
      by_cases hz : cnt a.toNat b.toNat 14 0 0 = 0
      · rw [hz] at hv h2'
        exact ⟨(⟨#[]⟩, false), Ev.congr sstep (Ev.bind h1 (Ev.congr (fun k => by rw [if_pos (by omega)]) (Ev.now ((⟨#[]⟩ : ByteArray), false)))), Ev.bind hv (Ev.congr (fun k => by rw [if_pos rfl]; exact if_pos rfl) (Ev.now ((⟨#[]⟩ : ByteArray), false)))⟩
      · have h13 : a.toNat + b.toNat ≤ 13 := by
          by_cases h : a.toNat + b.toNat ≤ 13
          · exact h
          · have e1 : a.toNat = 7 := by omega
            have e2 : b.toNat = 7 := by omega
            rw [e1, e2] at hz
            exact absurd cnt77 hz
        have hf := find_eq a.toNat b.toNat (by omega) (by omega) h13 14 [] (fun c hc => by cases hc) (by unfold order; rfl) (by show 0 ≤ a.toNat; omega) (by show 0 ≤ b.toNat; omega) rfl
        rw [ea, eb] at hf
        have hf' : Ev (fun k => impl_FirstGameOrder.find k a b (⟨#[]⟩ : ByteArray)) (res [] (first a.toNat b.toNat 14 0 0)) := hf
        have himpl : Ev (fun k => impl_FirstGameOrder.f k a b) (res [] (first a.toNat b.toNat 14 0 0)) := Ev.bind hv (Ev.congr (fun k => by rw [if_pos rfl, if_neg (by omega)]) hf')
        refine ⟨_, Ev.congr sstep (Ev.bind h1 ?_), himpl⟩
        cases hq : first a.toNat b.toNat 14 0 0 with
        | none =>
          rw [hq] at h3'
          cases r with
          | nil => rw [← h2'] at hz; exact absurd rfl hz
          | cons x r => cases h3'
        | some t =>
          rw [hq] at h3'
          cases r with
          | nil => cases h3'
          | cons x r =>
            have ex : x = str ([] ++ t) := Option.some.inj h3'
            refine Ev.congr (f := fun _ => some (str ([] ++ t), true)) (fun k => ?_) (Ev.now _)
            rw [if_neg (by rw [List.length_cons]; omega), if_pos (by rw [List.length_cons]; omega), ← ex]
            rfl
    · refine ⟨_, sbad ?_, hbad (fun h => hb h.2)⟩
      unfold spec_tnGames.f; rw [in_eq, decide_eq_true ha, Option.bind_some, if_pos rfl, in_eq, decide_eq_false hb]; rfl
  · refine ⟨_, sbad ?_, hbad (fun h => ha h.1)⟩
    unfold spec_tnGames.f; rw [in_eq, decide_eq_false ha, Option.bind_some, if_neg Bool.false_ne_true]
end Fo
theorem FnExactFirstGameOrder : ∀ (a0 : Int) (a1 : Int), ((Lit.int .i64 a0).wf = true) → ((Lit.int .i64 a1).wf = true) → ∃ k, laws_FnExactFirstGameOrder.f k a0 a1 = some true := by
  intro a b _ _
  obtain ⟨r, h1, h2⟩ := Fo.both a b
  exact Ev.rounds (Ev.bind h1 (Ev.bind h2 (Ev.congr (fun k => by rw [if_pos rfl, bne_self_eq_false, if_neg Bool.false_ne_true]) (Ev.now true))))
end Go.Proofs.YtjnkcgddalbojaaDoor.Pure
