/- The program's follow, and what it comes to at a text of points. (Plain Lean: no program's memory in sight.) -/
import Derived.Test.YtjnkcgddalbojaaDoorPAx16
import Derived.Test.YtjnkcgddalbojaaDoorPAx1022
import Derived.Test.YtjnkcgddalbojaaDoorPAx1029
import Derived.Test.YtjnkcgddalbojaaDoorLibT
import Derived.KernelRfl
import Derived.Laws.Strings
set_option linter.unusedSimpArgs false
set_option linter.unusedVariables false
namespace Go.Proofs.YtjnkcgddalbojaaDoor.Pure
open Go.RowKit Go.Proofs.YtjnkcgddalbojaaDoor.PA Go.Proofs.YtjnkcgddalbojaaDoorW.PrintWords Go.Proofs.YtjnkcgddalbojaaDoorW.PrintLast Go.Proofs.YtjnkcgddalbojaaDoorW.PrintMore

/-! ### The program's follow -/
theorem decode_pt (s : ByteArray) (i : Nat) (h : i < s.size) (hp : pt s i) : ((Utf8.decode s i).1 : Int) = bt s (i : Int) ∧ (Utf8.decode s i).2 = 1 := by
  have e := bt_get s i h
  have ha : (s[i]'h).toNat < 128 := by unfold pt at hp; omega
  rw [decode_ascii s i h ha, e]
  exact ⟨rfl, rfl⟩
theorem won_eq (rt a b : Int) (ha : 0 ≤ a) (ha2 : a ≤ 140737488351232) (hb : 0 ≤ b) (hb2 : b ≤ 140737488351232) : impl_Race_hasWon.f rt 2 a b = some (decide (rt ≤ a ∧ 2 ≤ a - b)) := by
  unfold impl_Race_hasWon.f
  rw [w64 (i := a - b) (by omega) (by omega)]
  by_cases h : a ≥ rt
  · rw [if_pos h]
    by_cases h2 : a - b ≥ 2
    · rw [decide_eq_true h2, decide_eq_true ⟨h, h2⟩]
    · rw [decide_eq_false h2, decide_eq_false (fun h' => h2 h'.2)]
  · rw [if_neg h, decide_eq_false (fun h' => h h'.1)]
theorem follow_won (s : ByteArray) (hp : pts s) (rt : Int) (d : Nat) : ∀ (i k : Nat) (a b : Int) (x play : Bool), i + d = s.size → d < k →
    ∃ x' y', impl_follow.l0 k rt 2 s i a b (some x) play = some (x', y', some x, if d = 0 then play else false) ∧ (d = 0 → x' = a ∧ y' = b) := by
  induction d with
  | zero =>
    intro i k a b x play hi hk
    obtain ⟨k, rfl⟩ : ∃ m, k = m + 1 := ⟨k - 1, by omega⟩
    refine ⟨a, b, ?_, fun _ => ⟨rfl, rfl⟩⟩
    simp only [impl_follow.l0]
    rw [if_neg (by omega)]
    rfl
  | succ d ih =>
    intro i k a b x play hi hk
    obtain ⟨k, rfl⟩ : ∃ m, k = m + 1 := ⟨k - 1, by omega⟩
    obtain ⟨e1, e2⟩ := decode_pt s i (by omega) (hp i (by omega))
    by_cases h97 : bt s (i : Int) = 97
    · obtain ⟨x', y', h, _⟩ := ih (i + 1) k (wrap64 (a + 1)) b x false (by omega) (by omega)
      refine ⟨x', y', ?_, fun h => by cases h⟩
      simp only [impl_follow.l0]
      rw [if_pos (by omega), e1, e2, if_pos h97]
      simp only [impl_follow.next]
      rw [h]
      simp
    · obtain ⟨x', y', h, _⟩ := ih (i + 1) k a (wrap64 (b + 1)) x false (by omega) (by omega)
      refine ⟨x', y', ?_, fun h => by cases h⟩
      simp only [impl_follow.l0]
      rw [if_pos (by omega), e1, e2, if_neg h97]
      simp only [impl_follow.next]
      rw [h]
      simp
/-- Who has won a race that a play has come to. -/
def who (r : Int × Int × Nat × Bool) : Option Bool := if r.2.2.2 = true then some (decide (r.1 > r.2.1)) else none
theorem follow_l0 (s : ByteArray) (hp : pts s) (hs : s.size ≤ 140737488351232) (rt : Int) (hrt : 0 < rt) (d : Nat) : ∀ (i k : Nat) (a b : Int), i + d = s.size → d < k → 0 ≤ a → a ≤ i → 0 ≤ b → b ≤ i →
    ∃ x y w p, impl_follow.l0 k rt 2 s i a b none true = some (x, y, w, p) ∧ p = decide ((pl rt a b (bits s i d)).2.2.1 = d) ∧ (p = true → x = (pl rt a b (bits s i d)).1 ∧ y = (pl rt a b (bits s i d)).2.1 ∧ w = who (pl rt a b (bits s i d))) := by
  induction d with
  | zero =>
    intro i k a b hi hk ha ha2 hb hb2
    obtain ⟨k, rfl⟩ : ∃ m, k = m + 1 := ⟨k - 1, by omega⟩
    refine ⟨a, b, none, true, ?_, rfl, fun _ => ⟨rfl, rfl, rfl⟩⟩
    simp only [impl_follow.l0]
    rw [if_neg (by omega)]
  | succ d ih =>
    intro i k a b hi hk ha ha2 hb hb2
    obtain ⟨k, rfl⟩ : ∃ m, k = m + 1 := ⟨k - 1, by omega⟩
    obtain ⟨e1, e2⟩ := decode_pt s i (by omega) (hp i (by omega))
    have key : ∀ (a' b' : Int), 0 ≤ a' → a' ≤ i + 1 → 0 ≤ b' → b' ≤ i + 1 → ∀ r : Int × Int × Nat × Bool, r = (if ended rt a' b' then (a', b', 1, true) else ((pl rt a' b' (bits s (i + 1) d)).1, (pl rt a' b' (bits s (i + 1) d)).2.1, (pl rt a' b' (bits s (i + 1) d)).2.2.1 + 1, (pl rt a' b' (bits s (i + 1) d)).2.2.2)) →
        ∃ x y w p, impl_follow.next (impl_follow.l0 k rt 2 s (i + 1)) rt 2 a' b' none true = some (x, y, w, p) ∧ p = decide (r.2.2.1 = d + 1) ∧ (p = true → x = r.1 ∧ y = r.2.1 ∧ w = who r) := by
      intro a' b' ha' ha2' hb' hb2' r hr
      simp only [impl_follow.next]
      rw [won_eq rt a' b' ha' (by omega) hb' (by omega), won_eq rt b' a' hb' (by omega) ha' (by omega), Option.bind_some, Option.bind_some]
      by_cases h1 : rt ≤ a' ∧ 2 ≤ a' - b'
      · have he : ended rt a' b' = true := decide_eq_true ⟨.inl h1.1, .inl h1.2⟩
        rw [if_pos he] at hr
        subst hr
        rw [decide_eq_true h1, if_pos rfl]
        obtain ⟨x', y', h, h0⟩ := follow_won s hp rt d (i + 1) k a' b' true true (by omega) (by omega)
        refine ⟨x', y', _, _, h, ?_, fun hd => ?_⟩
        · by_cases hd : d = 0
          · subst hd; rfl
          · rw [if_neg hd]; exact (decide_eq_false (show ¬ ((1 : Nat) = d + 1) by omega)).symm
        · by_cases hd0 : d = 0
          · obtain ⟨rfl, rfl⟩ := h0 hd0
            refine ⟨rfl, rfl, ?_⟩
            show some true = (if true = true then some (decide (x' > y')) else none)
            rw [if_pos rfl, decide_eq_true (by omega)]
          · rw [if_neg hd0] at hd; cases hd
      · rw [decide_eq_false h1, if_neg Bool.false_ne_true]
        by_cases h2 : rt ≤ b' ∧ 2 ≤ b' - a'
        · have he : ended rt a' b' = true := decide_eq_true ⟨.inr h2.1, .inr h2.2⟩
          rw [if_pos he] at hr
          subst hr
          rw [decide_eq_true h2, if_pos rfl]
          obtain ⟨x', y', h, h0⟩ := follow_won s hp rt d (i + 1) k a' b' false true (by omega) (by omega)
          refine ⟨x', y', _, _, h, ?_, fun hd => ?_⟩
          · by_cases hd : d = 0
            · subst hd; rfl
            · rw [if_neg hd]; exact (decide_eq_false (show ¬ ((1 : Nat) = d + 1) by omega)).symm
          · by_cases hd0 : d = 0
            · obtain ⟨rfl, rfl⟩ := h0 hd0
              refine ⟨rfl, rfl, ?_⟩
              show some false = (if true = true then some (decide (x' > y')) else none)
              rw [if_pos rfl, decide_eq_false (by omega)]
            · rw [if_neg hd0] at hd; cases hd
        · have he : ended rt a' b' = false := decide_eq_false (fun h => by have := h.1; have := h.2; omega)
          rw [he, if_neg Bool.false_ne_true] at hr
          rw [decide_eq_false h2, if_neg Bool.false_ne_true]
          obtain ⟨x, y, w, p, h, hpp, hw⟩ := ih (i + 1) k a' b' (by omega) (by omega) ha' (by omega) hb' (by omega)
          refine ⟨x, y, w, p, h, ?_, fun hp1 => ?_⟩
          · rw [hpp, hr]
            simp
          · obtain ⟨h3, h4, h5⟩ := hw hp1
            rw [hr]
            exact ⟨h3, h4, h5⟩
    by_cases h97 : bt s (i : Int) = 97
    · have h := key (a + 1) b (by omega) (by omega) hb (by omega) _ rfl
      obtain ⟨x, y, w, p, h, hpp, hw⟩ := h
      refine ⟨x, y, w, p, ?_, ?_, ?_⟩
      · simp only [impl_follow.l0]
        rw [if_pos (by omega), e1, e2, if_pos h97, w64 (i := a + 1) (by omega) (by omega)]
        exact h
      · rw [hpp]; simp only [bits, h97, decide_true, pl, if_true]
      · intro hp1; have := hw hp1; simp only [bits, h97, decide_true, pl, if_true]; exact this
    · have h := key a (b + 1) ha (by omega) (by omega) (by omega) _ rfl
      obtain ⟨x, y, w, p, h, hpp, hw⟩ := h
      refine ⟨x, y, w, p, ?_, ?_, ?_⟩
      · simp only [impl_follow.l0]
        rw [if_pos (by omega), e1, e2, if_neg h97, w64 (i := b + 1) (by omega) (by omega)]
        exact h
      · rw [hpp]; simp only [bits, h97, decide_false, pl, Bool.false_eq_true, if_false]
      · intro hp1; have := hw hp1; simp only [bits, h97, decide_false, pl, Bool.false_eq_true, if_false]; exact this
def run (rt : Int) (s : ByteArray) : Int × Int × Nat × Bool := pl rt 0 0 (bits s 0 s.size)
theorem follow_g (s : ByteArray) (hp : pts s) (hs : s.size ≤ 140737488351232) (rt : Int) (hrt : 0 < rt) :
    ∃ x y w p, impl_follow.g rt 2 s = some (x, y, w, p) ∧ p = decide ((run rt s).2.2.1 = s.size) ∧ (p = true → x = (run rt s).1 ∧ y = (run rt s).2.1 ∧ w = who (run rt s)) :=
  follow_l0 s hp hs rt hrt s.size 0 (s.size + 1) 0 0 (by omega) (by omega) (by omega) (by omega) (by omega) (by omega)
theorem follow_f (s : ByteArray) (hp : pts s) (hs : s.size ≤ 140737488351232) (rt : Int) (hrt : 0 < rt) :
    ∃ x y w p, impl_follow.f rt 2 s = some (x, y, wtxt w, p) ∧ p = decide ((run rt s).2.2.1 = s.size) ∧ (p = true → x = (run rt s).1 ∧ y = (run rt s).2.1 ∧ w = who (run rt s)) := by
  obtain ⟨x, y, w, p, h, h2, h3⟩ := follow_g s hp hs rt hrt
  exact ⟨x, y, w, p, impl_follow.of_g h, h2, h3⟩
theorem play (s : ByteArray) (hs : s.size ≤ 140737488351232) (rt : Int) : Ev (fun k => spec_tnPlay.f k rt 2 s 0) ((run rt s).1, (run rt s).2.1, ((run rt s).2.2.1 : Int), (run rt s).2.2.2) := by
  have h := play_l0 s hs 0 rt s.size 0 0 0 (by omega) (by omega) (by omega) (by omega) (by omega) (by omega)
  have e : (0 - 0 + (pl rt 0 0 (bits s 0 s.size)).2.2.1) = (run rt s).2.2.1 := by unfold run; omega
  rw [e] at h
  exact h
def isGame (rt : Int) (s : ByteArray) : Bool := ptsB 300 s && decide ((run rt s).2.2.1 = s.size)
theorem tnIs (s : ByteArray) (hs : s.size ≤ 140737488351232) (rt : Int) : Ev (fun k => spec_tnIs.f k rt 2 s) (isGame rt s) := by
  refine Ev.bind (play s hs rt) (Ev.bind (points s hs) ?_)
  unfold isGame
  cases ptsB 300 s
  · exact Ev.congr (f := fun _ => some false) (fun k => by rw [if_neg Bool.false_ne_true]) (Ev.now _)
  · refine Ev.congr (f := fun _ => some (decide ((run rt s).2.2.1 = s.size))) (fun k => ?_) (Ev.now _)
    rw [if_pos rfl]
    congr 1
    show (((run rt s).2.2.1 : Int) == (s.size : Int)) = _
    by_cases h : (run rt s).2.2.1 = s.size
    · rw [h, decide_eq_true rfl]; exact beq_self_eq_true _
    · rw [decide_eq_false h]; exact beq_eq_false_iff_ne.2 (by omega)
theorem game (s : ByteArray) (hs : s.size ≤ 140737488351232) : impl_IsTennisGame.f s = some (isGame 4 s) := by
  unfold impl_IsTennisGame.f
  rw [isPoints s hs, Option.bind_some]
  unfold isGame
  by_cases h : ptsB 300 s = true
  · have hp : pts s := (of_decide_eq_true h).2
    obtain ⟨x, y, w, p, hf, h2, _⟩ := follow_f s hp hs 4 (by omega)
    rw [h, if_pos rfl]
    simp only [impl_tennis.f, Option.bind_some]
    rw [hf, Option.bind_some, h2]
    simp
  · rw [Bool.not_eq_true] at h
    rw [h, if_neg Bool.false_ne_true]
    rfl

end Go.Proofs.YtjnkcgddalbojaaDoor.Pure
