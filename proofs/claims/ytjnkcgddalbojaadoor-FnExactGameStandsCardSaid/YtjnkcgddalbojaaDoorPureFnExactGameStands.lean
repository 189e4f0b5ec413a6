/- For every text, the program's GameStands answers what the reference's answers. (The pure statement behind the row: over numbers and lists alone.) -/
import Derived.Test.YtjnkcgddalbojaaDoorPAx35
import Derived.KernelRfl
import Derived.Laws.Strings
import Derived.Test.YtjnkcgddalbojaaDoorLibF
set_option linter.unusedSimpArgs false
set_option linter.unusedVariables false
namespace Go.Proofs.YtjnkcgddalbojaaDoor.Pure
open Go.RowKit Go.Proofs.YtjnkcgddalbojaaDoor.PA Go.Proofs.YtjnkcgddalbojaaDoorW.PrintWords Go.Proofs.YtjnkcgddalbojaaDoorW.PrintLast Go.Proofs.YtjnkcgddalbojaaDoorW.PrintMore

/-- What a play of a game that has not ended, or just so, can come to. -/
def fine (r : Int × Int × Nat × Bool) : Prop := 0 ≤ r.1 ∧ 0 ≤ r.2.1 ∧ r.1 ≤ 1000 ∧ r.2.1 ≤ 1000 ∧ (r.2.2.2 = ended 4 r.1 r.2.1)
theorem pl_fine (l : List Bool) : ∀ a b : Int, 0 ≤ a → 0 ≤ b → a + l.length ≤ 1000 → b + l.length ≤ 1000 → ended 4 a b = false → fine (pl 4 a b l) := by
  induction l with
  | nil => intro a b ha hb h1 h2 he; exact ⟨ha, hb, by simp only [pl]; simp only [List.length_nil] at h1; omega, by simp only [pl]; simp only [List.length_nil] at h2; omega, he.symm⟩
  | cons c l ih =>
    intro a b ha hb h1 h2 he
    simp only [List.length_cons] at h1 h2
    simp only [pl]
    have ha' : 0 ≤ (if c then a + 1 else a) ∧ (if c then a + 1 else a) ≤ a + 1 := by cases c <;> simp <;> omega
    have hb' : 0 ≤ (if c then b else b + 1) ∧ (if c then b else b + 1) ≤ b + 1 := by cases c <;> simp <;> omega
    by_cases h : ended 4 (if c then a + 1 else a) (if c then b else b + 1) = true
    · rw [if_pos h]
      exact ⟨ha'.1, hb'.1, by show (if c then a + 1 else a) ≤ 1000; omega, by show (if c then b else b + 1) ≤ 1000; omega, h.symm⟩
    · rw [if_neg h]
      exact ih _ _ ha'.1 hb'.1 (by omega) (by omega) (by simpa using h)
theorem txt_l (x : List UInt8) : (⟨x.toArray⟩ : ByteArray).toList = x := toList_mk x
/-- How a game stands that has not ended. -/
def stands (a b : Int) : Option (ByteArray × Bool) := impl_GameStands.j0 1 (decide (a < 3 ∨ b < 3)) a b (wtxt none) true
theorem j0_k (k : Nat) (c : Bool) (a b : Int) (w : ByteArray) (p : Bool) (w' : ByteArray) (p' : Bool) : impl_GameStands.j0 (k + 1) c a b w p = impl_GameStands.j0 1 c a b w' p' := by
  simp only [impl_GameStands.j0]
theorem small_all : (List.range 4).all (fun i => (List.range 4).all (fun j => !(decide (i < 3 ∨ j < 3)) || decide ((spec_tnStands.f 9 (i : Int) (j : Int)).map (fun t => (t, true)) = impl_GameStands.j0 1 true (i : Int) (j : Int) ⟨#[45]⟩ true))) = true := by kernel_rfl
theorem small_some : (List.range 4).all (fun i => (List.range 4).all (fun j => !(decide (i < 3 ∨ j < 3)) || (spec_tnStands.f 9 (i : Int) (j : Int)).isSome)) = true := by kernel_rfl
theorem open_eq (a b : Int) (h0 : 0 ≤ a) (h1 : 0 ≤ b) (h2 : a ≤ 1000) (h3 : b ≤ 1000) (he : ended 4 a b = false) : ∃ t, Ev (fun k => spec_tnStands.f k a b) t ∧ ∀ k, impl_GameStands.j0 (k + 1) (decide (a < 3 ∨ b < 3)) a b ⟨#[45]⟩ true = some (t, true) := by
  have he' : ¬ ((4 ≤ a ∨ 4 ≤ b) ∧ (2 ≤ a - b ∨ 2 ≤ b - a)) := of_decide_eq_false he
  by_cases hs : a < 3 ∨ b < 3
  · obtain ⟨i, rfl⟩ : ∃ i : Nat, a = (i : Int) := ⟨a.toNat, by omega⟩
    obtain ⟨j, rfl⟩ : ∃ j : Nat, b = (j : Int) := ⟨b.toNat, by omega⟩
    have hi : i < 4 := by omega
    have hj : j < 4 := by omega
    have g1 := List.all_eq_true.1 (List.all_eq_true.1 small_all i (List.mem_range.2 hi)) j (List.mem_range.2 hj)
    have g2 := List.all_eq_true.1 (List.all_eq_true.1 small_some i (List.mem_range.2 hi)) j (List.mem_range.2 hj)
    rw [decide_eq_true (show i < 3 ∨ j < 3 by omega), Bool.not_true, Bool.false_or] at g1 g2
    obtain ⟨t, ht⟩ := Option.isSome_iff_exists.1 g2
    have g3 := of_decide_eq_true g1
    rw [ht] at g3
    refine ⟨t, Ev.of (fun k => spec_tnStands.mono _ _ k) ht, fun k => ?_⟩
    rw [decide_eq_true hs, j0_k k _ _ _ _ _ ⟨#[45]⟩ true]
    exact g3.symm
  · have e1 : wrap64 (b + 2) = b + 2 := w64 (by omega) (by omega)
    have e2 : wrap64 (a + 2) = a + 2 := w64 (by omega) (by omega)
    have hj0 : ∀ k, spec_tnStands.j0 (k + 1) a b false = spec_tnStands.j1 k a b false := by
      intro k
      simp only [spec_tnStands.j0]
      rw [if_neg Bool.false_ne_true, most, Option.bind_some, e2]
      by_cases hm : max a b ≥ 4
      · rw [if_pos hm, decide_eq_false (by omega)]
      · rw [if_neg hm]
    have hf : ∀ k, spec_tnStands.f (k + 2) a b = spec_tnStands.j2 k a b (decide (a = b)) := by
      intro k
      unfold spec_tnStands.f
      rw [most, Option.bind_some, e1]
      have : (if max a b ≥ 4 then spec_tnStands.j0 (k + 2) a b (decide (a ≥ b + 2)) else spec_tnStands.j0 (k + 2) a b false) = spec_tnStands.j0 (k + 2) a b false := by
        by_cases hm : max a b ≥ 4
        · rw [if_pos hm, decide_eq_false (by omega)]
        · rw [if_neg hm]
      rw [this, hj0 (k + 1)]
      simp only [spec_tnStands.j1]
      rw [if_neg Bool.false_ne_true, if_pos (by omega)]
      by_cases hab : a = b
      · rw [decide_eq_true hab, beq_iff_eq.2 hab]
      · rw [decide_eq_false hab, beq_eq_false_iff_ne.2 hab]
    have hi : ∀ k, impl_GameStands.j0 (k + 1) (decide (a < 3 ∨ b < 3)) a b ⟨#[45]⟩ true = (if a = b then some (⟨#[61]⟩, true) else if a > b then some (⟨#[65]⟩, true) else some (⟨#[66]⟩, true)) := by
      intro k
      simp only [impl_GameStands.j0]
      rw [decide_eq_false hs, if_neg Bool.false_ne_true]
    by_cases hab : a = b
    · refine ⟨⟨#[61]⟩, Ev.step (f := fun k => spec_tnStands.f (k + 1) a b) (fun k => rfl) (Ev.step (f := fun k => spec_tnStands.j2 k a b (decide (a = b))) (fun k => hf k) (Ev.step (f := fun _ => some ⟨#[61]⟩) (fun k => ?_) (Ev.now _))), fun k => by rw [hi, if_pos hab]⟩
      simp only [spec_tnStands.j2]; rw [decide_eq_true hab, if_pos rfl]
    · by_cases hgt : a > b
      · refine ⟨⟨#[65]⟩, Ev.step (f := fun k => spec_tnStands.f (k + 1) a b) (fun k => rfl) (Ev.step (f := fun k => spec_tnStands.j2 k a b (decide (a = b))) (fun k => hf k) (Ev.step (f := fun k => spec_tnStands.j3 k a b true) (fun k => ?_) (Ev.step (f := fun _ => some ⟨#[65]⟩) (fun k => ?_) (Ev.now _)))), fun k => by rw [hi, if_neg hab, if_pos hgt]⟩
        · simp only [spec_tnStands.j2]; rw [decide_eq_false hab, if_neg Bool.false_ne_true, if_pos (by omega), decide_eq_true hgt]
        · simp only [spec_tnStands.j3]; rw [if_pos trivial]
      · refine ⟨⟨#[66]⟩, Ev.step (f := fun k => spec_tnStands.f (k + 1) a b) (fun k => rfl) (Ev.step (f := fun k => spec_tnStands.j2 k a b (decide (a = b))) (fun k => hf k) (Ev.step (f := fun k => spec_tnStands.j3 k a b false) (fun k => ?_) (Ev.step (f := fun _ => some ⟨#[66]⟩) (fun k => ?_) (Ev.now _)))), fun k => by rw [hi, if_neg hab, if_neg hgt]⟩
        · simp only [spec_tnStands.j2]; rw [decide_eq_false hab, if_neg Bool.false_ne_true, if_pos (by omega), decide_eq_false hgt]
        · simp only [spec_tnStands.j3]; rw [if_neg Bool.false_ne_true, if_pos (by omega), if_pos (by omega)]
theorem over_eq (a b : Int) (h0 : 0 ≤ a) (h1 : 0 ≤ b) (h2 : a ≤ 1000) (h3 : b ≤ 1000) (he : ended 4 a b = true) : Ev (fun k => spec_tnStands.f k a b) (wtxt (some (decide (a > b)))) := by
  have he' : (4 ≤ a ∨ 4 ≤ b) ∧ (2 ≤ a - b ∨ 2 ≤ b - a) := of_decide_eq_true he
  have e1 : wrap64 (b + 2) = b + 2 := w64 (by omega) (by omega)
  have e2 : wrap64 (a + 2) = a + 2 := w64 (by omega) (by omega)
  by_cases hgt : a > b
  · rw [decide_eq_true hgt]
    refine Ev.congr (f := fun k => spec_tnStands.j0 k a b true) (fun k => ?_) (Ev.step (f := fun _ => some ⟨#[97]⟩) (fun k => ?_) (Ev.now _))
    · unfold spec_tnStands.f; rw [most, Option.bind_some, e1, if_pos (by omega), decide_eq_true (by omega)]
    · simp only [spec_tnStands.j0]; rw [if_pos trivial]
  · rw [decide_eq_false hgt]
    refine Ev.congr (f := fun k => spec_tnStands.j0 k a b false) (fun k => ?_) (Ev.step (f := fun k => spec_tnStands.j1 k a b true) (fun k => ?_) (Ev.step (f := fun _ => some ⟨#[98]⟩) (fun k => ?_) (Ev.now _)))
    · unfold spec_tnStands.f; rw [most, Option.bind_some, e1, if_pos (by omega), decide_eq_false (by omega)]
    · simp only [spec_tnStands.j0]; rw [if_neg Bool.false_ne_true, most, Option.bind_some, e2, if_pos (by omega), decide_eq_true (by omega)]
    · simp only [spec_tnStands.j1]; rw [if_pos trivial]
theorem both (s : ByteArray) (hs : s.size ≤ 140737488351232) : ∃ r, Ev (fun k => spec_GameStands.f k s) r ∧ Ev (fun k => impl_GameStands.f k s) r := by
  have hg := tnIs s hs 4
  have hi := game s hs
  have hsp : Ev (fun k => spec_IsTennisGame.f k s) (isGame 4 s) := Ev.congr (f := fun k => (spec_tnIs.f k 4 2 s).bind fun t => some t) (fun k => by simp only [spec_IsTennisGame.f, spec_tnGame.f, Option.bind_some]) (Ev.bind hg (Ev.now _))
  cases h : isGame 4 s with
  | false =>
    rw [h] at hsp hi
    exact ⟨(⟨#[]⟩, false), Ev.bind hsp (Ev.congr (fun k => by rw [if_neg Bool.false_ne_true]) (Ev.now _)), Ev.congr (fun k => by unfold impl_GameStands.f; rw [hi, Option.bind_some, if_neg Bool.false_ne_true]) (Ev.now _)⟩
  | true =>
    rw [h] at hsp hi
    have h' := h
    unfold isGame at h'
    have hp := of_decide_eq_true (Bool.and_eq_true_iff.1 h').1
    have hm := of_decide_eq_true (Bool.and_eq_true_iff.1 h').2
    obtain ⟨x, y, w, p, hf, h2, h3⟩ := follow_f s hp.2 hs 4 (by omega)
    have hp1 : p = true := by rw [h2, decide_eq_true hm]
    obtain ⟨rfl, rfl, rfl⟩ := h3 hp1
    subst hp1
    have hfine : fine (run 4 s) := pl_fine (bits s 0 s.size) 0 0 (by omega) (by omega) (by rw [bits_length]; omega) (by rw [bits_length]; omega) rfl
    obtain ⟨f1, f2, f3, f4, f5⟩ := hfine
    have hspec : ∀ t, Ev (fun k => spec_tnStands.f k (run 4 s).1 (run 4 s).2.1) t → Ev (fun k => spec_GameStands.f k s) (t, true) := by
      intro t ht
      refine Ev.bind hsp (Ev.congr (f := fun k => (spec_tnPlay.f k 4 2 s 0).bind fun bt274 => (spec_tnStands.f k bt274.1 bt274.2.1).bind fun t278 => some (t278, true)) (fun k => ?_) (Ev.bind (play s hs 4) (Ev.bind ht (Ev.now _))))
      rw [if_pos rfl]
      simp only [spec_tnGame.f, Option.bind_some]
    have himpl : ∀ k, impl_GameStands.f k s = if (wtxt (who (run 4 s))).toList = ([45] : List UInt8) then (if (run 4 s).1 < 3 then (impl_GameStands.j0 k true (run 4 s).1 (run 4 s).2.1 (wtxt (who (run 4 s))) true) else (impl_GameStands.j0 k (decide ((run 4 s).2.1 < 3)) (run 4 s).1 (run 4 s).2.1 (wtxt (who (run 4 s))) true)) else some (wtxt (who (run 4 s)), true) := by
      intro k
      unfold impl_GameStands.f
      rw [hi, Option.bind_some, if_pos rfl]
      simp only [impl_tennis.f, Option.bind_some]
      rw [hf]
      simp only [Option.bind_some]
    cases he : (run 4 s).2.2.2 with
    | false =>
      have hw : who (run 4 s) = none := by unfold who; rw [he]; rfl
      obtain ⟨t, ht, hj⟩ := open_eq (run 4 s).1 (run 4 s).2.1 f1 f2 f3 f4 (by rw [← f5, he])
      refine ⟨(t, true), hspec t ht, Ev.step (f := fun _ => some (t, true)) (fun k => ?_) (Ev.now _)⟩
      rw [himpl, hw, if_pos (show (wtxt none).toList = [45] from toList_mk [45]), ← hj k]
      by_cases h3 : (run 4 s).1 < 3
      · rw [if_pos h3, decide_eq_true (show (run 4 s).1 < 3 ∨ (run 4 s).2.1 < 3 from .inl h3)]; rfl
      · rw [if_neg h3]
        congr 1
        by_cases h4 : (run 4 s).2.1 < 3
        · rw [decide_eq_true h4, decide_eq_true (Or.inr h4)]
        · rw [decide_eq_false h4, decide_eq_false (fun h => h.elim h3 h4)]
    | true =>
      have hw : who (run 4 s) = some (decide ((run 4 s).1 > (run 4 s).2.1)) := by unfold who; rw [he]; rfl
      refine ⟨(wtxt (some (decide ((run 4 s).1 > (run 4 s).2.1))), true), hspec _ (over_eq _ _ f1 f2 f3 f4 (by rw [← f5, he])), Ev.congr (fun k => ?_) (Ev.now _)⟩
      rw [himpl, hw, if_neg]
      cases decide ((run 4 s).1 > (run 4 s).2.1)
      · rw [show (wtxt (some false)).toList = [98] from toList_mk [98]]; decide
      · rw [show (wtxt (some true)).toList = [97] from toList_mk [97]]; decide
theorem FnExactGameStands : ∀ (a0 : ByteArray), (a0.size ≤ 140737488351232) → ∃ k, laws_FnExactGameStands.f k a0 = some true := by
  intro s hs
  obtain ⟨r, ⟨K1, h1⟩, ⟨K2, h2⟩⟩ := both s (by omega)
  refine ⟨max K1 K2, ?_⟩
  unfold laws_FnExactGameStands.f
  by_cases hb : (s.size : Int) > 1048576
  · rw [if_pos hb]
  · have h1 := h1 _ (Nat.le_max_left K1 K2)
    have h2 := h2 _ (Nat.le_max_right K1 K2)
    simp only at h1 h2
    rw [if_neg hb, h1, h2, Option.bind_some, Option.bind_some, if_pos rfl, bne_self_eq_false, if_neg Bool.false_ne_true]

end Go.Proofs.YtjnkcgddalbojaaDoor.Pure
