/- For every text, the program's TieStands answers what the reference's answers. (The pure statement behind the row: over numbers and lists alone.) -/
import Derived.Test.YtjnkcgddalbojaaDoorPAx1056
import Derived.Test.YtjnkcgddalbojaaDoorLibI
import Derived.KernelRfl
import Derived.Laws.Strings
set_option linter.unusedSimpArgs false
set_option linter.unusedVariables false
namespace Go.Proofs.YtjnkcgddalbojaaDoor.Pure
open Go.RowKit Go.Proofs.YtjnkcgddalbojaaDoor.PA Go.Proofs.YtjnkcgddalbojaaDoorW.PrintWords Go.Proofs.YtjnkcgddalbojaaDoorW.PrintLast Go.Proofs.YtjnkcgddalbojaaDoorW.PrintMore

theorem pl_bd (rt : Int) (l : List Bool) : ∀ a b : Int, a ≤ (pl rt a b l).1 ∧ (pl rt a b l).1 ≤ a + l.length ∧ b ≤ (pl rt a b l).2.1 ∧ (pl rt a b l).2.1 ≤ b + l.length ∧ ((pl rt a b l).2.2.2 = true → 1 ≤ (pl rt a b l).2.2.1) := by
  induction l with
  | nil => intro a b; simp only [pl, List.length_nil]; exact ⟨by omega, by omega, by omega, by omega, fun h => by cases h⟩
  | cons c l ih =>
    intro a b
    simp only [pl, List.length_cons]
    have ha' : a ≤ (if c then a + 1 else a) ∧ (if c then a + 1 else a) ≤ a + 1 := by cases c <;> simp <;> omega
    have hb' : b ≤ (if c then b else b + 1) ∧ (if c then b else b + 1) ≤ b + 1 := by cases c <;> simp <;> omega
    by_cases h : ended rt (if c then a + 1 else a) (if c then b else b + 1) = true
    · rw [if_pos h]; exact ⟨ha'.1, by show (if c then a + 1 else a) ≤ _; omega, hb'.1, by show (if c then b else b + 1) ≤ _; omega, fun _ => Nat.le_refl _⟩
    · rw [if_neg h]
      obtain ⟨h1, h2, h3, h4, h5⟩ := ih (if c then a + 1 else a) (if c then b else b + 1)
      exact ⟨by show a ≤ (pl rt _ _ l).1; omega, by show (pl rt _ _ l).1 ≤ _; omega, by show b ≤ (pl rt _ _ l).2.1; omega, by show (pl rt _ _ l).2.1 ≤ _; omega, fun _ => by show 1 ≤ _ + 1; omega⟩
theorem who_some (r : Int × Int × Nat × Bool) : (who r).isSome = r.2.2.2 := by
  unfold who
  cases h : r.2.2.2
  · rw [if_neg Bool.false_ne_true]; rfl
  · rw [if_pos rfl]; rfl
theorem both (s : ByteArray) (hs : s.size ≤ 140737488351232) : ∃ r, Ev (fun k => spec_TieStands.f k s) r ∧ Ev (fun k => impl_TieStands.f k s) r := by
  have hg := tnIs s hs 7
  have hpi := isPoints s hs 300
  cases h : isGame 7 s with
  | false =>
    rw [h] at hg
    refine ⟨(⟨#[]⟩, false), Ev.congr (f := fun k => (spec_tnIs.f k 7 2 s).bind fun t458 => (if t458 = true then ((spec_tnTie.f).bind fun bt459 => ((spec_tnPlay.f k bt459.1 bt459.2 s 0).bind fun bt461 => ((spec_tnTieStands.f k bt461.1 bt461.2.1 bt461.2.2.2).bind fun t465 => (some (t465, true))))) else (some ((⟨#[]⟩ : ByteArray), false)))) (fun k => by unfold spec_TieStands.f; simp only [spec_tnTie.f, Option.bind_some]) (Ev.bind hg (Ev.congr (fun k => by rw [if_neg Bool.false_ne_true]) (Ev.now _))), ?_⟩
    refine Ev.step (f := fun _ => some ((⟨#[]⟩ : ByteArray), false)) (fun k => ?_) (Ev.now _)
    have end_ : ∀ a b w p, impl_TieStands.j0 (k + 1) true a b w p = some ((⟨#[]⟩ : ByteArray), false) := by
      intro a b w p
      simp only [impl_TieStands.j0]
      rw [if_pos trivial]
    obtain ⟨r, hr⟩ := follow_some s 7 2
    unfold impl_TieStands.f
    simp only [impl_tie.f, Option.bind_some]
    rw [hr, Option.bind_some, hpi, Option.bind_some]
    by_cases hp : ptsB 300 s = true
    · rw [if_pos hp]
      obtain ⟨x, y, w, p, hf, h2, h3⟩ := follow_f s (of_decide_eq_true hp).2 hs 7 (by omega)
      have hp0 : p = false := by
        unfold isGame at h
        rw [hp, Bool.true_and] at h
        rw [h2, h]
      rw [hf] at hr
      obtain rfl := Option.some.inj hr
      simp only [hp0, Bool.not_false]
      exact end_ _ _ _ _
    · rw [if_neg hp]
      exact end_ _ _ _ _
  | true =>
    rw [h] at hg
    have h' := h
    unfold isGame at h'
    have hp1 := (Bool.and_eq_true_iff.1 h').1
    have hp := of_decide_eq_true hp1
    have hm := of_decide_eq_true (Bool.and_eq_true_iff.1 h').2
    obtain ⟨x, y, w, p, hf, h2, h3⟩ := follow_f s hp.2 hs 7 (by omega)
    have hpt : p = true := by rw [h2, decide_eq_true hm]
    obtain ⟨rfl, rfl, rfl⟩ := h3 hpt
    subst hpt
    have hb : 0 ≤ (run 7 s).1 ∧ (run 7 s).1 ≤ 300 ∧ 0 ≤ (run 7 s).2.1 ∧ (run 7 s).2.1 ≤ 300 := by
      have := pl_bd 7 (bits s 0 s.size) 0 0
      rw [bits_length] at this
      unfold run
      omega
    obtain ⟨a, ha⟩ : ∃ a : Nat, (run 7 s).1 = (a : Int) := ⟨(run 7 s).1.toNat, by omega⟩
    obtain ⟨b, hb'⟩ : ∃ b : Nat, (run 7 s).2.1 = (b : Int) := ⟨(run 7 s).2.1.toNat, by omega⟩
    refine ⟨(tt a b (run 7 s).2.2.2, true), Ev.congr (f := fun k => (spec_tnIs.f k 7 2 s).bind fun t458 => (if t458 = true then ((spec_tnPlay.f k 7 2 s 0).bind fun bt461 => ((spec_tnTieStands.f k bt461.1 bt461.2.1 bt461.2.2.2).bind fun t465 => (some (t465, true)))) else (some ((⟨#[]⟩ : ByteArray), false)))) (fun k => by unfold spec_TieStands.f; simp only [spec_tnTie.f, Option.bind_some]) (Ev.bind hg (Ev.congr (fun k => by rw [if_pos rfl]) (Ev.bind (play s hs 7) ?_))), ?_⟩
    · simp only [ha, hb']
      exact Ev.bind (tie_spec a b _ (by omega) (by omega)) (Ev.now _)
    · refine Ev.step (f := fun _ => some (tt a b (run 7 s).2.2.2, true)) (fun k => ?_) (Ev.now _)
      unfold impl_TieStands.f
      simp only [impl_tie.f, Option.bind_some]
      rw [hf, Option.bind_some, hpi, Option.bind_some, if_pos hp1]
      simp only [Bool.not_true, ha, hb']
      rw [tie_impl a b _ _ (by omega) (by omega) k, who_some]
theorem FnExactTieStands : ∀ (a0 : ByteArray), (a0.size ≤ 140737488351232) → ∃ k, laws_FnExactTieStands.f k a0 = some true := by
  intro s hs
  obtain ⟨r, ⟨K1, h1⟩, ⟨K2, h2⟩⟩ := both s (by omega)
  refine ⟨max K1 K2, ?_⟩
  unfold laws_FnExactTieStands.f
  by_cases hb : (s.size : Int) > 1048576
  · rw [if_pos hb]
  · have h1 := h1 _ (Nat.le_max_left K1 K2)
    have h2 := h2 _ (Nat.le_max_right K1 K2)
    simp only at h1 h2
    rw [if_neg hb, h1, h2, Option.bind_some, Option.bind_some, if_pos rfl, bne_self_eq_false, if_neg Bool.false_ne_true]

end Go.Proofs.YtjnkcgddalbojaaDoor.Pure
