/- For every text, the program's SetOfGames answers what the reference's answers. (The pure statement behind the row: over numbers and lists alone.) -/
import Derived.Test.YtjnkcgddalbojaaDoorPAx51
import Derived.KernelRfl
import Derived.Laws.Strings
import Derived.Test.YtjnkcgddalbojaaDoorLibO
set_option linter.unusedSimpArgs false
set_option linter.unusedVariables false
namespace Go.Proofs.YtjnkcgddalbojaaDoor.Pure
open Go.RowKit Go.Proofs.YtjnkcgddalbojaaDoor.PA Go.Proofs.YtjnkcgddalbojaaDoorW.PrintWords Go.Proofs.YtjnkcgddalbojaaDoorW.PrintLast Go.Proofs.YtjnkcgddalbojaaDoorW.PrintMore

def ap (x e : ByteArray) : Nat → ByteArray
  | 0 => x
  | n + 1 => ap (x ++ e) e n
theorem mk_append (l m : List UInt8) : (⟨(l ++ m).toArray⟩ : ByteArray) = ⟨l.toArray⟩ ++ ⟨m.toArray⟩ := by
  apply ByteArray.ext
  rw [ByteArray.data_append]
  simp
theorem mk_data (e : ByteArray) : (⟨e.data.toList.toArray⟩ : ByteArray) = e := by
  apply ByteArray.ext
  simp
theorem ap_eq (e : ByteArray) (n : Nat) : ∀ x, ap x e n = x ++ ⟨(Lib.repeatL e.data.toList n).toArray⟩ := by
  induction n with
  | zero => intro x; simp only [ap, Lib.repeatL]; apply ByteArray.ext; rw [ByteArray.data_append]; simp
  | succ n ih => intro x; simp only [ap, Lib.repeatL]; rw [ih, mk_append, mk_data, ByteArray.append_assoc]
theorem ap_size (e : ByteArray) (n : Nat) (he : e.size = 1) : ∀ x, (ap x e n).size = x.size + n := by
  induction n with
  | zero => intro x; rfl
  | succ n ih => intro x; simp only [ap]; rw [ih, ByteArray.size_append, he]; omega
theorem ext_size (s : ByteArray) (i : Nat) (h : i < s.size) : (s.extract i (i + 1)).size = 1 := by rw [ByteArray.size_extract]; omega
theorem inner (s : ByteArray) (hs : s.size ≤ 13) (i n : Nat) (hi : i < s.size) (hn : n ≤ 7) (r : ByteArray × Bool) (m : Nat) : ∀ (q : Nat) (x : ByteArray), q + m = n → x.size + m ≤ 1000 → Ev (fun k => spec_SetOfGames.l0 k s (ap x (s.extract i (i + 1)) m) ((i + 1 : Nat) : Int)) r →
    Ev (fun k => spec_SetOfGames.l1 k s x (i : Int) (n : Int) (q : Int)) r := by
  have e1 : wrap64 ((i : Int) + 1) = ((i + 1 : Nat) : Int) := by rw [w64 (by omega) (by omega)]; rfl
  induction m with
  | zero =>
    intro q x hq hx h
    refine Ev.step (fun k => ?_) h
    simp only [spec_SetOfGames.l1]
    rw [if_neg (by omega), e1]
    rfl
  | succ m ih =>
    intro q x hq hx h
    have hz := ext_size s i hi
    refine Ev.step (fun k => ?_) (ih (q + 1) (x ++ s.extract i (i + 1)) (by omega) (by rw [ByteArray.size_append, hz]; omega) h)
    simp only [spec_SetOfGames.l1]
    rw [e1]
    have e2 : ((i : Int)).toNat = i := by omega
    have e3 : (((i + 1 : Nat) : Int)).toNat = i + 1 := by omega
    rw [e2, e3, if_pos (by omega), if_pos (by omega), if_pos (by omega), if_pos (by omega), if_pos (by rw [hz]; omega), w64 (i := (q : Int) + 1) (by omega) (by omega)]
    rfl
theorem outer (s : ByteArray) (hs : s.size ≤ 13) (d : Nat) : ∀ (i : Nat) (x : ByteArray), i + d = s.size → x.size ≤ 7 * i →
    ∃ r, Ev (fun k => spec_SetOfGames.l0 k s x (i : Int)) (r, true) ∧ Ev (fun k => impl_SetOfGames.l0 k s x (s.size : Int) (i : Int)) (r, true) := by
  induction d with
  | zero =>
    intro i x hi hx
    refine ⟨x, Ev.step (f := fun _ => some (x, true)) (fun k => ?_) (Ev.now _), Ev.step (f := fun _ => some (x, true)) (fun k => ?_) (Ev.now _)⟩
    · simp only [spec_SetOfGames.l0]; rw [if_neg (by omega)]
    · simp only [impl_SetOfGames.l0]; rw [if_neg (by omega)]
  | succ d ih =>
    intro i x hi hx
    have hz := ext_size s i (by omega)
    have e1 : wrap64 ((i : Int) + 1) = ((i + 1 : Nat) : Int) := by rw [w64 (by omega) (by omega)]; rfl
    have e2 : ((i : Int)).toNat = i := by omega
    have e3 : (((i + 1 : Nat) : Int)).toNat = i + 1 := by omega
    have go : ∀ n : Nat, n ≤ 7 → (n = 7 ↔ i = 12) → (n = 4 ∨ n = 7) → ∃ r, Ev (fun k => spec_SetOfGames.l0 k s x (i : Int)) (r, true) ∧ Ev (fun k => impl_SetOfGames.l0 k s x (s.size : Int) (i : Int)) (r, true) := by
      intro n hn h12 h47
      have hsz := ap_size (s.extract i (i + 1)) n hz x
      obtain ⟨r, h1, h2⟩ := ih (i + 1) (ap x (s.extract i (i + 1)) n) (by omega) (by omega)
      have hr : strings_Repeat.f (s.extract i (i + 1)) (n : Int) = some ⟨(Lib.repeatL (s.extract i (i + 1)).data.toList n).toArray⟩ := by
        unfold strings_Repeat.f
        have e4 : ((n : Int)).toNat = n := by omega
        rw [e4, if_pos ⟨by omega, by omega, by rw [hz]; omega⟩]
      have hrz : x.size + (⟨(Lib.repeatL (s.extract i (i + 1)).data.toList n).toArray⟩ : ByteArray).size ≤ 9223372036854775807 := by
        have := ap_eq (s.extract i (i + 1)) n x
        rw [this, ByteArray.size_append] at hsz
        omega
      rw [ap_eq] at h2
      refine ⟨r, Ev.step (f := fun k => spec_SetOfGames.j1 k s x (i : Int) (n : Int)) (fun k => ?_) (Ev.step (fun k => ?_) (inner s hs i n (by omega) hn (r, true) n 0 x (by omega) (by omega) h1)), Ev.step (fun k => ?_) h2⟩
      · simp only [spec_SetOfGames.l0]
        rw [if_pos (by omega)]
        rcases h47 with rfl | rfl
        · rw [if_neg (by omega)]; rfl
        · rw [if_pos (by omega)]; rfl
      · simp only [spec_SetOfGames.j1]; rfl
      · simp only [impl_SetOfGames.l0]
        rw [if_pos (by omega), e1, e2, e3]
        rcases h47 with rfl | rfl
        · rw [if_neg (by omega), if_pos (by omega), if_pos (by omega), if_pos (by omega)]
          rw [show strings_Repeat.f (s.extract i (i + 1)) 4 = _ from hr, Option.bind_some, if_pos hrz]
        · rw [if_pos (by omega), if_pos (by omega), if_pos (by omega), if_pos (by omega)]
          rw [show strings_Repeat.f (s.extract i (i + 1)) 7 = _ from hr, Option.bind_some, if_pos hrz]
    by_cases h : i = 12
    · exact go 7 (by omega) ⟨fun _ => h, fun _ => rfl⟩ (.inr rfl)
    · exact go 4 (by omega) ⟨fun h' => by omega, fun h' => absurd h' h⟩ (.inl rfl)
theorem FnExactSetOfGames : ∀ (a0 : ByteArray), (a0.size ≤ 140737488351232) → ∃ k, laws_FnExactSetOfGames.f k a0 = some true := by
  intro s hs
  have hso := spec_order s (by omega)
  have hall : ∃ r, Ev (fun k => spec_SetOfGames.f k s) r ∧ Ev (fun k => impl_SetOfGames.f k s) r := by
    unfold spec_SetOfGames.f impl_SetOfGames.f
    rw [impl_order s (by omega)]
    simp only [Option.bind_some]
    cases ho : order s with
    | false =>
      rw [ho] at hso
      exact ⟨(⟨#[]⟩, false), Ev.bind hso (Ev.congr (fun k => by rw [if_neg Bool.false_ne_true]) (Ev.now _)), Ev.congr (fun k => by rw [if_neg Bool.false_ne_true]) (Ev.now _)⟩
    | true =>
      have h13 : s.size ≤ 13 := by
        unfold order at ho
        have := (of_decide_eq_true (Bool.and_eq_true_iff.1 ho).1).1
        omega
      rw [ho] at hso
      obtain ⟨r, h1, h2⟩ := outer s h13 s.size 0 ⟨#[]⟩ (by omega) (by decide)
      exact ⟨(r, true), Ev.bind hso (Ev.congr (fun k => by rw [if_pos rfl]; rfl) h1), Ev.congr (fun k => by rw [if_pos rfl]; rfl) h2⟩
  obtain ⟨r, ⟨K1, h1⟩, ⟨K2, h2⟩⟩ := hall
  refine ⟨max K1 K2, ?_⟩
  unfold laws_FnExactSetOfGames.f
  by_cases hb : (s.size : Int) > 1048576
  · rw [if_pos hb]
  · have h1 := h1 _ (Nat.le_max_left K1 K2)
    have h2 := h2 _ (Nat.le_max_right K1 K2)
    simp only at h1 h2
    rw [if_neg hb, h1, h2, Option.bind_some, Option.bind_some, if_pos rfl, bne_self_eq_false, if_neg Bool.false_ne_true]

end Go.Proofs.YtjnkcgddalbojaaDoor.Pure
