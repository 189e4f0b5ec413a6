/- Printed by this session's drive.py (the kit's print.py with hooks): functions of the seat as plain Lean functions, and the proofs that the calls do what these say. -/
import Derived.Test.YtjnkcgddalbojaaDoorPAx0
namespace Go.Proofs.YtjnkcgddalbojaaDoor.PA
open Go.RowKit Go.Proofs.YtjnkcgddalbojaaDoorW.PrintWords Go.Proofs.YtjnkcgddalbojaaDoorW.PrintLast Go.Proofs.YtjnkcgddalbojaaDoorW.PrintMore
open Go.Proofs.YtjnkcgddalbojaaDoorH
attribute [local go_sem] max2_int min2_int max_two min_two max_three min_three max_four min_four   -- for this text's walks alone
set_option linter.unusedVariables false
set_option linter.unusedSimpArgs false

-- NOT PRINTED: function 94 (stringslite_Index)

-- NOT PRINTED: function 79 (strings_Index)

/-! ### strings_Count: function 50 -/
def strings_Count.f (a0 : ByteArray) (a1 : ByteArray) : Option (Int) := match a1.data.toList with
  | [c] => some (Lib.countByte a0.data.toList c)
  | _ => none
theorem strings_Count.calls (a0 : ByteArray) (a1 : ByteArray) (r : Int) (w : World) (h : strings_Count.f a0 a1 = some r) :
    Calls Tryd.prog 50 #[.string a0, .string a1] w fun e w' => e = .returned (.int .i64 r) ∧ Drawn0 w w' := by
  unfold strings_Count.f at h
  have e1 : ∀ c, a1.data.toList = [c] → a1 = ⟨#[c]⟩ := by
    intro c hc
    obtain ⟨d⟩ := a1
    have hd : d = #[c] := by rw [← Array.toList_inj]; exact hc
    rw [hd]
  cases hl : a1.data.toList with
  | nil => rw [hl] at h; cases h
  | cons c t =>
    cases t with
    | nil =>
      rw [hl] at h
      cases h
      rw [e1 c hl]
      refine (Tryd.strings_Count_one a0 c w).mono ?_
      rintro e w' ⟨rfl, rfl⟩
      exact ⟨rfl, Drawn0.refl _⟩
    | cons c' t' => rw [hl] at h; cases h

end Go.Proofs.YtjnkcgddalbojaaDoor.PA
-- narrow
