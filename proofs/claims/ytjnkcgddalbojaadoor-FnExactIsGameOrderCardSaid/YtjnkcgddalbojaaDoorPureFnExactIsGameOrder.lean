/- For every text, the program's IsGameOrder answers what the reference's answers. (The pure statement behind the row: over numbers and lists alone.) -/
import Derived.Test.YtjnkcgddalbojaaDoorPAx34
import Derived.KernelRfl
import Derived.Laws.Strings
import Derived.Test.YtjnkcgddalbojaaDoorLibO
set_option linter.unusedSimpArgs false
set_option linter.unusedVariables false
namespace Go.Proofs.YtjnkcgddalbojaaDoor.Pure
open Go.RowKit Go.Proofs.YtjnkcgddalbojaaDoor.PA Go.Proofs.YtjnkcgddalbojaaDoorW.PrintWords Go.Proofs.YtjnkcgddalbojaaDoorW.PrintLast Go.Proofs.YtjnkcgddalbojaaDoorW.PrintMore

theorem FnExactIsGameOrder : ∀ (a0 : ByteArray), (a0.size ≤ 140737488351232) → ∃ k, laws_FnExactIsGameOrder.f k a0 = some true := by
  intro s hs
  obtain ⟨K, h⟩ := spec_order s (by omega)
  have h := h K (Nat.le_refl _)
  simp only at h
  refine ⟨K, ?_⟩
  unfold laws_FnExactIsGameOrder.f
  by_cases hb : (s.size : Int) > 1048576
  · rw [if_pos hb]
  · rw [if_neg hb]
    simp only [spec_IsGameOrder.f]
    rw [h, Option.bind_some, Option.bind_some, impl_order s (by omega), Option.bind_some, bne_self_eq_false, if_neg Bool.false_ne_true]

end Go.Proofs.YtjnkcgddalbojaaDoor.Pure
