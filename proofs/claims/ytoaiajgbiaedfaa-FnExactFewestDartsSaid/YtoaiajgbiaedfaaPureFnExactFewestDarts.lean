/- For every score, the program's FewestDarts answers what the reference's answers. (The pure statement behind the row: over numbers and lists alone.) -/
import Derived.Test.YtoaiajgbiaedfaaPAx1049
import Derived.Test.YtoaiajgbiaedfaaLibF
set_option linter.unusedSimpArgs false
namespace Go.Proofs.Ytoaiajgbiaedfaa.Pure
open Go.RowKit Go.Proofs.Ytoaiajgbiaedfaa.PA Go.Proofs.Ytoaiajgbiaedfaa.Lib Go.Proofs.YtoaiajgbiaedfaaW.PrintWords Go.Proofs.YtoaiajgbiaedfaaW.PrintLast

theorem FnExactFewestDarts : ∀ (a0 : Int), ((Lit.int .i64 a0).wf = true) → ∃ k, laws_FnExactFewestDarts.f k a0 = some true := by
  intro a _
  refine Ev.rounds (Ev.bind (few_spec a) (Ev.bind (few_impl a) ?_))
  exact Ev.congr (fun k => by rw [if_pos rfl, bne_self_eq_false, if_neg Bool.false_ne_true]) (Ev.now _)

end Go.Proofs.Ytoaiajgbiaedfaa.Pure
