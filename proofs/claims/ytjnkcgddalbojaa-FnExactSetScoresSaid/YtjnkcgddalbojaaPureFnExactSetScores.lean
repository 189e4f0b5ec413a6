/- The program's SetScores answers what the reference's answers: the same rows, its own memory each time. (The pure statement behind the row: over numbers and lists alone.) -/
import Derived.Test.YtjnkcgddalbojaaPAx11
import Derived.KernelRfl
import Derived.Laws.Strings
set_option linter.unusedSimpArgs false
set_option linter.unusedVariables false
namespace Go.Proofs.Ytjnkcgddalbojaa.Pure
open Go.RowKit Go.Proofs.Ytjnkcgddalbojaa.PA Go.Proofs.YtjnkcgddalbojaaW.PrintWords Go.Proofs.YtjnkcgddalbojaaW.PrintLast Go.Proofs.YtjnkcgddalbojaaW.PrintMore

theorem FnExactSetScores : ∃ k, laws_FnExactSetScores.f k = some true := ⟨200, by kernel_rfl⟩

end Go.Proofs.Ytjnkcgddalbojaa.Pure
