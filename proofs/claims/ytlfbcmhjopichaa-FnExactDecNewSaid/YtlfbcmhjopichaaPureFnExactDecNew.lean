/- The pure statement of the law FnExactDecNew: over numbers and lists alone, the printed function answers true. Conditions: none beyond the sizes of what a machine holds. -/
import Derived.Test.YtlfbcmhjopichaaQFnExactDecNewx2
import Derived.Laws.BitsLemmas
namespace Go.Proofs.Ytlfbcmhjopichaa.Pure
open Go.RowKit Go.Proofs.Ytlfbcmhjopichaa.QFnExactDecNew Go.Proofs.YtlfbcmhjopichaaW.PrintWords Go.Proofs.YtlfbcmhjopichaaW.PrintLast Go.Proofs.YtlfbcmhjopichaaW.PrintMore
set_option linter.unusedVariables false
set_option linter.unusedSimpArgs false

-- LAW FnExactDecNew
theorem FnExactDecNew : laws_FnExactDecNew.Pure := ⟨12, by decide +kernel⟩

end Go.Proofs.Ytlfbcmhjopichaa.Pure
