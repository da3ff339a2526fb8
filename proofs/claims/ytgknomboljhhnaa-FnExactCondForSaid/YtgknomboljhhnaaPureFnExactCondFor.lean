/- The pure statement of the law FnExactCondFor: over numbers and lists alone, the printed function answers true. Conditions: none beyond the sizes of what a machine holds. -/
import Derived.Test.YtgknomboljhhnaaPFnExactCondForx2
import Derived.Laws.BitsLemmas
namespace Go.Proofs.Ytgknomboljhhnaa.Pure
open Go.RowKit Go.Proofs.Ytgknomboljhhnaa.PFnExactCondFor Go.Proofs.YtgknomboljhhnaaW.PrintWords Go.Proofs.YtgknomboljhhnaaW.PrintLast Go.Proofs.YtgknomboljhhnaaW.PrintMore
set_option linter.unusedVariables false
set_option linter.unusedSimpArgs false

-- LAW FnExactCondFor
theorem FnExactCondFor (a0_0 : Int) (a0_1 a0_2 a0_3 : Bool) (a1_0 : Bool) (a1_1 : Int) (a1_2 : ByteArray) : ∃ k : Nat, (fun _ => laws_FnExactCondFor.f a0_0 a0_1 a0_2 a0_3 a1_0 a1_1 a1_2) k = some true := by
  refine ⟨0, ?_⟩
  simp only [laws_FnExactCondFor.f, laws_szPart.f]
  split
  · simp
  · simp only [Option.bind_some]
    split
    · rfl
    · simp [laws_toPar.f, laws_toPart.f, spec_CondFor.f, impl_CondFor.f, laws_eqCond.f]

end Go.Proofs.Ytgknomboljhhnaa.Pure
