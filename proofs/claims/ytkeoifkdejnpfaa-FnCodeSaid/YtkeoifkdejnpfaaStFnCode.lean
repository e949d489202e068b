/- The pure statement of the law FnCode, and how its arguments open. -/
import Derived.Test.YtkeoifkdejnpfaaGx11
import Derived.Test.YtkeoifkdejnpfaaGvO
namespace Go.Proofs.Ytkeoifkdejnpfaa.G
open Go.RowKit Go.Proofs.YtkeoifkdejnpfaaW.PrintWords Go.Proofs.YtkeoifkdejnpfaaW.PrintLast Go.Proofs.YtkeoifkdejnpfaaW.PrintMore
set_option linter.unusedVariables false

def laws_FnCode.Pure : Prop := ∀ (x0 : List Int) (x1 : List Int), (x0.length ≤ maxLen ∧ ∀ x_ ∈ x0, (Lit.int .u8 x_).wf = true) → (x1.length ≤ maxLen ∧ ∀ x_ ∈ x1, (Lit.int .u8 x_).wf = true) → ∃ k, laws_FnCode.f k x0 x1 = some true
end Go.Proofs.Ytkeoifkdejnpfaa.G
