/- The pure statement of the law FnDrop, and how its arguments open. -/
import Derived.Test.YtkeoifkdejnpfaaDoorSlFnDropGx25
import Derived.Test.YtkeoifkdejnpfaaDoorSlFnDropGvO
namespace Go.Proofs.YtkeoifkdejnpfaaDoor.G
open Go.RowKit Go.Proofs.YtkeoifkdejnpfaaDoorW.PrintWords Go.Proofs.YtkeoifkdejnpfaaDoorW.PrintLast Go.Proofs.YtkeoifkdejnpfaaDoorW.PrintMore
set_option linter.unusedVariables false

def laws_FnDrop.Pure : Prop := ∀ (x0 : List Int) (x1 : List Int), (x0.length ≤ maxLen ∧ ∀ x_ ∈ x0, (Lit.int .u8 x_).wf = true) → (x1.length ≤ maxLen ∧ ∀ x_ ∈ x1, (Lit.int .u8 x_).wf = true) → ∃ k, laws_FnDrop.f k x0 x1 = some true
end Go.Proofs.YtkeoifkdejnpfaaDoor.G
