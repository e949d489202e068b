/- The pure statement of the law FnExactReadTask, and how its arguments open. -/
import Derived.Test.YtppfcmkadcoboaaDoorSlFnExactReadTaskRx8
import Derived.Test.YtppfcmkadcoboaaDoorSlFnExactReadTaskGvO
namespace Go.Proofs.YtppfcmkadcoboaaDoor.R
open Go.RowKit Go.Proofs.YtppfcmkadcoboaaDoorW.PrintWords Go.Proofs.YtppfcmkadcoboaaDoorW.PrintLast Go.Proofs.YtppfcmkadcoboaaDoorW.PrintMore
set_option linter.unusedVariables false

def laws_FnExactReadTask.Pure : Prop := ∀ (x0 : ByteArray), (x0.size ≤ maxLen) → ∃ k, laws_FnExactReadTask.f k x0 = some true
end Go.Proofs.YtppfcmkadcoboaaDoor.R
