import Derived.Test.YtppfcmkadcoboaaDoorSlFnExactReadTaskWw0
import Derived.StillTailTactics
set_option linter.unusedVariables false
namespace Go.Proofs.YtppfcmkadcoboaaDoor.GivenW
open Go.RowKit Go.Proofs.YtppfcmkadcoboaaDoorW.PrintWords

def I64 (n : Int) : Prop := -9223372036854775808 ≤ n ∧ n ≤ 9223372036854775807
instance (n : Int) : Decidable (I64 n) := inferInstanceAs (Decidable (_ ∧ _))
end Go.Proofs.YtppfcmkadcoboaaDoor.GivenW

