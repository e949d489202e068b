import Derived.Test.YtkeoifkdejnpfaaDoorProg
import Derived.Test.YtkeoifkdejnpfaaDoorSlFnDropShelf
import Derived.Shelf.Strings.OnBuilder
set_option linter.unusedVariables false
namespace Go.Proofs.YtkeoifkdejnpfaaDoor.GivenB
open Go.Shelf Go.RowKit
end Go.Proofs.YtkeoifkdejnpfaaDoor.GivenB

