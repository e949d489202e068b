import Derived.Test.YtppfcmkadcoboaaDoorProg
import Derived.Test.YtppfcmkadcoboaaDoorSlFnExactReadTaskShelf
import Derived.Shelf.Strings.OnBuilder
set_option linter.unusedVariables false
namespace Go.Proofs.YtppfcmkadcoboaaDoor.GivenB
open Go.Shelf Go.RowKit
end Go.Proofs.YtppfcmkadcoboaaDoor.GivenB

