/- Whether what is found is clean. -/
import Derived.Test.YtgghmmjoplddbaaGreatDoorZLpCmp
import Derived.Test.YtgghmmjoplddbaaGreatDoorZOcCode
set_option linter.unusedSimpArgs false
set_option linter.unusedVariables false
set_option linter.unnecessarySimpa false
namespace Go.Proofs.YtgghmmjoplddbaaGreatDoor
open Go Go.Sx Go.Isa Go.Lint
open Nat (reduceAdd reduceLT)
set_option maxRecDepth 100000
end Go.Proofs.YtgghmmjoplddbaaGreatDoor
