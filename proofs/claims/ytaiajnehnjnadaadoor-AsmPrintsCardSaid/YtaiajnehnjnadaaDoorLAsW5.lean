/- The first wrong line: asm.wrong. -/
import Derived.Test.YtaiajnehnjnadaaDoorLAsW4
set_option linter.unusedSimpArgs false
set_option linter.unusedVariables false
set_option linter.unnecessarySimpa false
namespace Go.Proofs.YtaiajnehnjnadaaDoor
open Go Go.Sx Go.Isa Go.Asm
open Nat (reduceAdd reduceLT)
set_option maxRecDepth 100000
end Go.Proofs.YtaiajnehnjnadaaDoor
