/- What a text's lines say: asm.read. -/
import Derived.Test.YtaiajnehnjnadaaDoorLAsW3
set_option linter.unusedSimpArgs false
set_option linter.unusedVariables false
set_option linter.unnecessarySimpa false
namespace Go.Proofs.YtaiajnehnjnadaaDoor
open Go Go.Sx Go.Isa Go.Asm
open Nat (reduceAdd reduceLT)
set_option maxRecDepth 100000
structure R96 where
 k:Nat
 l:List Ln
 lb:List (B × Nat)
 A:Option Addr
 c:Nat
 A':Option Addr
 c':Nat
 m:List (Value × Value)
end Go.Proofs.YtaiajnehnjnadaaDoor
