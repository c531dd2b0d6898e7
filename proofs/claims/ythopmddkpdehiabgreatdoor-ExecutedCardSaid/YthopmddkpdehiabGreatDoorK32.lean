/-
  What the proof stands on, part 32: the logic of walks, the walks through the functions, the plain laws. Conditions: as each theorem says. (Merged and shortened by a program.)
-/
import Derived.Test.YthopmddkpdehiabGreatDoorK10
import Derived.Test.YthopmddkpdehiabGreatDoorK17
set_option linter.unusedVariables false
set_option linter.unusedSimpArgs false
set_option linter.defProp false
set_option maxRecDepth 4000
set_option maxHeartbeats 1000000
section
namespace Go.Proofs
open Go Go.SL Go.Syn Go.Mach Go.Cmp
structure CI where
 i:Nat
 v:Value
 ws:List InsV
end Go.Proofs
end
