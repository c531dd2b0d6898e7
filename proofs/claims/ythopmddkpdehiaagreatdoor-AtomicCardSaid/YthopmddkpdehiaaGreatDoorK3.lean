/-
  What the proof stands on, part 3: the logic of walks, the walks through the functions, the plain laws. Conditions: as each theorem says. (Merged and shortened by a program.)
-/
import Derived.Test.YthopmddkpdehiaaGreatDoorK1
set_option linter.unusedVariables false
set_option linter.unusedSimpArgs false
set_option maxRecDepth 4000
set_option maxHeartbeats 1000000
namespace Go
theorem gCD{p:Prop}(h:p:=by rw[List.take_of_length_le aI,List.take_of_length_le aI]at hi1;exact hi1):p:=h
end Go
