/-
  What the proof stands on, part 18: the logic of walks, the walks through the functions, the plain laws. Conditions: as each theorem says. (Merged and shortened by a program.)
-/
import Derived.Lib.IndexMore
import Derived.Lib.IndexLaws
import Derived.Lib.IndexBytes
import Derived.Test.YthopmddkpdehiaaGreatDoorK2
import Derived.Test.YthopmddkpdehiaaGreatDoorK6
set_option linter.unusedVariables false
set_option linter.unusedSimpArgs false
set_option maxRecDepth 4000
set_option maxHeartbeats 1000000
section
namespace Go.Mach
open Go.Syn
def ad(s:aJ):Bool:=(Lib.cut s [64]).2.2&&(decide ((Lib.cut s [64]).1≠[])&&(decide ((Lib.cut s [64]).2.1≠[])&&(!(s.any mL)&&(!(decide (0≤Lib.index (Lib.cut s [64]).2.1 [64]))&&decide (s.length≤32)))))
end Go.Mach
end
