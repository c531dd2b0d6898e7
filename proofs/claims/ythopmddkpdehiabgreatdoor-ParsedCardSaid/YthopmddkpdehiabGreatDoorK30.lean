/-
  What the proof stands on, part 30: the logic of walks, the walks through the functions, the plain laws. Conditions: as each theorem says. (Merged and shortened by a program.)
-/
import Derived.Test.YthopmddkpdehiabGreatDoorK14
import Derived.Test.YthopmddkpdehiabGreatDoorK16
set_option linter.unusedVariables false
set_option linter.unusedSimpArgs false
set_option linter.defProp false
set_option maxRecDepth 4000
set_option maxHeartbeats 1000000
section
namespace Go.Syn
open Go.Mach
def bBP{ns:List aP}{x e:aP}(h:x∈ns):x∈addN ns e:=by
 unfold addN;split
 ·exact h
 exact List.mem_append_left _ h
def rX{x:aP}:∀ {l ns:List aP},x∈ns→x∈jK ns l
 | [],_,h=>h
 |e::l,ns,h=>by
  have:=rX (l:=l) (bBP (e:=e) h);exact this
end Go.Syn
end
