/-
  What the proof stands on, part 42: the logic of walks, the walks through the functions, the plain laws. Conditions: as each theorem says. (Merged and shortened by a program.)
-/
import Derived.Test.YthopmddkpdehiabGreatDoorK13
import Derived.Test.YthopmddkpdehiabGreatDoorK18
import Derived.Test.YthopmddkpdehiabGreatDoorK40
import Derived.Test.YthopmddkpdehiabGreatDoorK41
set_option linter.unusedVariables false
set_option linter.unusedSimpArgs false
set_option linter.defProp false
set_option maxRecDepth 4000
set_option maxHeartbeats 1000000
section
attribute [local irreducible] Go.SL.T Go.SL.OL Go.SL.D Go.SL.DL Go.SL.Ev Go.SL.Ef Go.SL.EfS
namespace Go.Proofs
open Go Go.SL Go.Syn Go.Mach
open Go.Say (Co)
open Go.Cmp (cnt)
def aIF(q:List aP×Tree)(x:aP)(b:Nat)(K:Hl)(hq:tO K b q)(hn:q.1.length≤10000):Sp x3 48 [ptr b,str x] K [] (Ret fun v K' L'=>v=.bool (decide (x∈q.1))∧K'=K∧L'=[]):=by
 obtain⟨nv,bv,us,hb,hnv,hus,hrr⟩:=hq;refine bN Tryz.func48 Y Tryz.ntmps48 Y Y fun F w=>?_;refine zz12 ?_;refine bA Y Y (q8 nv _ q.1 _ [] (.known hnv) aH) .nil Y ?_;rintro _ K _ ⟨rfl,rfl,rfl⟩ -;refine zz5 ?_;exact⟨_,Y,Y,Y,Y⟩
end Go.Proofs
end
