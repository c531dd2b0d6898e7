/-
  What the proof stands on, part 63: the logic of walks, the walks through the functions, the plain laws. Conditions: as each theorem says. (Merged and shortened by a program.)
-/
import Derived.Test.YthopmddkpdehiabGreatDoorK59
set_option linter.unusedVariables false
set_option linter.unusedSimpArgs false
set_option linter.defProp false
set_option maxRecDepth 4000
set_option maxHeartbeats 1000000
section
attribute [local irreducible] Go.SL.T Go.SL.OL Go.SL.D Go.SL.DL Go.SL.Ev Go.SL.Ef Go.SL.EfS
namespace Go.Proofs
open Go Go.SL Go.Syn Go.Mach
open Go.Cmp (fK)
def aTW(sv:Value)(xs:List OpV)(K:Hl)(hg:Glob K)(hE:ErrT K)(hv:Ksl opEl K sv xs)(his:∀x∈xs,OpIs K x)(hz:∀x∈xs,OpFit 140737488355328 x)(hl:xs.length≤140737488355328):Sp x3 3 [sv] K [] (Ret fun v K' L'=>v=.bool true∧L'=[]):=by
 refine bN Tryz.func3 Y Tryz.ntmps3 Y Y fun F w=>?_;refine zz8 ?_;refine cJ (bM (z0:=[.int .i64 0]) lY tz3 Y Y Y Y dF) Y ?_;rintro _ K _ ⟨b4,rfl,rfl,rfl⟩ -;refine j4 (qH (k:=fK 3) (xs:=[2]) Y) ?_;refine bA Y Y (aPW sv _ xs [2] (fun kd h=>by rcases h with h|h|h|⟨q,hq,h⟩;exact⟨by omega,by omega,by omega⟩;exact⟨by omega,by omega,by omega⟩;exact⟨by omega,by omega,by omega⟩;(have hq:=List.mem_singleton.1 hq;subst hq;exact⟨by omega,by omega,by omega⟩)) (by decide) _ hg hE hv his hz hl) bS Y ?_;rintro _ K1 _ ⟨rfl,rfl⟩ le1;refine zz4 ?_;refine bI Y Y le1 ?_;exact⟨_,Y,Y,Y⟩
end Go.Proofs
end
