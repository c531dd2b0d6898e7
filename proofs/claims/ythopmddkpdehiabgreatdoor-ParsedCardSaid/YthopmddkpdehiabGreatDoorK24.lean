/-
  What the proof stands on, part 24: the logic of walks, the walks through the functions, the plain laws. Conditions: as each theorem says. (Merged and shortened by a program.)
-/
import Derived.Test.YthopmddkpdehiabGreatDoorK5
import Derived.Test.YthopmddkpdehiabGreatDoorK9
set_option linter.unusedVariables false
set_option linter.unusedSimpArgs false
set_option linter.defProp false
set_option maxRecDepth 4000
set_option maxHeartbeats 1000000
section
namespace Go.Proofs
open Go Go.SL Go.Syn Go.Mach
def aJ5(n:Int)(h0: -9223372036854775808≤n)(h1:n≤9223372036854775807)(K:Hl)(hg:Glob K):Sp x3 199 [i64 n] K [] (Val (str (Lib.itoa n)) K):=by
 refine rD ⟨_,Tryz.func199,Y,Y⟩ fun w hw=>(Tryz.strconv_Itoa n h0 h1 w (hg.pow10 w hw)).mono fun e w' ⟨he,k,os,hw'⟩=>⟨he,?_⟩
 rw[hw'];exact Lib.below_grow _ _ (xAA _) k os
def s5(o:Ins)(x:aP)(ks:List aP):Option (List aP):=oN (fun k=>(iA o x k).map fun ps=>x::ps) ks
end Go.Proofs
end
