/-
  What the proof stands on, part 10: the logic of walks, the walks through the functions, the plain laws. Conditions: as each theorem says. (Merged and shortened by a program.)
-/
import Derived.Test.YthopmddkpdehiaaGreatDoorK8
set_option linter.unusedVariables false
set_option linter.unusedSimpArgs false
set_option maxRecDepth 4000
set_option maxHeartbeats 1000000
section
namespace Go.SL
section
variable{E:Env}{fr:Fr}{K:Hl}{L:List Asn}{dst:Option Tmp}{ty:TypeId}{pos:String}{aft:Array Edge}{g:Option (Nat×Bool)}{x y:Operand}{t t':TypeId}{m n:Int}{k:IntKind}
theorem bHG(hx:fr.ev x=some (i64 m))(h1: -9223372036854775807≤m)(h2:m≤9223372036854775808):Ev E fr K L ⟨dst,.unOp .neg t x,ty,pos,aft,g⟩ (i64 (-m)):=fun a w f _=>by
 simp only[execOp,f.ev hx];refine eR ?_;have e:IntKind.i64.wrap (-m)= -m:=qG aI aI;simp[Op.unary,Op.intArith,e]
end
end Go.SL
end
