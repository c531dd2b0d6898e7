/-
  What the proof stands on, part 8: the logic of walks, the walks through the functions, the plain laws. Conditions: as each theorem says. (Merged and shortened by a program.)
-/
import Derived.Test.YthopmddkpdehiaaGreatDoorK1
set_option linter.unusedVariables false
set_option linter.unusedSimpArgs false
set_option maxRecDepth 4000
set_option maxHeartbeats 1000000
section
namespace Go.SL
section
variable{E:Env}{fr:Fr}{K:Hl}{L:List Asn}{dst:Option Tmp}{ty:TypeId}{pos:String}{aft:Array Edge}{g:Option (Nat×Bool)}{x y:Operand}{t t':TypeId}{m n:Int}{k:IntKind}
theorem aPT(hx:fr.ev x=some (.int k m))(hy:fr.ev y=some (.int k n))(h0:n≠0):Ev E fr K L ⟨dst,.binOp .rem t x y t',ty,pos,aft,g⟩ (.int k (m.tmod n)):=
 gT hx hy jR fun w=>by simp[binOp,Op.intDiv,h0,pure]
end
end Go.SL
end
