/-
  What the proof stands on, part 13: the logic of walks, the walks through the functions, the plain laws. Conditions: as each theorem says. (Merged and shortened by a program.)
-/
import Derived.Test.YthopmddkpdehiabGreatDoorK6
set_option linter.unusedVariables false
set_option linter.unusedSimpArgs false
set_option linter.defProp false
set_option maxRecDepth 4000
set_option maxHeartbeats 1000000
section
namespace Go.SL
section
variable{E:Env}{fr:Fr}{K:Hl}{L L' M:List Asn}{dst:Option Tmp}{ty:TypeId}{pos:String}{aft:Array Edge}{g:Option (Nat×Bool)}{x y:Operand}{t t2 t' bytes:Nat}{α:Type}{k:El α}{v u:Value}{xs ys:List α}{n m j:Nat}
def aBS{P:Program}(w:World){e:TypeId}{a:Option Addr}{n c:Nat}(hu:P.underlying t=some (.slice e)):(Op.equal t (.slice a n c) (.slice none 0 0)).run P w=.ok a.isNone w:=by
 have h:∀d:Nat,(Op.equalIn (d+1) t (.slice a n c) (.slice none 0 0)).run P w=.ok a.isNone w:=fun d=>by cases a <;> simp[Op.equalIn,run_underlying hu]
 exact h 9999
def q6{e:TypeId}{a:Option Addr}{n c:Nat}(hu:E.P.underlying t=some (.slice e))(hx:fr.ev x=some (.slice a n c)):Ev E fr K L ⟨dst,.binOp .neq t x (.const (.slice none 0 0)) t',ty,pos,aft,g⟩ (.bool a.isSome):=
 jN hx (v:=.slice none 0 0) rfl (fun w=>by unfold eqGuard;first|rfl|simp) fun w=>by
  simp only[binOp];rw[bJ (aBS w hu)];cases a <;> rfl
end
end Go.SL
end
