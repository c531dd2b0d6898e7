/-
  What the proof stands on, part 14: the logic of walks, the walks through the functions, the plain laws. Conditions: as each theorem says. (Merged and shortened by a program.)
-/
import Derived.Lib.ItoaLen
import Derived.Test.YthopmddkpdehiaaGreatDoorK4
set_option linter.unusedVariables false
set_option linter.unusedSimpArgs false
set_option maxRecDepth 4000
set_option maxHeartbeats 1000000
section
namespace Go.Syn
section
variable{s t b w:aJ}{a:Nat}{c:UInt8}
def esc(w:aJ):aJ:=w.flatMap fun c=>if c.toNat=34∨c.toNat=92 then [92,c]else [c]
end
inductive Tk where
 |sg (c:UInt8)
 |nm (w:aJ)
 |tg (w:aJ)
 |tx (w:aJ)
 |nu (n:Nat)
def Tk.body:Tk→aJ
 | .sg c=>[c]
 | .nm w=>w
 | .tg w=>58::w
 | .tx w=>34::(esc w++[34])
 | .nu n=>Lib.decDigits n
def Tk.sep:Tk→aJ→Prop
 | .nm _,t=>∀c,t.head?=some c→dO c=false
 | .tg _,t=>∀c,t.head?=some c→dO c=false
 | .nu _,t=>∀c,t.head?=some c→dO c=false
 |_,_=>True
end Go.Syn
end
