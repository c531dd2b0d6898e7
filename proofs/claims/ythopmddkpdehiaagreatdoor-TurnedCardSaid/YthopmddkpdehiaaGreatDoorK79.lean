/-
  What the proof stands on, part 85: the logic of walks, the walks through the functions, the plain laws. Conditions: as each theorem says. (Merged and shortened by a program.)
-/
import Derived.Test.YthopmddkpdehiaaGreatDoorK30
import Derived.Test.YthopmddkpdehiaaGreatDoorK55
set_option linter.unusedVariables false
set_option linter.unusedSimpArgs false
set_option maxRecDepth 4000
set_option maxHeartbeats 1000000
section
namespace Go.Proofs
open Go Go.SL Go.Syn Go.Mach Go.Cmp
theorem bR1{n k:Nat}(h:n≤k):∀ {t:Tree},sOk n t→sOk k t:=by
 intro t;induction t with
 |const=>intro _;trivial
 |not_ t ih=>intro h1;exact ih h1
 |many a l ih=>intro h1;exact ih h1
 |mat tag oct op a b=>intro h1;exact⟨fun x hx=>by have:=h1.1 x hx;omega,fun x hx=>by have:=h1.2.1 x hx;omega,by have:=h1.2.2.1;omega,by have:=h1.2.2.2;omega⟩
 |exi a=>intro h1;exact⟨fun x hx=>by have:=h1.1 x hx;omega,by have:=h1.2;omega⟩
 |siz=>intro h1;exact h1
 |tnil=>intro _;trivial
 |tcons t l i1 i2=>intro h1;exact⟨i1 h1.1,i2 h1.2⟩
 |plain=>intro _;trivial
 |act k a p=>intro h1;exact Nat.le_trans h1 h
 |set_ a v t=>intro h1;exact⟨Nat.le_trans h1.1 h,Nat.le_trans h1.2 h⟩
 |iff bs ih=>intro h1;exact ih h1
 |cnil=>intro _;trivial
 |ccons c l i1 i2=>intro h1;exact⟨i1 h1.1,i2 h1.2⟩
 |bnil=>intro _;trivial
 |bcons t b l i1 i2 i3=>intro h1;exact⟨i1 h1.1,i2 h1.2.1,i3 h1.2.2⟩
 |belse b l i1 i2=>intro h1;exact⟨i1 h1.1,i2 h1.2⟩
theorem xK{s:aJ}{r:List aJ×Tree}(h:eD s=.ok r)(hs:s.length≤600):TextFit r:=by
 obtain⟨f1,f2,f3,f4,_⟩:=sJ h;have hn:=aHV h;obtain⟨_,_,_,_,_,g1,_,_,_⟩:=vQ h;obtain⟨n1,_⟩:=aZX g1 (by simp) (by simp);refine⟨f1,f4,bR1 hs f2,by omega,bDH h,by omega,fun x hx=>?_⟩
 have:=n1 x hx;simp only[rY,List.mem_cons,List.not_mem_nil,or_false]at this;rcases this with rfl|rfl|rfl|rfl <;> decide
end Go.Proofs
end
