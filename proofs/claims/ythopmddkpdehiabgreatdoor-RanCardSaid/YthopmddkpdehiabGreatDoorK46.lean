/-
  What the proof stands on, part 46: the logic of walks, the walks through the functions, the plain laws. Conditions: as each theorem says. (Merged and shortened by a program.)
-/
import Derived.Test.YthopmddkpdehiabGreatDoorK41
import Derived.Test.YthopmddkpdehiabGreatDoorK44
set_option linter.unusedVariables false
set_option linter.unusedSimpArgs false
set_option linter.defProp false
set_option maxRecDepth 4000
set_option maxHeartbeats 1000000
section
namespace Go.Proofs
open Go Go.SL Go.Syn Go.Mach
open Go.Cmp (cT RIs InsV RIns eX kW gQ insA)
open Go.Say (Co)
def aG3{s:aP}{r:List aP×Tree}(hr:gN s=.ok r)(hl:s.length≤600):(∀o∈Cmp.script r.2,InsOk o)∧(Cmp.script r.2).length≤1000000:=by
 have hfit:=nP hr;have hsl:=Cmp.script_len r.2;refine⟨fun o ho=>?_,by omega⟩
 obtain⟨q1,q2,q3,q4⟩:=Cmp.script_fit hfit.2.1 o ho;exact⟨by omega,by omega,fun x hx=>by have:=q1 x hx;omega,fun x hx=>by have:=q2 x hx;omega⟩
def bM4{n k:Nat}(h:n≤k):∀ {t:Tree},sOk n t→sOk k t:=by
 intro t;induction t with
 |const=>intro _;trivial
 |not_ t ih=>intro h1;exact ih h1
 |many a l ih=>intro h1;exact ih h1
 |mat tag oct op a b=>intro h1;exact⟨fun x hx=>by have:=h1.1 x hx;omega,fun x hx=>by have:=h1.2.1 x hx;omega,by have:=h1.2.2.1;omega,by have:=h1.2.2.2;omega⟩
 |exi a=>intro h1;exact⟨fun x hx=>by have:=h1.1 x hx;omega,by have:=h1.2;omega⟩
 |siz=>intro h1;exact h1
 |tnil=>intro _;trivial
 |tcons t l i1 i2=>intro h1;exact⟨i1 h1.1,i2 h1.2⟩
 |plain=>intro _;trivial
 |act k a p=>intro h1;exact xAV h1 h
 |set_ a v t=>intro h1;exact⟨xAV h1.1 h,xAV h1.2 h⟩
 |iff bs ih=>intro h1;exact ih h1
 |cnil=>intro _;trivial
 |ccons c l i1 i2=>intro h1;exact⟨i1 h1.1,i2 h1.2⟩
 |bnil=>intro _;trivial
 |bcons t b l i1 i2 i3=>intro h1;exact⟨i1 h1.1,i2 h1.2.1,i3 h1.2.2⟩
 |belse b l i1 i2=>intro h1;exact⟨i1 h1.1,i2 h1.2⟩
def aA6(q:XP)(m:Msg)(hv:Value)(K:Hl)(hX:XOk K q)(hh:Ksl hdEl K hv m.hs)(hm:MsgOk m):Sp x3 24 [ptr q.rb,msgV m hv] K [] (Ret fun v K' L'=>∃av,(∃x n c,av=.slice x n c)∧v=OutV (sayC q.r m) av∧L'=[sl false dP av (sayC q.r m).acts]):=by
 have hf:=nP hX.ok;have hn:=tX hX.ok;have h6:=hX.fit;have hp:=(Say.parse_code (nm:=decide (eB∈q.r.1)) (m:=m) hX.ok h6).2;refine(aND q.r m hv q.rb K hX.ref hf.1 hf.2.2.2.1 (bM4 h6 hf.2.1) aH aH hh hm).mono fun e K' L' ⟨v,h1,av,h2,h3,h4⟩=>⟨v,h1,av,h2,?_,?_⟩
 ·rw[h3,bFF (n:=(sayC q.r m).steps),←hp];rfl
 rw[h4,←hp];rfl
end Go.Proofs
end
