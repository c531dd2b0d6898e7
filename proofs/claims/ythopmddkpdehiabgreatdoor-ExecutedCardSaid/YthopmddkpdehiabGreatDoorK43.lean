/-
  What the proof stands on, part 43: the logic of walks, the walks through the functions, the plain laws. Conditions: as each theorem says. (Merged and shortened by a program.)
-/
import Derived.Test.YthopmddkpdehiabGreatDoorK21
import Derived.Test.YthopmddkpdehiabGreatDoorK32
import Derived.Test.YthopmddkpdehiabGreatDoorK40
set_option linter.unusedVariables false
set_option linter.unusedSimpArgs false
set_option linter.defProp false
set_option maxRecDepth 4000
set_option maxHeartbeats 1000000
section
attribute [local irreducible] Go.SL.T Go.SL.OL Go.SL.D Go.SL.DL Go.SL.Ev Go.SL.Ef Go.SL.EfS
namespace Go.Proofs
open Go Go.SL Go.Syn Go.Mach
open Go.Cmp (cT RIs InsV RIns eX nilC lU kT)
def aEM(cv:Value)(vs:List InsV)(os:List Ins)(K:Hl)(hcv:Ksl cT K cv vs)(hR:RIs K vs os)(hf:CodeFit os):Sp x3 15 [cv] K [] (Ret fun v K' L'=>K'=K∧∃ws,L'=[sl false cT v ws,eX ws os]):=by
 have hl:vs.length=os.length:=hR.length;have hf1:=hf.1;refine bN Tryz.func15 Y Tryz.ntmps15 Y Y fun F w=>?_;refine zz17 ?_;refine eH (fun(q:CI)=>q.i≤vs.length∧q.ws.length=q.i) (fun q=>[(0,cv),(3,q.v),(4,i64 q.i)]) (fun _=>K) (fun q=>[sl false cT q.v q.ws,eX q.ws (os.take q.i)]) (fun q=>vs.length - q.i) ⟨0,.slice none 0 0,[]⟩ ⟨x9 _,Y⟩ aS Y (fun h hh=>fF (lU h hh)) ?_;intro ⟨i,v,ws⟩ ⟨hi0,hws⟩;dsimp only at hi0 hws ⊢;refine zz5 ?_;refine aA (bU (k:=cT) Y Tryz.underlying36 Y (.known hcv)) Y (zz3 ?_);refine aY 9 Y (fun h9=>?_) (fun h9=>?_)
 ·have hilt:i < vs.length:=by omega
  obtain⟨u,hu⟩:∃u,vs[i]?=some u:=⟨vs[i]'hilt,x4 hilt⟩;obtain⟨o,ho,hro⟩:=hR.get hu;obtain⟨vop,vn,vtag,voct,⟨va,hva⟩,⟨vb,hvb⟩,vat⟩:=u;obtain⟨rfl,rfl,rfl,rfl,rfl,hra,hrb⟩:=hro;dsimp only at hra hrb;obtain⟨sa,sn,sc,rfl⟩:=hra.isSlice;obtain⟨ta,tn,tc,rfl⟩:=hrb.isSlice;obtain⟨hfa,hfb⟩:=hf.2 o (x8 ho);refine zz8 ?_;refine aA (aX (k:=cT) (j:=i) eU Y (.known hcv) Y Y aH) Y ?_;refine aA (fA (n:=0) (k:=cT) iF Y (.known hcv) hu) Y (zz1 ?_);rintro _ K _ ⟨b5,rfl,rfl,rfl⟩ -;refine cD (cX iF Y Y Y bR gC1 (.cons (.cons (.cons (.cons (.cons (.cons (.cons .nil))))))) gC8) ?_;rintro _ K _ ⟨rfl,rfl⟩ -;refine zz6 ?_;refine aA (aX (k:=cT) (j:=i) eU Y (.known hcv) Y Y aH) Y ?_;refine aA (dU (k:=cT) (j:=i) fJ Y (.known hcv) hilt) Y ?_;refine aA (fD (k:=cT) eP Y (.known hcv) hu Y) Y ?_;refine j4 (eL (a7 9)) ?_;refine cJ (dQ (k:=(a7 9)) (ys:=o.a) eI Y Y .here (fun w j=>dJ Tryz.underlying43 (SeesSl.at (k:=a7 9) (.known hra) j)) gC7 gC7) Y ?_;rintro v21 K _ ⟨rfl,rfl,ho21⟩ -;rw[xBL];refine pE iQ ?_;rintro⟨pa,pn,pc,rfl⟩;refine zz1 ?_;refine uAh ?_;rintro _ K _ ⟨rfl,rfl⟩ -;refine zz6 ?_;refine aA (aX (k:=cT) (j:=i) eU Y (.known hcv) Y Y aH) Y ?_;refine aA (dU (k:=cT) (j:=i) jS Y (.known hcv) hilt) Y ?_;refine aA (fD (k:=cT) eP Y (.known hcv) hu Y) Y ?_;refine j4 (eL (a7 9)) ?_;refine cJ (dQ (k:=(a7 9)) (ys:=o.b) eI Y Y .here (fun w j=>dJ Tryz.underlying43 (SeesSl.at (k:=a7 9) (.known hrb) j)) gC7 gC7) Y ?_;rintro v28 K _ ⟨rfl,rfl,ho28⟩ -;rw[xBL];refine pE iQ ?_;rintro⟨qa,qn,qc,rfl⟩;refine zz1 ?_;refine uAh ?_;rintro _ K _ ⟨rfl,rfl⟩ -;refine zz5 ?_;refine cJ (bM (z0:=[.int .i64 0,.int .i64 0,.int .i64 0,.bool false,.slice none 0 0,.slice none 0 0,.int .i64 0]) eU rL Y Y Y Y dF) Y ?_;rintro _ K _ ⟨b32,rfl,rfl,rfl⟩ -;refine cJ (dQ (k:=cT) (ys:=[(⟨o.op,o.n,o.tag,o.oct,⟨.slice pa pn pc,Y⟩,⟨.slice qa qn qc,Y⟩,o.at_⟩:InsV)]) sD Y Y bR (fun w j=>dJ Tryz.underlying36 (SeesSl.at (k:=cT) (.blk aL Y Y) j)) gC7 gC7) Y ?_;rintro v33 K _ ⟨rfl,rfl,ho33⟩ -;refine zz9 ?_;refine aQ (aM nC (aM e7 (aM nC (aM bW bF)))) ?_;refine cS (kT (v:=⟨o.op,o.n,o.tag,o.oct,⟨.slice pa pn pc,Y⟩,⟨.slice qa qn qc,Y⟩,o.at_⟩) (o:=o) Y Y Y Y Y) ?_;exact cM ⟨i+1,v33,ws++[⟨o.op,o.n,o.tag,o.oct,⟨.slice pa pn pc,Y⟩,⟨.slice qa qn qc,Y⟩,o.at_⟩]⟩ ⟨by (show i+1≤vs.length);omega,by simp[hws]⟩ gE2 aS Y (fun h hh=>by have e:os.take (i+1)=os.take i++[o]:=(by rw[xAX,ho];rfl);show Sat [sl false cT v33 _,eX _ (os.take (i+1))] h;rw[e];exact iM hh)
 have hfin:os.take i=os:=xAI aH;rw[hfin];refine zz13 ?_;exact⟨_,Y,Y,ws,Y⟩
end Go.Proofs
end
