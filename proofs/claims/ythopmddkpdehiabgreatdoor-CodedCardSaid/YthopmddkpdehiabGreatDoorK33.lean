/-
  What the proof stands on, part 33: the logic of walks, the walks through the functions, the plain laws. Conditions: as each theorem says. (Merged and shortened by a program.)
-/
import Derived.Test.YthopmddkpdehiabGreatDoorK18
import Derived.Test.YthopmddkpdehiabGreatDoorK28
import Derived.Test.YthopmddkpdehiabGreatDoorK32
set_option linter.unusedVariables false
set_option linter.unusedSimpArgs false
set_option linter.defProp false
set_option maxRecDepth 4000
set_option maxHeartbeats 1000000
section
attribute [local irreducible] Go.SL.T Go.SL.OL Go.SL.D Go.SL.DL Go.SL.Ev Go.SL.Ef Go.SL.EfS
namespace Go.Proofs
open Go Go.SL Go.Syn Go.Mach Go.Cmp
def bIZ(n c:Nat)(w:World):(binOp .eql 43 (.slice none n c) (.slice none 0 0)).run x3 w=.ok (.bool true) w:=cY
def aO5(a:Addr)(n c:Nat)(w:World):(binOp .eql 43 (.slice (some a) n c) (.slice none 0 0)).run x3 w=.ok (.bool false) w:=cY
def aE2(v:Value)(xs:List (List UInt8))(K:Hl)(hv:Ksl (a7 9) K v xs)(hn:xs.length≤1000000):Sp x3 78 [v] K [] (Ret fun u K' L'=>∃a n c,u=.slice a n c∧K'=K∧L'=[sl false (a7 9) (.slice a n c) xs]):=by
 rcases hv with ⟨a,c,rfl,rfl⟩|⟨b,off,cap,cells,fz,rfl,hb,hc⟩
 ·cases a with
  |some a=>
   have hv:Ksl (a7 9) K (.slice (some a) 0 c) ([]:List aP):=.inl ⟨some a,c,rfl,rfl⟩;refine bN Tryz.func78 Y Tryz.ntmps78 Y Y fun F w=>?_;refine zz9 ?_;refine aA (aAG Y Y (fun _=>Y) (fun w=>aO5 _ _ _ w)) Y (zz7 ?_);refine cJ (zZ (k:=a7 9) cB) Y ?_;rintro _ K _ ⟨rfl,b5,rfl,rfl⟩ -;refine zz1 ?_;refine cJ (dQ (k:=(a7 9)) (ys:=([]:List aP)) eI Y Y .here (fun w j=>dJ Tryz.underlying43 (SeesSl.at (k:=a7 9) (.known hv) j)) (by simp) (by simp)) Y ?_;rintro v7 K _ ⟨rfl,rfl,ho7⟩ -;refine pE iQ ?_;rintro⟨sa,sn,sc,rfl⟩;refine zz5 ?_;exact⟨_,Y,_,_,_,Y,Y,Y⟩
  |none=>
  refine bN Tryz.func78 Y Tryz.ntmps78 Y Y fun F w=>?_;refine zz9 ?_;refine aA (aAG Y Y (fun _=>Y) (fun w=>bIZ _ _ w)) Y (zz10 ?_);refine cS (eL (a7 9)) (zz1 ?_);exact⟨_,Y,_,_,_,Y,Y,Y⟩
 have hv:Ksl (a7 9) K (.slice (some ⟨b,off,none⟩) xs.length cap) xs:=.inr ⟨b,off,cap,cells,fz,rfl,hb,hc⟩;clear hb hc;refine bN Tryz.func78 Y Tryz.ntmps78 Y Y fun F w=>?_;refine zz9 ?_;refine aA (aAG Y Y (fun _=>Y) (fun w=>aO5 _ _ _ w)) Y (zz7 ?_);refine cJ (zZ (k:=a7 9) cB) Y ?_;rintro _ K _ ⟨rfl,b5,rfl,rfl⟩ -;refine zz1 ?_;refine cJ (dQ (k:=(a7 9)) (ys:=xs) eI Y Y .here (fun w j=>dJ Tryz.underlying43 (SeesSl.at (k:=a7 9) (.known hv) j)) gC7 gC7) Y ?_;rintro v7 K _ ⟨rfl,rfl,ho7⟩ -;refine pE iQ ?_;rintro⟨sa,sn,sc,rfl⟩;refine zz5 ?_;exact⟨_,Y,_,_,_,Y,Y,Y⟩
def aXJ(b:Nat)(r:List aP×Tree)(s:aP)(K:Hl)(hr:gN s=.ok r)(hl:s.length≤600)(hat:wS K b r):
  Sp x3 47 [ptr b] K [] (Ret fun v K' L'=>K'=K∧∃ws,L'=[sl true cT v ws,eX ws (Cmp.script r.2)]):=by
 obtain⟨tb,cv,vs,fz,hb,hS,hcv,hvs⟩:=hat;have hfit:=nP hr;have hsl:=Cmp.script_len r.2;have hins:=Cmp.script_fit hfit.2.1;have hlen:=hvs.length
 generalize hcode:Cmp.script r.2=code at*
 have hcl:vs.length≤100000:=by omega
 obtain⟨ca,cn,cc,rfl⟩:=hcv.isSlice;refine bN Tryz.func47 Y Tryz.ntmps47 Y Y fun F w=>?_;refine zz16 ?_;refine aA (aK vF Y (.known hb) Y) Y ?_;refine aA (bU (k:=cT) Y Tryz.underlying36 Y aL) Y (zz4 ?_);refine eH (fun(q:CI)=>q.i≤vs.length∧q.ws.length=q.i) (fun q=>[(3,q.v),(9,.slice ca cn cc),(10,i64 vs.length),(11,i64 q.i)]) (fun _=>K) (fun q=>[sl true cT q.v q.ws,eX q.ws (code.take q.i)]) (fun q=>vs.length - q.i) ⟨0,.slice none 0 0,[]⟩ ⟨x9 _,Y⟩ aS Y (fun h hh=>fF (lU h hh)) ?_;intro ⟨i,v,ws⟩ ⟨hi0,hws⟩;dsimp only at hi0 hws ⊢;refine zz6 ?_;refine aY 12 Y (fun h12=>?_) (fun h12=>?_)
 ·have hilt:i < vs.length:=by omega
  obtain⟨u,hu⟩:∃u,vs[i]?=some u:=⟨vs[i]'hilt,x4 hilt⟩;obtain⟨o,ho,hro⟩:=hvs.get hu;obtain⟨vop,vn,vtag,voct,⟨va,hva⟩,⟨vb,hvb⟩,vat⟩:=u;obtain⟨rfl,rfl,rfl,rfl,rfl,hra,hrb⟩:=hro;dsimp only at hra hrb;obtain⟨sa,sn,sc,rfl⟩:=hra.isSlice;obtain⟨ta,tn,tc,rfl⟩:=hrb.isSlice;have hoo:=hins o (x8 ho);refine zz6 ?_;refine aA (aX (k:=cT) eU Y aL Y Y gDB) Y ?_;refine aA (fA (n:=0) (k:=cT) iF Y aL b0) Y (zz1 ?_);rintro _ K _ ⟨b5,rfl,rfl,rfl⟩ -;refine cD (cX iF Y Y Y bR gC1 (.cons (.cons (.cons (.cons (.cons (.cons (.cons .nil))))))) gC8) ?_;rintro _ K _ ⟨rfl,rfl⟩ -;refine zz3 ?_;refine cZ (anc:=[0,1,3,0,8,31,31,127,255,511]) (ord:=[0,1,3,4,2,6,5,7,8,9]) [2,5,7,9] [7,9] mixed gC5 (aM bW bF) (zz4 ?_);refine aVK Y (.none Y) Y Y Y Y (aE2 _ o.a _ hra (by have:=hoo.2.2.1;omega)) .nil Y ?_;rintro _ K _ ⟨pa,pn,pc,rfl,rfl,rfl⟩ -;refine⟨_,(show Tks _ _ _ from (aM cI bF)).sat,?_⟩
  refine zz1 ?_;refine aVK Y (.none Y) Y Y Y Y (aE2 _ o.b _ hrb (by have:=hoo.2.2.2;omega)) .nil Y ?_;rintro _ K _ ⟨qa,qn,qc,rfl,rfl,rfl⟩ -;refine⟨_,(show Tks _ _ _ from (aM cI bF)).sat,?_⟩
  refine mT Y Y (.none Y) Y (bX eP Y Y dA bR aZe Y) ?_;rintro _ K _ ⟨rfl,rfl⟩ -;refine zz1 ?_;refine mT Y Y (.none Y) Y (bX eP Y Y dA bR aZe Y) ?_;rintro _ K _ ⟨rfl,rfl⟩ -;refine zz5 ?_;refine cJ (bM (z0:=[.int .i64 0,.int .i64 0,.int .i64 0,.bool false,.slice none 0 0,.slice none 0 0,.int .i64 0]) eU rL Y Y Y Y dF) Y ?_;rintro _ K _ ⟨b25,rfl,rfl,rfl⟩ -;refine cJ (dQ (k:=cT) (ys:=[(⟨o.op,o.n,o.tag,o.oct,⟨.slice pa pn pc,Y⟩,⟨.slice qa qn qc,Y⟩,o.at_⟩:InsV)]) sD Y Y bR (fun w j=>dJ Tryz.underlying36 (SeesSl.at (k:=cT) (.blk aL Y Y) j)) gC7 gC7) Y ?_;rintro v26 K _ ⟨rfl,rfl,ho26⟩ -;refine zz8 ?_;refine aQ (aM yY (aM nC (aM nC (aM bW bF)))) ?_;refine cS (kT (v:=⟨o.op,o.n,o.tag,o.oct,⟨.slice pa pn pc,Y⟩,⟨.slice qa qn qc,Y⟩,o.at_⟩) (o:=o) Y Y Y Y Y) ?_;exact cM ⟨i+1,v26,ws++[⟨o.op,o.n,o.tag,o.oct,⟨.slice pa pn pc,Y⟩,⟨.slice qa qn qc,Y⟩,o.at_⟩]⟩ ⟨by (show i+1≤vs.length);omega,by simp[hws]⟩ gE2 aS Y (fun h hh=>by have e:code.take (i+1)=code.take i++[o]:=(by rw[xAX,ho];rfl);show Sat [sl true cT v26 _,eX _ (code.take (i+1))] h;rw[e];exact iM hh)
 have hfin:code.take i=code:=xAI aH;rw[hfin];refine zz13 ?_;exact⟨_,Y,Y,ws,Y⟩
end Go.Proofs
end
