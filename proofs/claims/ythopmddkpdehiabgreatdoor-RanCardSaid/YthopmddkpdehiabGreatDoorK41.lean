/-
  What the proof stands on, part 41: the logic of walks, the walks through the functions, the plain laws. Conditions: as each theorem says. (Merged and shortened by a program.)
-/
import Derived.Test.YthopmddkpdehiabGreatDoorK28
import Derived.Test.YthopmddkpdehiabGreatDoorK38
import Derived.Test.YthopmddkpdehiabGreatDoorK39
set_option linter.unusedVariables false
set_option linter.unusedSimpArgs false
set_option linter.defProp false
set_option maxRecDepth 4000
set_option maxHeartbeats 1000000
section
namespace Go.Say
open Go.Syn Go.Mach Go.SL Go.Proofs
def holdsE(nm:Bool)(m:Msg)(all:Bool):List Tree→Co→Bool×Co
 | [],c=>(all,c)
 |t::l,c=>if (holds nm m t c).1=all then holdsE nm m all l (holds nm m t c).2 else holds nm m t c
def holdsL_E{nm:Bool}{m:Msg}{all:Bool}:∀ {l:Tree} {c:Co},rQ nm m all l c=holdsE nm m all (elems l) c
 | .tcons t l,c=>by
  show (if (holds nm m t c).1=all then rQ nm m all l (holds nm m t c).2 else holds nm m t c)=(if (holds nm m t c).1=all then holdsE nm m all (elems l) (holds nm m t c).2 else holds nm m t c)
  rw[holdsL_E (l:=l)]
 | .const _,c=>rfl
 | .not_ _,c=>rfl
 | .many _ _,c=>rfl
 | .mat _ _ _ _ _,c=>rfl
 | .exi _,c=>rfl
 | .siz _ _,c=>rfl
 | .tnil,c=>rfl
 | .plain _,c=>rfl
 | .act _ _ _,c=>rfl
 | .set_ _ _ _,c=>rfl
 | .iff _,c=>rfl
 | .cnil,c=>rfl
 | .ccons _ _,c=>rfl
 | .bnil,c=>rfl
 | .bcons _ _ _,c=>rfl
 | .belse _ _,c=>rfl
end Go.Say
end
section
attribute [local irreducible] Go.SL.T Go.SL.OL Go.SL.D Go.SL.DL Go.SL.Ev Go.SL.Ef Go.SL.EfS
namespace Go.Proofs
open Go Go.SL Go.Syn Go.Mach
open Go.Say (Co)
open Go.Cmp (cnt)
def w8{α:Type}{l:List α}{i:Nat}{x:α}(h:l[i]?=some x):l.drop i=x::l.drop (i+1):=by
 obtain⟨hl,e⟩:=xAG.1 h;rw[xAR hl,e]
def bM7{tag n z:Int}(h:tag=1∨tag=2):Value.bool (if tag=1 then decide (n < z)else decide (z < n))=.bool (decide (tag=1∧n < z∨tag=2∧z < n)):=by
 congr 1
 rcases h with rfl|rfl
 ·rw[x7 rfl,decide_eq_decide];omega
 rw[x5 (by decide),decide_eq_decide];omega
def bOD{op:Int}(h1:6≤op)(h2:op≤8)(h:matW op=gU):op=6:=by
 have:op=6∨op=7∨op=8:=by omega
 rcases this with rfl|rfl|rfl
 ·rfl
 ·cases h
 cases h
def bOE{op:Int}(h1:6≤op)(h2:op≤8)(h:matW op=dS):op=7:=by
 have:op=6∨op=7∨op=8:=by omega
 rcases this with rfl|rfl|rfl
 ·cases h
 ·rfl
 cases h
def bOF{op:Int}(h1:6≤op)(h2:op≤8)(h:¬matW op=gU)(h3:¬matW op=dS):op=8:=by
 have:op=6∨op=7∨op=8:=by omega
 rcases this with rfl|rfl|rfl
 ·exact absurd Y h
 ·exact absurd Y h3
 rfl
def bJR{w:aP}(h:w=j6∨w=iB∨w=rJ∨w=lZ∨w=l4∨w=gU∨w=dS∨w=gV∨w=kP∨w=nL)(h1:¬w=j6)(h2:¬w=iB)(h3:¬w=rJ)(h4:¬w=lZ)(h5:¬w=l4)(h6:¬w=kP)(h7:¬w=nL)(h8:¬w=gU)(h9:¬w=dS):w=gU∨w=dS∨w=gV:=by
 rcases h with h|h|h|h|h|h|h|h|h|h
 ·exact absurd h h1
 ·exact absurd h h2
 ·exact absurd h h3
 ·exact absurd h h4
 ·exact absurd h h5
 ·exact absurd h h8
 ·exact absurd h h9
 ·exact .inr (.inr h)
 ·exact absurd h h6
 exact absurd h h7
def yQ(sb:Nat)(m:Msg)(hv:Value)(nm:Bool)(t:Tree):Prop:=∀K:Hl,∀v:Cell,RR K t [v] []→Ksl hdEl K hv m.hs→∀c,CInv c→Sp x3 77 [ptr sb,v.1] K [stq sb m hv nm c false 0 0] (Ret fun r K' L'=>r=.bool (Say.holds nm m t c).1∧CInv (Say.holds nm m t c).2∧(Say.holds nm m t c).2.vars=c.vars∧L'=[stq sb m hv nm (Say.holds nm m t c).2 false 0 0])
def bEF{l:Tree}(h:sOk 600 l)(hw:wf l 1=true)(hc:cnt l≤100000):(Say.elems l).length≤100000:=by
 have key:∀ {l:Tree},wf l 1=true→(Say.elems l).length≤cnt l:=by
  intro l;induction l with
  |tcons t l ih1 ih2=>intro hw;simp[wf]at hw;have:=ih2 hw.2;simp only[Say.elems,List.length_cons,cnt];have:=aLW hw.1;omega
  |tnil=>intro _;simp[Say.elems]
  |_=>intro hw;simp[wf]at hw
 exact xAV (key hw) hc
def xZ(sb:Nat)(m:Msg)(hv:Value)(nm:Bool)(hm:MsgOk m)(t:Tree)(hw:wf t 0=true)(ho:okT t=true)(hs:sOk 600 t)(hcnt:cnt t≤100000)(ih:(∀u,t=.not_ u→yQ sb m hv nm u)∧∀all l,t=.many all l→∀u∈Say.elems l,yQ sb m hv nm u):yQ sb m hv nm t:=by
 intro K v hr hh c hc;obtain⟨b,w,tv,av,bv,tag,oct,n,rfl,hk,hsh⟩:=Say.rr_block hw hr;refine bN Tryz.func77 Y Tryz.ntmps77 Y Y fun F w=>?_;refine zz21 ?_;refine aY 19 Y (fun h19=>?_) (fun h19=>?_)
 ·have ht:=Say.sh_const (c:=true) hsh h19;subst ht;refine zz9 ?_;exact⟨_,Y,Y,hc,Y,Y⟩
 refine zz6 ?_;refine aY 21 Y (fun h21=>?_) (fun h21=>?_)
 ·have ht:=Say.sh_const (c:=false) hsh h21;subst ht;refine zz9 ?_;exact⟨_,Y,Y,hc,Y,Y⟩
 refine zz6 ?_;refine aY 23 Y (fun h23=>?_) (fun h23=>?_)
 ·obtain⟨u,v1,rfl,hru,hkt⟩:=Say.sh_not hsh h23;have ihu:=ih.1 u rfl K v1 hru hh c hc;refine zz7 ?_;refine aA (aX (k:=cC 159) (xs:=[v1]) (j:=0) iS Y (.known hkt) Y Y (by simp)) Y ?_;refine aA (cE (o:=0) (k:=cC 159) (xs:=[v1]) (u:=v1) ts159 Y (.known hkt) Y Y) Y ?_;refine bA Y Y ihu bS Y ?_;rintro _ K2 _ ⟨rfl,hc2,hvr,rfl⟩ le2;refine zz6 ?_;refine aA gC3 Y (zz6 ?_);refine bI Y Y le2 ?_;exact⟨_,Y,Y,hc2,hvr,Y⟩
 refine zz6 ?_;refine aY 35 Y (fun h35=>?_) (fun h35=>?_)
 ·obtain⟨l,xs,rfl,hru,hkt⟩:=Say.sh_many (all:=true) hsh h35;have hwl:wf l 1=true:=by simpa[wf]using hw
  obtain⟨hxl,hxr⟩:=Say.rr_elems hwl hru;have ihl:=ih.2 _ l rfl;have hxn:=bEF (l:=l) hs hwl (by simp only[cnt]at hcnt;omega);refine zz7 ?_;refine lK (fun(i:Nat) (K3:Hl) (d:Co)=>K.le K3∧i≤xs.length∧CInv d∧d.vars=c.vars∧Say.holdsE nm m true ((Say.elems l).drop i) d=Say.holds nm m (.many true l) c) (fun i _ _=>[(0,ptr sb),(1,ptr b),(6,i64 i)]) (fun _ K3 _=>K3) (fun _ _ d=>[stq sb m hv nm d false 0 0]) (fun i _ _=>xs.length - i) 0 K c ⟨xAB _,x9 _,hc,Y,by rw[xBG,←Say.holdsL_E];rfl⟩ aS Y (fun _ h=>h) ?_;intro i K3 d ⟨leK,hi0,hd,hdv,hi1⟩;have hk3:=leK _ _ hk;refine zz8 ?_;refine aA (bU (k:=cC 159) Y Tryz.underlying153 Y (.known (hkt.mono leK))) Y (zz3 ?_);refine aY 43 Y (fun h43=>?_) (fun h43=>?_)
  ·have hil:i < xs.length:=by omega
   obtain⟨x,hx⟩:∃x,xs[i]?=some x:=⟨xs[i]'hil,x4 hil⟩;obtain⟨u,hu⟩:∃u,(Say.elems l)[i]?=some u:=⟨(Say.elems l)[i]'(by omega),x4 aH⟩;have hdr:(Say.elems l).drop i=u::(Say.elems l).drop (i+1):=w8 hu;have ihu:=ihl u (x8 hu) K3 x ((hxr i x u hx hu).mono leK) (hh.mono leK) d hd;refine zz12 ?_;refine aA (aX (k:=cC 159) (xs:=xs) (j:=i) iS Y (.known (hkt.mono leK)) Y Y hil) Y ?_;refine aA (cE (o:=0) (k:=cC 159) (xs:=xs) (u:=x) ts159 Y (.known (hkt.mono leK)) hx Y) Y ?_;refine bA Y Y ihu bS Y ?_;rintro _ K2 _ ⟨rfl,hc2,hvr,rfl⟩ le2;refine zz6 ?_;refine aA gC3 Y (zz2 ?_);refine d9 56 Y (fun h56=>?_) (fun h56=>?_)
   ·have hst:Say.holdsE nm m true ((Say.elems l).drop i) d=Say.holds nm m u d:=(by rw[hdr,Say.holdsE,x5 gF8]);rw[hi1]at hst;refine zz13 ?_;refine bI Y Y (x6 leK le2) ?_;exact⟨_,Y,by rw[hst];revert h56;cases (Say.holds nm m u d).1 <;> simp,by rw[hst];exact hc2,by rw[hst];exact hvr.trans hdv,by rw[hst];rfl⟩
   refine zz8 ?_;exact eF (i+1) _ _ ⟨x6 leK le2,by omega,hc2,hvr.trans hdv,by rw[←hi1,hdr,Say.holdsE,x7 gF8]⟩ aH aS Y (fun _ h=>h)
  rw[xAU aH]at hi1;have hi1:(true,d)=Say.holds nm m (.many true l) c:=hi1;refine zz13 ?_;refine bI Y Y leK ?_;exact⟨_,Y,by rw[←hi1],by rw[←hi1];exact hd,by rw[←hi1];exact hdv,by rw[←hi1]⟩
 refine zz6 ?_;refine aY 57 Y (fun h57=>?_) (fun h57=>?_)
 ·obtain⟨l,xs,rfl,hru,hkt⟩:=Say.sh_many (all:=false) hsh h57;have hwl:wf l 1=true:=by simpa[wf]using hw
  obtain⟨hxl,hxr⟩:=Say.rr_elems hwl hru;have ihl:=ih.2 _ l rfl;have hxn:=bEF (l:=l) hs hwl (by simp only[cnt]at hcnt;omega);refine zz7 ?_;refine lK (fun(i:Nat) (K3:Hl) (d:Co)=>K.le K3∧i≤xs.length∧CInv d∧d.vars=c.vars∧Say.holdsE nm m false ((Say.elems l).drop i) d=Say.holds nm m (.many false l) c) (fun i _ _=>[(0,ptr sb),(1,ptr b),(8,i64 i)]) (fun _ K3 _=>K3) (fun _ _ d=>[stq sb m hv nm d false 0 0]) (fun i _ _=>xs.length - i) 0 K c ⟨xAB _,x9 _,hc,Y,by rw[xBG,←Say.holdsL_E];rfl⟩ aS Y (fun _ h=>h) ?_;intro i K3 d ⟨leK,hi0,hd,hdv,hi1⟩;have hk3:=leK _ _ hk;refine zz8 ?_;refine aA (bU (k:=cC 159) Y Tryz.underlying153 Y (.known (hkt.mono leK))) Y (zz3 ?_);refine aY 65 Y (fun h65=>?_) (fun h65=>?_)
  ·have hil:i < xs.length:=by omega
   obtain⟨x,hx⟩:∃x,xs[i]?=some x:=⟨xs[i]'hil,x4 hil⟩;obtain⟨u,hu⟩:∃u,(Say.elems l)[i]?=some u:=⟨(Say.elems l)[i]'(by omega),x4 aH⟩;have hdr:(Say.elems l).drop i=u::(Say.elems l).drop (i+1):=w8 hu;have ihu:=ihl u (x8 hu) K3 x ((hxr i x u hx hu).mono leK) (hh.mono leK) d hd;refine zz12 ?_;refine aA (aX (k:=cC 159) (xs:=xs) (j:=i) iS Y (.known (hkt.mono leK)) Y Y hil) Y ?_;refine aA (cE (o:=0) (k:=cC 159) (xs:=xs) (u:=x) ts159 Y (.known (hkt.mono leK)) hx Y) Y ?_;refine bA Y Y ihu bS Y ?_;rintro _ K2 _ ⟨rfl,hc2,hvr,rfl⟩ le2;refine zz8 ?_;refine d9 77 Y (fun h77=>?_) (fun h77=>?_)
   ·have hst:Say.holdsE nm m false ((Say.elems l).drop i) d=Say.holds nm m u d:=(by rw[hdr,Say.holdsE,x5 (by simpa using h77)]);rw[hi1]at hst;refine zz13 ?_;refine bI Y Y (x6 leK le2) ?_;exact⟨_,Y,by rw[hst,h77],by rw[hst];exact hc2,by rw[hst];exact hvr.trans hdv,by rw[hst];rfl⟩
   refine zz8 ?_;exact eF (i+1) _ _ ⟨x6 leK le2,by omega,hc2,hvr.trans hdv,by rw[←hi1,hdr,Say.holdsE,x7 (by simpa using h77)]⟩ aH aS Y (fun _ h=>h)
  rw[xAU aH]at hi1;have hi1:(false,d)=Say.holds nm m (.many false l) c:=hi1;refine zz13 ?_;refine bI Y Y leK ?_;exact⟨_,Y,by rw[←hi1],by rw[←hi1];exact hd,by rw[←hi1];exact hdv,by rw[←hi1]⟩
 refine zz6 ?_;refine aY 78 Y (fun h78=>?_) (fun h78=>?_)
 ·obtain⟨x,rfl,hka,hfit⟩:=Say.sh_exi hsh h78;have hsx:=hs;refine zz7 ?_;refine bA Y Y (aCO sb m hv nm c false 0 0 hc hm x av hfit (by have:=hsx.2;omega) (fun y hy=>xAV (hsx.1 y hy) aH) _ hka hh) bS Y ?_;rintro _ K _ ⟨rfl,rfl,rfl⟩ -;refine zz7 ?_;exact⟨_,Y,Y,hc,Y,Y⟩
 refine zz6 ?_;refine aY 86 Y (fun h86=>?_) (fun h86=>?_)
 ·have ht:=Say.sh_siz hsh h86;subst ht;refine rT fun nv vv cv av2=>?_;have htg:tag=1∨tag=2:=by simpa[okT]using ho
  refine aI ?_;refine cZ (anc:=[0,1,3,7,15,0,32,96,224,0,512,1536,3584,8191,16383]) (ord:=[0,1,2,3,4,5,6,7,8,9,10,11,12,13,14]) [13] [] mixed gC5 (cQ _) (zz13 ?_);refine iL Y (.none Y) Y Y Y Y (aE4 m.size n tag _) Y (zz6 ?_);refine cS (eO (m:=m) (c:=c)) (zz1 ?_);exact⟨_,Y,bM7 htg,hc,Y,Y⟩
 refine zz6 ?_;refine aY 102 Y (fun h102=>?_) (fun h102=>?_)
 ·obtain⟨op,xa,ya,rfl,hwo,hka,hkb⟩:=Say.sh_mat hsh (.inl h102);obtain⟨hsx1,hsx2,hsx3,hsx4⟩:=hs;have hop:op=6:=by have h9:=ho;simp[okT]at h9;exact bOD h9.2.2.1 h9.2.2.2 (hwo.symm.trans h102)
  have htg:1≤tag∧tag≤3:=by have h9:=ho;simp[okT]at h9;exact⟨h9.1,h9.2.1⟩
  subst hop;have hml:=tQ (N:=0) (nm:=nm) (c:=c) hm (names:=xa);have hel:=aGN (m:=m) (names:=xa);refine zz7 ?_;refine bA Y Y (wI sb m hv nm c false 0 0 hc hm xa av aH (fun y hy=>xAV (hsx1 y hy) aH) _ hka hh) bS Y ?_;rintro v109 K _ ⟨rfl,rfl⟩ -;refine zz4 ?_;refine cZ (anc:=[0,0,0,4,12,28,0,64,192,448,0,1024,3072,7168,16383,32767]) (ord:=[0,1,2,3,4,5,6,7,8,9,10,11,12,13,14,15]) [14] [14] mixed gC5 (cQ _) (zz14 ?_);refine eQ Y (.none Y) Y Y Y (mZ sb m hv nm c hc v109 bv (j7 nm m c xa) ya tag oct htg aH aH (vX hm) (fun y hy=>xAV (hsx2 y hy) aH) _ hkb) bS Y ?_;rintro _ K _ ⟨rfl,rfl,rfl⟩ -;refine zz7 ?_;exact⟨_,Y,Y,hc.matV (vX hm),sJ,Y⟩
 refine zz6 ?_;refine aY 125 Y (fun h125=>?_) (fun h125=>?_)
 ·obtain⟨op,xa,ya,rfl,hwo,hka,hkb⟩:=Say.sh_mat hsh (.inr (.inl h125));obtain⟨hsx1,hsx2,hsx3,hsx4⟩:=hs;have hop:op=7:=by have h9:=ho;simp[okT]at h9;exact bOE h9.2.2.1 h9.2.2.2 (hwo.symm.trans h125)
  have htg:1≤tag∧tag≤3:=by have h9:=ho;simp[okT]at h9;exact⟨h9.1,h9.2.1⟩
  subst hop;have hml:=tQ (N:=0) (nm:=nm) (c:=c) hm (names:=xa);have hel:=aGN (m:=m) (names:=xa);refine zz7 ?_;refine bA Y Y (aE3 sb m hv nm c false 0 0 xa av aH (fun y hy=>xAV (hsx1 y hy) aH) _ hka) bS Y ?_;rintro v132 K _ ⟨rfl,rfl⟩ -;refine zz4 ?_;refine cZ (anc:=[0,0,0,4,12,28,0,64,192,448,0,1024,3072,7168,16383,32767]) (ord:=[0,1,2,3,4,5,6,7,8,9,10,11,12,13,14,15]) [14] [14] mixed gC5 (cQ _) (zz14 ?_);refine eQ Y (.none Y) Y Y Y (mZ sb m hv nm c hc v132 bv (xa.flatMap (jL m)) ya tag oct htg aH aH (aFO hm) (fun y hy=>xAV (hsx2 y hy) aH) _ hkb) bS Y ?_;rintro _ K _ ⟨rfl,rfl,rfl⟩ -;refine zz7 ?_;exact⟨_,Y,Y,hc.matV (aFO hm),sJ,Y⟩
 obtain⟨op,xa,ya,rfl,hwo,hka,hkb⟩:=Say.sh_mat hsh (bJR (Say.sh_cases hsh) h19 h21 h23 h35 h57 h78 h86 h102 h125);obtain⟨hsx1,hsx2,hsx3,hsx4⟩:=hs;have hop:op=8:=by have h9:=ho;simp[okT]at h9;exact bOF h9.2.2.1 h9.2.2.2 (fun e=>h102 (hwo.trans e)) (fun e=>h125 (hwo.trans e))
 have htg:1≤tag∧tag≤3:=by have h9:=ho;simp[okT]at h9;exact⟨h9.1,h9.2.1⟩
 subst hop;refine zz15 ?_;refine iR (fun(i:Nat) (sv:Value)=>i≤xa.length) (fun i sv=>[(0,ptr sb),(1,ptr b),(12,sv),(13,i64 i)]) (fun _ _=>K) (fun i sv=>[sl false (a7 9) sv ((xa.take i).map (dH nm c.vars c.parts)),stq sb m hv nm c false 0 0]) (fun i _=>xa.length - i) 0 (.slice none 0 0) (x9 _) aS Y (eL (a7 9)) ?_;intro i sv hi0;refine zz8 ?_;refine aA (bU (k:=a7 9) Y Tryz.underlying43 Y (.known hka)) Y (zz3 ?_);refine aY 154 Y (fun h154=>?_) (fun h154=>?_)
 ·have hil:i < xa.length:=by omega
  obtain⟨x,hx⟩:∃x,xa[i]?=some x:=⟨xa[i]'hil,x4 hil⟩;have hxl:=hsx1 x (x8 hx);refine zz12 ?_;refine aA (aX (k:=a7 9) (j:=i) cB Y (.known hka) Y Y hil) Y ?_;refine aA (cE (o:=0) (k:=a7 9) ts9 Y (.known hka) hx Y) Y ?_;refine bA Y Y (aKP sb m hv nm c false 0 0 hc x aH _) bS Y ?_;rintro _ K _ ⟨rfl,rfl,rfl⟩ -;refine zz6 ?_;refine cJ (bM (z0:=[(str [])]) cB tz9 Y Y Y Y dF) Y ?_;rintro _ K _ ⟨b168,rfl,rfl,rfl⟩ -;refine cJ (dQ (k:=(a7 9)) (ys:=[dH nm c.vars c.parts x]) eI Y Y (.there (.there .here)) (fun w j=>dJ Tryz.underlying43 (SeesSl.at (.blk aL Y Y) j)) gC7 gC7) Y ?_;rintro v169 K _ ⟨rfl,rfl,ho169⟩ -;refine zz9 ?_;refine aQ (aM bW (aM cI bF)) ?_;exact cW (i+1) _ aH aH aS Y (fun _ h=>by rw[show (xa.take (i+1)).map (dH nm c.vars c.parts)=(xa.take i).map (dH nm c.vars c.parts)++[dH nm c.vars c.parts x]from by rw[xAX,hx];simp];exact h)
 rw[xAI aH];refine zz6 ?_;refine cZ (anc:=[0,0,0,4,12,28,0,64,192,448,0,1024,3072,7168,16383,32767]) (ord:=[0,1,2,3,4,5,6,7,8,9,10,11,12,13,14,15]) [14] [14] mixed gC5 (cQ _) (zz14 ?_);refine eQ Y (.none Y) Y Y Y (mZ sb m hv nm c hc sv bv (xa.map (dH nm c.vars c.parts)) ya tag oct htg (by rw[xAS];omega) aH (fun y hy=>by obtain⟨z,hz,rfl⟩:=xBF.1 hy;exact gX (xAV (hsx1 z hz) aH)) (fun y hy=>xAV (hsx2 y hy) aH) _ hkb) bS Y ?_;rintro _ K _ ⟨rfl,rfl,rfl⟩ -;refine zz5 ?_;exact⟨_,Y,Y,hc.matV (fun y hy=>by obtain⟨z,hz,rfl⟩:=xBF.1 hy;exact gX (xAV (hsx1 z hz) aH)),sJ,Y⟩
end Go.Proofs
end
section
namespace Go.Say
open Go.Syn Go.Mach Go.SL Go.Proofs
def runE(nm:Bool)(m:Msg):List Tree→Co→Res (Bool×Co)
 | [],c=>.ok (false,c)
 |x::l,c=>match cmd nm m x c with
  | .error e=>.error e
  | .ok r=>if r.1=true then .ok r else runE nm m l r.2
def run_E{nm:Bool}{m:Msg}:∀ {l:Tree} {c:Co},wf l 3=true→run nm m l c=runE nm m (elemsC l) c
 | .ccons x l,c,h=>by
  simp[wf]at h
  show run nm m (.ccons x l) c=runE nm m (x::elemsC l) c
  simp only[run,runE];cases cmd nm m x c with
  |error e=>rfl
  |ok r=>simp only[];rw[run_E (l:=l) h.2]
 | .cnil,c,_=>rfl
 | .const _,c,h=>by simp[wf]at h
 | .not_ _,c,h=>by simp[wf]at h
 | .many _ _,c,h=>by simp[wf]at h
 | .mat _ _ _ _ _,c,h=>by simp[wf]at h
 | .exi _,c,h=>by simp[wf]at h
 | .siz _ _,c,h=>by simp[wf]at h
 | .tnil,c,h=>by simp[wf]at h
 | .tcons _ _,c,h=>by simp[wf]at h
 | .plain _,c,h=>by simp[wf]at h
 | .act _ _ _,c,h=>by simp[wf]at h
 | .set_ _ _ _,c,h=>by simp[wf]at h
 | .iff _,c,h=>by simp[wf]at h
 | .bnil,c,h=>by simp[wf]at h
 | .bcons _ _ _,c,h=>by simp[wf]at h
 | .belse _ _,c,h=>by simp[wf]at h
def brsE(nm:Bool)(m:Msg)(o:Option Tree):List (Tree×Tree)→Co→Res (Bool×Co)
 | [],c=>match o with
  |some b=>run nm m b c
  |none=>.ok (false,c)
 |x::l,c=>if (holds nm m x.1 c).1=true then run nm m x.2 (holds nm m x.1 c).2 else brsE nm m o l (holds nm m x.1 c).2
def brs_E{nm:Bool}{m:Msg}:∀ {l:Tree} {c:Co},wf l 4=true→brs nm m l c=brsE nm m (brO l) (brL l) c
 | .bcons t b l,c,h=>by
  simp[wf]at h
  show brs nm m (.bcons t b l) c=brsE nm m (brO l) ((t,b)::brL l) c
  simp only[brs,brsE];rw[brs_E (l:=l) h.2.2]
 | .belse b l,c,_=>by simp only[brs,brsE,brL,brO]
 | .bnil,c,_=>by simp only[brs,brsE,brL,brO]
 | .const _,c,h=>by simp[wf]at h
 | .not_ _,c,h=>by simp[wf]at h
 | .many _ _,c,h=>by simp[wf]at h
 | .mat _ _ _ _ _,c,h=>by simp[wf]at h
 | .exi _,c,h=>by simp[wf]at h
 | .siz _ _,c,h=>by simp[wf]at h
 | .tnil,c,h=>by simp[wf]at h
 | .tcons _ _,c,h=>by simp[wf]at h
 | .plain _,c,h=>by simp[wf]at h
 | .act _ _ _,c,h=>by simp[wf]at h
 | .set_ _ _ _,c,h=>by simp[wf]at h
 | .iff _,c,h=>by simp[wf]at h
 | .cnil,c,h=>by simp[wf]at h
 | .ccons _ _,c,h=>by simp[wf]at h
section
variable{K:Hl}{t:Tree}{b:Nat}{w:aP}{tv av bv:Value}{tag p:Int}
def CSh(K:Hl)(t:Tree)(w:aP)(av:Value)(tag:Int)(tv bv:Value)(p:Int):Prop:=
 (∃op,t=.plain op∧w=if op=14 then mQ else jV)∨(∃k a,t=.act k a p∧w=actW k∧Ksl (a7 9) K av (if k=1 then []else [a]))∨
 (∃n v,t=.set_ n v tag∧w=tM∧Ksl (a7 9) K av [n,v])∨(∃bs xs ys,t=.iff bs∧w=txIf∧RR K bs xs ys∧Ksl (cC 159) K tv xs∧Ksl (cC 103) K bv ys)
def rr_cblock{v:Cell}(hw:wf t 2=true)(h:RR K t [v] []):∃b w av tag tv bv p,v=pcl b∧K b=some (cmO w av tag tv bv p)∧CSh K t w av tag tv bv p:=by
 cases t with
 |plain op=>obtain⟨_,b,p,e,hk⟩:=h;cases e;exact⟨b,_,_,_,_,_,_,Y,hk,.inl ⟨op,Y,Y⟩⟩
 |act k a p=>obtain⟨_,b,av,e,h1,hk⟩:=h;cases e;exact⟨b,_,_,_,_,_,_,Y,hk,.inr (.inl ⟨k,a,Y,Y,h1⟩)⟩
 |set_ n v t=>obtain⟨_,b,av,p,e,h1,hk⟩:=h;cases e;exact⟨b,_,_,_,_,_,_,Y,hk,.inr (.inr (.inl ⟨n,v,Y,Y,h1⟩))⟩
 |iff bs=>obtain⟨_,b,xs,ys,tv,bv,p,e,h1,h2,h3,hk⟩:=h;cases e;exact⟨b,_,_,_,_,_,_,Y,hk,.inr (.inr (.inr ⟨bs,xs,ys,Y,Y,h1,h2,h3⟩))⟩
 |_=>simp[wf]at hw
def vO(k:Int):actW k=qL∨actW k=fV∨actW k=gR∨actW k=iO:=by unfold actW;split;simp;split;simp;split <;> simp
def aMW(op:Int):(if op=14 then mQ else jV)=mQ∨(if op=14 then mQ else jV)=jV:=by split <;> simp
def csh_cases(h:CSh K t w av tag tv bv p):w=mQ∨w=jV∨w=qL∨w=fV∨w=gR∨w=iO∨w=tM∨w=txIf:=by
 rcases h with ⟨op,_,e⟩|⟨k,_,_,e,_⟩|⟨_,_,_,e,_⟩|⟨_,_,_,_,e,_⟩
 ·rcases aMW op with h|h <;> rw[h]at e <;> simp[e]
 ·rcases vO k with h|h|h|h <;> rw[h]at e <;> simp[e]
 ·simp[e]
 simp[e]
def csh_plain(h:CSh K t w av tag tv bv p)(hw:w=mQ∨w=jV)(ho:okT t=true):t=.plain (if w=mQ then 14 else 13):=by
 rcases h with ⟨op,rfl,e⟩|⟨k,_,_,e,_⟩|⟨_,_,_,e,_⟩|⟨_,_,_,_,e,_⟩
 ·simp[okT]at ho;rcases ho with rfl|rfl <;> rw[e] <;> rfl
 all_goals exfalso;revert hw;rw[e]
 ·rcases vO k with h|h|h|h <;> rw[h] <;> decide
 ·decide
 decide
def csh_act{k:Int}(h:CSh K t w av tag tv bv p)(hw:w=actW k)(hk:1≤k∧k≤4)(ho:okT t=true):∃a,t=.act k a p∧Ksl (a7 9) K av (if k=1 then []else [a]):=by
 have h4:∀x:Int,1≤x→x≤4→x=1∨x=2∨x=3∨x=4:=fun x h1 h2=>by omega
 rcases h with ⟨op,_,e⟩|⟨j,a,rfl,e,h1⟩|⟨_,_,_,e,_⟩|⟨_,_,_,_,e,_⟩
 ·exfalso;revert hw;rw[e];rcases aMW op with h|h <;> rw[h] <;> rcases vO k with h|h|h|h <;> rw[h] <;> decide
 ·simp[okT]at ho;have:j=k:=by
   revert hw;rw[e]
   rcases h4 j ho.1 ho.2 with rfl|rfl|rfl|rfl <;> rcases h4 k hk.1 hk.2 with rfl|rfl|rfl|rfl <;> decide
  subst this;exact⟨a,Y,h1⟩
 all_goals exfalso;revert hw;rw[e]
 ·rcases vO k with h|h|h|h <;> rw[h] <;> decide
 rcases vO k with h|h|h|h <;> rw[h] <;> decide
def csh_set(h:CSh K t w av tag tv bv p)(hw:w=tM):∃n v,t=.set_ n v tag∧Ksl (a7 9) K av [n,v]:=by
 rcases h with ⟨op,_,e⟩|⟨k,_,_,e,_⟩|⟨n,v,e,_,h1⟩|⟨_,_,_,_,e,_⟩
 ·exfalso;revert hw;rw[e];rcases aMW op with h|h <;> rw[h] <;> decide
 ·exfalso;revert hw;rw[e];rcases vO k with h|h|h|h <;> rw[h] <;> decide
 ·exact⟨n,v,e,h1⟩
 exfalso;revert hw;rw[e];decide
def csh_if(h:CSh K t w av tag tv bv p)(hw:w=txIf):∃bs xs ys,t=.iff bs∧RR K bs xs ys∧Ksl (cC 159) K tv xs∧Ksl (cC 103) K bv ys:=by
 rcases h with ⟨op,_,e⟩|⟨k,_,_,e,_⟩|⟨_,_,_,e,_⟩|⟨bs,xs,ys,e,_,h1⟩
 ·exfalso;revert hw;rw[e];rcases aMW op with h|h <;> rw[h] <;> decide
 ·exfalso;revert hw;rw[e];rcases vO k with h|h|h|h <;> rw[h] <;> decide
 ·exfalso;revert hw;rw[e];decide
 exact⟨bs,xs,ys,e,h1⟩
end
end Go.Say
end
section
attribute [local irreducible] Go.SL.T Go.SL.OL Go.SL.D Go.SL.DL Go.SL.Ev Go.SL.Ef Go.SL.EfS
namespace Go.Proofs
open Go Go.SL Go.Syn Go.Mach
open Go.Say (Co)
open Go.Cmp (cnt)
def aUC(sb:Nat)(m:Msg)(hv:Value)(nm:Bool)(hm:MsgOk m):∀t:Tree,okT t=true→sOk 600 t→cnt t≤100000→(wf t 0=true→yQ sb m hv nm t)∧(wf t 1=true→∀u∈Say.elems t,yQ sb m hv nm u):=by
 intro t;induction t with
 |not_ t ih=>
  intro ho hs hc;refine⟨fun hw=>xZ sb m hv nm hm _ hw ho hs hc ⟨fun u e=>?_,fun all l e=>(by cases e)⟩,fun hw=>by simp[wf]at hw⟩
  cases e;exact(ih ho hs gFO).1 gGG
 |many all l ih=>
  intro ho hs hc;refine⟨fun hw=>xZ sb m hv nm hm _ hw ho hs hc ⟨fun u e=>(by cases e),fun al2 l2 e=>?_⟩,fun hw=>by simp[wf]at hw⟩
  cases e;exact(ih (by simp[okT]at ho;exact ho.2) hs gFO).2 gGG
 |tcons t l ih1 ih2=>
  intro ho hs hc;refine⟨fun hw=>by simp[wf]at hw,fun hw u hu=>?_⟩
  simp[wf]at hw;simp[okT]at ho;simp only[cnt]at hc;rcases List.mem_cons.1 hu with rfl|hu
  ·exact(ih1 ho.1 hs.1 aH).1 hw.1
  exact(ih2 ho.2 hs.2 aH).2 hw.2 u hu
 |tnil=>intro ho hs hc;exact⟨fun hw=>by simp[wf]at hw,fun hw u hu=>by simp[Say.elems]at hu⟩
 |_=>intro ho hs hc;exact⟨fun hw=>xZ sb m hv nm hm _ hw ho hs hc ⟨fun u e=>(by cases e),fun all l e=>(by cases e)⟩,fun hw=>gDV⟩
section
variable{E:Env}{x0:Exit}{fr:Fr}{K:Hl}{L:List Asn}{Q:Post}{sb:Nat}{m:Msg}{hv:Value}{nm:Bool}{r:Res (Bool×Co)}
def bM8{d:Co}{en:Bool}{e p:Int}(hs:uP r d en e p):∀h,Sat (stq sb m hv nm d en e p::L) h→Sat (sto sb m hv nm r::L) h:=by
 intro h hh;cases r with
 |ok q=>obtain⟨rfl,rfl,rfl,rfl⟩:=hs;exact hh
 |error y=>obtain⟨rfl,rfl,rfl⟩:=hs;exact aF0 h hh
end
section
variable{nm:Bool}{m:Msg}{c:Co}
def iT{op:Int}(h:CInv c):SOk (c.vars.length+1) (Say.cmd nm m (.plain op) c):=by
 intro q hq;simp only[Say.cmd]at hq;split at hq
 ·cases hq;exact⟨h,Nat.le_succ _⟩
 cases hq;exact⟨⟨h.vn,h.vars,h.parts,h.acts,fun e=>by cases e⟩,Nat.le_succ _⟩
end
def cntL(l:List Tree):Nat:=(l.map cnt).sum
def aXI{t:Tree}(h:wf t 3=true):cntL (Say.elemsC t)=cnt t:=by
 induction t with
 |ccons x l ih1 ih2=>simp[wf]at h;have:=ih2 h.2;unfold cntL at*;simp only[Say.elemsC,List.map_cons,List.sum_cons,cnt];omega
 |cnil=>rfl
 |_=>simp[wf]at h
def aOF{l:List Tree}{i:Nat}{y:Tree}(h:l[i]?=some y):cntL (l.drop i)=cnt y+cntL (l.drop (i+1)):=by rw[w8 h];simp[cntL]
def bH4{t:Tree}(h:wf t 3=true):(Say.elemsC t).length≤cnt t:=by
 induction t with
 |ccons x l ih1 ih2=>simp[wf]at h;have:=ih2 h.2;have:=mR h.1;simp only[Say.elemsC,List.length_cons,cnt];omega
 |cnil=>exact x9 _
 |_=>simp[wf]at h
def RnI(nm:Bool)(m:Msg)(W:Res (Bool×Co))(n:Nat)(rest:List Tree)(d:Co)(en:Bool)(e p:Int):Prop:=
 (en=false∧e=0∧p=0∧CInv d∧d.vars.length+cntL rest≤n∧Say.runE nm m rest d=W)∨(en=true∧uP W d true e p∧SOk n W)
def bJB{nm:Bool}{m:Msg}{W:Res (Bool×Co)}{n:Nat}{l:List Tree}{i:Nat}{y:Tree}{d d2:Co}{en:Bool}{e p:Int}(hy:l[i]?=some y)(hb:d.vars.length+cntL (l.drop i)≤n)(hW:Say.runE nm m (l.drop i) d=W)(hs:uP (Say.cmd nm m y d) d2 en e p)(hk:SOk (d.vars.length+cnt y) (Say.cmd nm m y d)):RnI nm m W n (l.drop (i+1)) d2 en e p:=by
 rw[w8 hy]at hW;rw[aOF hy]at hb;simp only[Say.runE]at hW;cases hc:Say.cmd nm m y d with
 |error x=>
  rw[hc]at hW hs;obtain⟨rfl,rfl,rfl⟩:=hs;exact .inr ⟨Y,by subst hW;exact⟨Y,Y,Y⟩,by subst hW;intro q h;cases h⟩
 |ok q=>
  rw[hc]at hW hs hk;obtain⟨rfl,rfl,rfl,rfl⟩:=hs;obtain⟨h1,h2⟩:=hk q rfl;obtain⟨b,c2⟩:=q;simp only at*;cases b with
  |true=>rw[x7 rfl]at hW;exact .inr ⟨Y,by subst hW;exact⟨Y,Y,Y,Y⟩,by subst hW;intro q h;cases h;exact⟨h1,by simp only;omega⟩⟩
  |false=>exact .inl ⟨Y,Y,Y,h1,by omega,by rw[←hW,x5 (by simp)]⟩
def bMT{nm:Bool}{m:Msg}{W:Res (Bool×Co)}{n:Nat}{rest:List Tree}{d:Co}{en:Bool}{e p:Int}(h:RnI nm m W n rest d en e p)(hr:en=true∨rest=[]):uP W d en e p∧SOk n W:=by
 rcases h with ⟨rfl,rfl,rfl,h1,h2,h3⟩|⟨rfl,h1,h2⟩
 ·rcases hr with hr|rfl
  ·cases hr
  subst h3;exact⟨⟨Y,Y,Y,Y⟩,fun q h=>by cases h;exact⟨h1,by simp only;omega⟩⟩
 exact⟨h1,h2⟩
def aVH(sb:Nat)(m:Msg)(hv:Value)(nm:Bool)(t:Tree):Prop:=∀(K:Hl) (lv:Value) (us:List Cell),Ksl (cC 152) K lv us→RR K t us []→Ksl hdEl K hv m.hs→∀c,CInv c→c.vars.length+cnt t≤1000000→
 Sp x3 46 [ptr sb,lv] K [stq sb m hv nm c false 0 0] (Ret fun r K' L'=>r=.tuple #[]∧SOk (c.vars.length+cnt t) (Say.run nm m t c)∧L'=[sto sb m hv nm (Say.run nm m t c)])
def aVD(sb:Nat)(m:Msg)(hv:Value)(nm:Bool)(bs:Tree):Prop:=(∀pr∈Say.brL bs,yQ sb m hv nm pr.1∧aVH sb m hv nm pr.2∧cnt pr.2≤cnt bs)∧(∀b,Say.brO bs=some b→aVH sb m hv nm b∧cnt b≤cnt bs)∧(Say.brL bs).length≤cnt bs
def BI(nm:Bool)(m:Msg)(B:Res (Bool×Co))(n:Nat)(vl:Nat)(o:Option Tree)(rest:List (Tree×Tree))(dn:Bool)(d:Co)(en:Bool)(e p:Int):Prop:=
 (dn=false∧en=false∧e=0∧p=0∧CInv d∧d.vars.length=vl∧Say.brsE nm m o rest d=B)∨(dn=true∧uP B d en e p∧SOk n B)
def bCH{w:aP}(h:w=mQ∨w=jV∨w=qL∨w=fV∨w=gR∨w=iO∨w=tM∨w=txIf)(h1:¬w=mQ)(h2:¬w=jV)(h3:¬w=qL)(h4:¬w=fV)(h5:¬w=gR)(h6:¬w=iO)(h7:¬w=tM)(h8:¬w=txIf):False:=by
 rcases h with h|h|h|h|h|h|h|h
 ·exact h1 h
 ·exact h2 h
 ·exact h3 h
 ·exact h4 h
 ·exact h5 h
 ·exact h6 h
 ·exact h7 h
 exact h8 h
def bL2{nm:Bool}{m:Msg}{B:Res (Bool×Co)}{n vl k xl:Nat}{o:Option Tree}{l:List (Tree×Tree)}{dn:Bool}{d:Co}{en:Bool}{e p:Int}(h:BI nm m B n vl o (l.drop k) dn d en e p)(hk:(decide (k < xl)&&!dn)=false)(hl:xl≤k→l.drop k=[])(ho:dn=false→∀b,o=some b→False)(hn:vl≤n):uP B d en e p∧SOk n B:=by
 rcases h with ⟨rfl,rfl,rfl,rfl,h1,h2,h3⟩|⟨rfl,h1,h2⟩
 ·rw[Bool.not_false,Bool.and_true,decide_eq_false_iff_not]at hk;rw[hl aH]at h3;cases o with
  |some b=>exact(ho Y b Y).elim
  |none=>subst h3;exact⟨⟨Y,Y,Y,Y⟩,fun q h=>by cases h;exact⟨h1,by simp only;omega⟩⟩
 exact⟨h1,h2⟩
def aKT(sb:Nat)(m:Msg)(hv:Value)(nm:Bool)(t:Tree)(hw:wf t 3=true)(ih:∀y∈Say.elemsC t,wf y 2=true∧okT y=true∧sOk 600 y∧∀bs,y=.iff bs→aVD sb m hv nm bs):aVH sb m hv nm t:=by
 intro K lv us hl hr hh c hc hvn;obtain⟨hul,hxr⟩:=Say.rr_cmds hw hr;have huc:=bH4 hw;refine bN Tryz.func46 Y Tryz.ntmps46 Y Y fun F w=>?_;refine zz6 ?_;refine lK (fun(i:Nat) (K3:Hl) (x:Co×Bool×Int×Int)=>K.le K3∧i≤us.length∧RnI nm m (Say.run nm m t c) (c.vars.length+cnt t) ((Say.elemsC t).drop i) x.1 x.2.1 x.2.2.1 x.2.2.2) (fun i _ _=>[(0,ptr sb),(1,lv),(4,i64 i)]) (fun _ K3 _=>K3) (fun _ _ x=>[stq sb m hv nm x.1 x.2.1 x.2.2.1 x.2.2.2]) (fun i _ _=>us.length - i) 0 K (c,false,0,0) ⟨xAB _,x9 _,.inl ⟨Y,Y,Y,hc,by rw[xBG,aXI hw];exact xAA _,by rw[xBG,Say.run_E hw]⟩⟩ aS Y (fun _ h=>h) ?_;intro i K3 ⟨d,en,e,p⟩ ⟨leK,hi0,hI⟩;simp only at hI;refine rT fun nv vv cv av=>?_;have hl3:=hl.mono leK;have hh3:=hh.mono leK;refine aI ?_;refine dX (fun(_:Unit)=>True) (fun _=>[(0,ptr sb),(1,lv),(4,i64 i),(18,.bool (decide (i < us.length)&&!en))]) (fun _=>K3) (fun _=>[stq sb m hv nm d en e p]) ?_ ?_
 ·refine zz3 ?_;refine aA (bU (k:=cC 152) Y Tryz.underlying103 Y (.known hl3)) Y (zz2 ?_);refine bV 12 Y (fun g12=>?_) (fun g12=>?_)
  ·refine zz9 ?_;refine aA gC3 Y (zz2 ?_);refine cS (eO (m:=m) (c:=d)) ?_;exact a8 () trivial (.cons 0 Y (.cons 1 Y (.cons 4 Y (.cons 18 gFB .nil)))) Y (fun _ h=>h)
  refine zz7 ?_;refine cS (eO (m:=m) (c:=d)) ?_;exact a8 () trivial (.cons 0 Y (.cons 1 Y (.cons 4 Y (.cons 18 gFB .nil)))) Y (fun _ h=>h)
 intro _ _;refine d9 18 Y (fun h18=>?_) (fun h18=>?_)
 ·rw[Bool.and_eq_true,decide_eq_true_eq]at h18;obtain⟨hil,h18⟩:=h18;have hen:en=false:=(by revert h18;cases en <;> simp);subst hen;obtain⟨rfl,rfl,hd,hvb,hW⟩:e=0∧p=0∧CInv d∧d.vars.length+cntL ((Say.elemsC t).drop i)≤c.vars.length+cnt t∧Say.runE nm m ((Say.elemsC t).drop i) d=Say.run nm m t c:=(by rcases hI with ⟨_,h1,h2,h3,h4,h5⟩|⟨h,_⟩;exact⟨h1,h2,h3,h4,h5⟩;cases h);clear hI;obtain⟨x,hx⟩:∃x,us[i]?=some x:=⟨us[i]'hil,x4 hil⟩;obtain⟨y,hy⟩:∃y,(Say.elemsC t)[i]?=some y:=⟨(Say.elemsC t)[i]'(by omega),x4 aH⟩;have hym:=x8 hy;obtain⟨hwy,hoy,hsy,hbr⟩:=ih y hym;have hcy:=aOF hy;have hry:=(hxr i x y hx hy).mono leK;obtain⟨b,w1,av,tag,tv,bv,pp,rfl,hk,hsh⟩:=Say.rr_cblock hwy hry;refine zz2 ?_;refine aNF (fun(K4:Hl) (x:Co×Bool×Int×Int)=>K3.le K4∧uP (Say.cmd nm m y d) x.1 x.2.1 x.2.2.1 x.2.2.2∧SOk (d.vars.length+cnt y) (Say.cmd nm m y d)) (fun _ _=>[(0,ptr sb),(1,lv),(4,i64 i)]) (fun K4 _=>K4) (fun _ x=>[stq sb m hv nm x.1 x.2.1 x.2.2.1 x.2.2.2]) ?_ ?_
  ·refine zz5 ?_;refine aA (aX (k:=cC 152) (xs:=us) (j:=i) yI Y (.known hl3) Y Y hil) Y ?_;refine aA (cE (o:=0) (k:=cC 152) (xs:=us) (u:=pcl b) ts152 Y (.known hl3) hx Y) Y (zz18 ?_);refine aY 29 Y (fun h29=>?_) (fun h29=>?_)
   ·have ht:=Say.csh_plain hsh (.inl h29) hoy;rw[x7 (show w1=mQ from h29)]at ht;subst ht;refine rT fun nv vv cv av2=>?_;refine zz4 ?_;refine uAk ?_;rintro _ K _ ⟨rfl,rfl⟩ -;refine zz3 ?_
    first
     |exact gA0
     |exact gAS
     |exact gA1
     |exact gAV
     |exact gAE
     |exact eV _ (d4,en,e,p) ⟨leB,hfin.1,hfin.2⟩ aS Y (fun _ h=>h)
   refine zz6 ?_;refine aY 34 Y (fun h34=>?_) (fun h34=>?_)
   ·have ht:=Say.csh_plain hsh (.inr h34) hoy;rw[x5 (show ¬w1=mQ from h29)]at ht;subst ht;refine rT fun nv vv cv av2=>?_;refine zz4 ?_;refine uAk ?_;rintro _ K _ ⟨rfl,rfl⟩ -;refine zz3 ?_
    first
     |exact gA0
     |exact gAS
     |exact gA1
     |exact gAV
     |exact gAE
     |exact eV _ (d4,en,e,p) ⟨leB,hfin.1,hfin.2⟩ aS Y (fun _ h=>h)
   refine zz6 ?_;refine aY 39 Y (fun h39=>?_) (fun h39=>?_)
   ·obtain⟨aa,rfl,hka⟩:=Say.csh_act (k:=1) hsh h39 (by decide) hoy;refine zz6 ?_;refine bA Y Y (u3 sb m hv nm d 1 [] pp hd (by decide) (by simp) _) bS Y ?_;rintro _ K _ ⟨rfl,rfl,rfl⟩ -;refine zz3 ?_
    first
     |exact gA0
     |exact gAS
     |exact gA1
     |exact gAV
     |exact gAE
     |exact eV _ (d4,en,e,p) ⟨leB,hfin.1,hfin.2⟩ aS Y (fun _ h=>h)
   refine zz6 ?_;refine aY 47 Y (fun h47=>?_) (fun h47=>?_)
   ·obtain⟨aa,rfl,hka⟩:=Say.csh_act (k:=2) hsh h47 (by decide) hoy;have hka:Ksl (a7 9) K3 av [aa]:=hka;have hal:aa.length≤600:=hsy;refine cZ (anc:=[0,0,2,6,14,30,62,0,128,384,896,2047]) (ord:=[0,1,2,3,4,5,6,7,8,9,10,11]) [11] [11] mixed gC5 (cQ _) (zz5 ?_);refine aJ Y Y (.none Y) Y Y (aX (k:=a7 9) (xs:=[aa]) (j:=0) cB Y (.known hka) Y Y (by simp)) Y ?_;refine aJ Y Y (.none Y) Y Y (cE (o:=0) (k:=a7 9) (xs:=[aa]) (u:=aa) ts9 Y (.known hka) Y Y) Y (zz4 ?_);refine eQ Y (.none Y) Y Y Y (u3 sb m hv nm d 2 aa pp hd (by decide) aH _) bS Y ?_;rintro _ K _ ⟨rfl,rfl,rfl⟩ -;refine zz3 ?_
    first
     |exact gA0
     |exact gAS
     |exact gA1
     |exact gAV
     |exact gAE
     |exact eV _ (d4,en,e,p) ⟨leB,hfin.1,hfin.2⟩ aS Y (fun _ h=>h)
   refine zz6 ?_;refine aY 61 Y (fun h61=>?_) (fun h61=>?_)
   ·obtain⟨aa,rfl,hka⟩:=Say.csh_act (k:=3) hsh h61 (by decide) hoy;have hka:Ksl (a7 9) K3 av [aa]:=hka;have hal:aa.length≤600:=hsy;refine cZ (anc:=[0,0,2,6,14,30,62,0,128,384,896,2047]) (ord:=[0,1,2,3,4,5,6,7,8,9,10,11]) [11] [11] mixed gC5 (cQ _) (zz5 ?_);refine aJ Y Y (.none Y) Y Y (aX (k:=a7 9) (xs:=[aa]) (j:=0) cB Y (.known hka) Y Y (by simp)) Y ?_;refine aJ Y Y (.none Y) Y Y (cE (o:=0) (k:=a7 9) (xs:=[aa]) (u:=aa) ts9 Y (.known hka) Y Y) Y (zz4 ?_);refine eQ Y (.none Y) Y Y Y (u3 sb m hv nm d 3 aa pp hd (by decide) aH _) bS Y ?_;rintro _ K _ ⟨rfl,rfl,rfl⟩ -;refine zz3 ?_
    first
     |exact gA0
     |exact gAS
     |exact gA1
     |exact gAV
     |exact gAE
     |exact eV _ (d4,en,e,p) ⟨leB,hfin.1,hfin.2⟩ aS Y (fun _ h=>h)
   refine zz6 ?_;refine aY 75 Y (fun h75=>?_) (fun h75=>?_)
   ·obtain⟨aa,rfl,hka⟩:=Say.csh_act (k:=4) hsh h75 (by decide) hoy;have hka:Ksl (a7 9) K3 av [aa]:=hka;have hal:aa.length≤600:=hsy;refine cZ (anc:=[0,0,2,6,14,30,62,0,128,384,896,2047]) (ord:=[0,1,2,3,4,5,6,7,8,9,10,11]) [11] [11] mixed gC5 (cQ _) (zz5 ?_);refine aJ Y Y (.none Y) Y Y (aX (k:=a7 9) (xs:=[aa]) (j:=0) cB Y (.known hka) Y Y (by simp)) Y ?_;refine aJ Y Y (.none Y) Y Y (cE (o:=0) (k:=a7 9) (xs:=[aa]) (u:=aa) ts9 Y (.known hka) Y Y) Y (zz4 ?_);refine eQ Y (.none Y) Y Y Y (u3 sb m hv nm d 4 aa pp hd (by decide) aH _) bS Y ?_;rintro _ K _ ⟨rfl,rfl,rfl⟩ -;refine zz3 ?_
    first
     |exact gA0
     |exact gAS
     |exact gA1
     |exact gAV
     |exact gAE
     |exact eV _ (d4,en,e,p) ⟨leB,hfin.1,hfin.2⟩ aS Y (fun _ h=>h)
   refine zz6 ?_;refine aY 89 Y (fun h89=>?_) (fun h89=>?_)
   ·obtain⟨na,va,rfl,hka⟩:=Say.csh_set hsh h89;have hal:na.length≤600∧va.length≤600:=hsy;refine cZ (anc:=[0,0,2,6,14,30,62,0,128,384,896,1920,3968,0,8192,24576,57344,131071]) (ord:=[0,1,2,3,4,5,6,7,8,9,10,11,12,13,14,15,16,17]) [17] [17] mixed gC5 (cQ _) (zz5 ?_);refine aJ Y Y (.none Y) Y Y (aX (k:=a7 9) (xs:=[na,va]) (j:=0) cB Y (.known hka) Y Y (by simp)) Y ?_;refine aJ Y Y (.none Y) Y Y (cE (o:=0) (k:=a7 9) (xs:=[na,va]) (u:=na) ts9 Y (.known hka) Y Y) Y (zz4 ?_);refine aJ Y Y (.none Y) Y Y (aX (k:=a7 9) (xs:=[na,va]) (j:=1) cB Y (.known hka) Y Y (by simp)) Y ?_;refine aJ Y Y (.none Y) Y Y (cE (o:=0) (k:=a7 9) (xs:=[na,va]) (u:=va) ts9 Y (.known hka) Y Y) Y (zz4 ?_);refine eQ Y (.none Y) Y Y Y (aKU sb m hv nm d na va tag hd aH _) bS Y ?_;rintro _ K _ ⟨rfl,rfl,rfl⟩ -;refine zz3 ?_
    first
     |exact gA0
     |exact gAS
     |exact gA1
     |exact gAV
     |exact gAE
     |exact eV _ (d4,en,e,p) ⟨leB,hfin.1,hfin.2⟩ aS Y (fun _ h=>h)
   refine zz6 ?_;refine aY 109 Y (fun h109=>?_) (fun h109=>?_)
   ·obtain⟨bs,xs,ys,rfl,hrb,hkt,hkb⟩:=Say.csh_if hsh h109;have hw4:wf bs 4=true:=by simpa[wf]using hwy
    obtain⟨hb1,hb2,hb3⟩:=Say.rr_brs hw4 hrb;obtain⟨hi1,hi2,hi3⟩:=hbr bs rfl;have hB:=Say.brs_E (nm:=nm) (m:=m) (c:=d) hw4;have hcb:cnt (.iff bs)=cnt bs+1:=rfl;refine zz12 ?_;refine nZ (fun(k:Nat) (K4:Hl) (dn:Bool) (x:Co×Bool×Int×Int)=>K3.le K4∧k≤xs.length∧BI nm m (Say.brs nm m bs d) (d.vars.length+cnt (.iff bs)) d.vars.length (Say.brO bs) ((Say.brL bs).drop k) dn x.1 x.2.1 x.2.2.1 x.2.2.2) (fun k _ dn _=>[(0,ptr sb),(1,lv),(4,i64 i),(5,ptr b),(6,.bool dn),(7,i64 k)]) (fun _ K4 _ _=>K4) (fun _ _ _ x=>[stq sb m hv nm x.1 x.2.1 x.2.2.1 x.2.2.2]) (fun k _ _ _=>xs.length - k) 0 K3 false (d,false,0,0) ⟨xAB _,x9 _,.inl ⟨Y,Y,Y,Y,hd,Y,by rw[xBG];exact hB.symm⟩⟩ aS Y (fun _ h=>h) ?_;intro k K4 dn ⟨d4,en,e,p⟩ ⟨leB,hk0,hBI⟩;simp only at hBI;have hk4:=leB _ _ hk;have hkt4:=hkt.mono leB;have hkb4:=hkb.mono leB;refine aI ?_;refine dX (fun(_:Unit)=>True) (fun _=>[(0,ptr sb),(1,lv),(4,i64 i),(5,ptr b),(6,.bool dn),(7,i64 k),(121,.bool (decide (k < xs.length)&&!dn))]) (fun _=>K4) (fun _=>[stq sb m hv nm d4 en e p]) ?_ ?_
    ·refine zz6 ?_;refine aA (bU (k:=cC 159) Y Tryz.underlying153 Y (.known hkt4)) Y (zz2 ?_);refine bV 118 Y (fun g118=>?_) (fun g118=>?_)
     ·refine zz3 ?_;refine aA gC3 Y (zz2 ?_);exact a8 () trivial (.cons 0 Y (.cons 1 Y (.cons 4 Y (.cons 5 Y (.cons 6 Y (.cons 7 Y (.cons 121 gFA .nil))))))) Y (fun _ h=>h)
     refine zz4 ?_;exact a8 () trivial (.cons 0 Y (.cons 1 Y (.cons 4 Y (.cons 5 Y (.cons 6 Y (.cons 7 Y (.cons 121 gFA .nil))))))) Y (fun _ h=>h)
    intro _ _;refine d9 121 Y (fun h121=>?_) (fun h121=>?_)
    ·rw[Bool.and_eq_true,decide_eq_true_eq]at h121;obtain⟨hkl,h121⟩:=h121;have hdn:dn=false:=(by revert h121;cases dn <;> simp);subst hdn;obtain⟨rfl,rfl,rfl,hc4,hvl,hB4⟩:en=false∧e=0∧p=0∧CInv d4∧d4.vars.length=d.vars.length∧Say.brsE nm m (Say.brO bs) ((Say.brL bs).drop k) d4=Say.brs nm m bs d:=(by rcases hBI with ⟨_,h1⟩|⟨h,_⟩;exact h1;cases h);clear hBI;obtain⟨tx,htx⟩:∃x,xs[k]?=some x:=⟨xs[k]'hkl,x4 hkl⟩;obtain⟨pr,hpr⟩:∃pr,(Say.brL bs)[k]?=some pr:=⟨(Say.brL bs)[k]'(by omega),x4 aH⟩;obtain⟨hrt,yb,zs,hyb,hrz,hkz⟩:=hb2 k tx pr htx hpr;obtain⟨hH,hRn,hcn⟩:=hi1 pr (x8 hpr);rw[w8 hpr]at hB4;simp only[Say.brsE]at hB4;refine zz12 ?_;refine aA (aX (k:=cC 159) (xs:=xs) (j:=k) iS Y (.known hkt4) Y Y hkl) Y ?_;refine aA (cE (o:=0) (k:=cC 159) (xs:=xs) (u:=tx) ts159 Y (.known hkt4) htx Y) Y ?_;refine bA Y Y (hH K4 tx (hrt.mono leB) (hh3.mono leB) d4 hc4) bS Y ?_;rintro _ K5 _ ⟨rfl,hc5,hv5,rfl⟩ le5;have hv5:=xAE List.length hv5;have hkb5:=hkb4.mono le5;have hk5:=le5 _ _ hk4;refine zz8 ?_;refine d9 133 Y (fun h133=>?_) (fun h133=>?_)
     ·rw[x7 h133]at hB4;refine zz7 ?_;refine aA (aX (k:=cC 103) (xs:=ys) (j:=k) rH Y (.known hkb5) Y Y (xAG.1 hyb).1) Y ?_;refine aA (cE (o:=0) (k:=cC 103) (xs:=ys) (u:=yb) ts103 Y (.known hkb5) hyb Y) Y ?_;refine bA Y Y (hRn K5 yb.1 zs (hkz.mono (x6 leB le5)) (hrz.mono (x6 leB le5)) (hh3.mono (x6 leB le5)) _ hc5 aH) bS Y ?_;rintro _ K6 _ ⟨rfl,hsk,rfl⟩ le6;refine zz8 ?_
      first
       |exact gBW
       |exact fH (k+1) _ (Say.holds nm m pr.1 d4).1 ((Say.holds nm m pr.1 d4).2,false,0,0) ⟨x6 leB le5,by omega,.inl ⟨h133,rfl,rfl,rfl,hc5,hv5.trans hvl,hB4⟩⟩ aH aS Y (fun _ h=>h)
     rw[x5 (by rw[h133];simp)]at hB4;refine zz8 ?_
     first
      |exact gBW
      |exact fH (k+1) _ (Say.holds nm m pr.1 d4).1 ((Say.holds nm m pr.1 d4).2,false,0,0) ⟨x6 leB le5,by omega,.inl ⟨h133,rfl,rfl,rfl,hc5,hv5.trans hvl,hB4⟩⟩ aH aS Y (fun _ h=>h)
    refine zz5 ?_;refine dX (fun(_:Unit)=>True) (fun _=>[(0,ptr sb),(1,lv),(4,i64 i),(5,ptr b),(157,.bool (!dn&&decide (xs.length < ys.length)))]) (fun _=>K4) (fun _=>[stq sb m hv nm d4 en e p]) ?_ ?_
    ·refine cZ (anc:=[0,1,3,7,15,31,63,127,7,263,775,1799,3847,8191,16383]) (ord:=[0,1,2,3,4,5,6,7,8,9,10,11,12,13,14]) [] [] mixed gC5 (cQ _) (zz1 ?_);refine aJ Y Y (.none Y) Y Y gC3 Y (zz1 ?_);refine qY 145 Y (fun g145=>?_) (fun g145=>?_)
     ·refine zz4 ?_;refine aJ Y Y (.on Y Y Y) Y Y (bU (k:=cC 103) Y Tryz.underlying154 Y (.known hkb4)) Y (zz4 ?_);refine aJ Y Y (.on Y Y Y) Y Y (bU (k:=cC 159) Y Tryz.underlying153 Y (.known hkt4)) Y (zz3 ?_);exact a8 () trivial (.cons 0 Y (.cons 1 Y (.cons 4 Y (.cons 5 Y (.cons 157 gFF .nil))))) Y (fun _ h=>h)
     refine zz13 ?_;exact a8 () trivial (.cons 0 Y (.cons 1 Y (.cons 4 Y (.cons 5 Y (.cons 157 gFF .nil))))) Y (fun _ h=>h)
    intro _ _;refine d9 157 Y (fun h157=>?_) (fun h157=>?_)
    ·rw[Bool.and_eq_true,decide_eq_true_eq]at h157;obtain⟨h157,hyl⟩:=h157;have hdn:dn=false:=(by revert h157;cases dn <;> simp);subst hdn;obtain⟨rfl,rfl,rfl,hc4,hvl,hB4⟩:en=false∧e=0∧p=0∧CInv d4∧d4.vars.length=d.vars.length∧Say.brsE nm m (Say.brO bs) ((Say.brL bs).drop k) d4=Say.brs nm m bs d:=(by rcases hBI with ⟨_,h1⟩|⟨h,_⟩;exact h1;cases h);rw[Bool.not_false,Bool.and_true,decide_eq_false_iff_not]at h121;rw[xAU aH]at hB4;obtain⟨ob,hob⟩:∃ob,Say.brO bs=some ob:=(by cases ho:Say.brO bs with|some ob=>exact⟨ob,Y⟩|none=>rw[ho]at hb3;exact absurd hb3 aH);rw[hob]at hb3 hB4;obtain⟨hyn,yb,zs,hyb,hrz,hkz⟩:=hb3;obtain⟨hRn,hcn⟩:=hi2 ob hob;have hB4:Say.run nm m ob d4=Say.brs nm m bs d:=hB4;refine cZ (anc:=[0,0,2,6,14,0,32,96,224,480,1022,2046,4095]) (ord:=[0,1,2,3,4,5,6,7,8,9,10,11,12]) [12] [12] mixed gC5 (cQ _) (zz9 ?_);refine aJ Y Y (.none Y) Y Y (bU (k:=cC 159) Y Tryz.underlying153 Y (.known hkt4)) Y ?_;refine aJ Y Y (.none Y) Y Y (aX (k:=cC 103) (xs:=ys) (j:=xs.length) rH Y (.known hkb4) Y Y aH) Y ?_;refine aJ Y Y (.none Y) Y Y (cE (o:=0) (k:=cC 103) (xs:=ys) (u:=yb) ts103 Y (.known hkb4) hyb Y) Y ?_;refine eQ Y (.none Y) Y Y Y (hRn K4 yb.1 zs (hkz.mono leB) (hrz.mono leB) (hh3.mono leB) _ hc4 aH) bS Y ?_;rintro _ K6 _ ⟨rfl,hsk,rfl⟩ le6;refine zz3 ?_
     first
      |exact gA0
      |exact gAS
      |exact gA1
      |exact gAV
      |exact gAE
      |exact eV _ (d4,en,e,p) ⟨leB,hfin.1,hfin.2⟩ aS Y (fun _ h=>h)
    have hfin:=bL2 hBI h121 (by rw[hb1];exact fun h=>xAU h) (by intro hdn ob hob;rw[hob]at hb3;rw[hdn,Bool.not_false,Bool.true_and,decide_eq_false_iff_not]at h157;exact h157 aH) aH;refine zz3 ?_
    first
     |exact gA0
     |exact gAS
     |exact gA1
     |exact gAV
     |exact gAE
     |exact eV _ (d4,en,e,p) ⟨leB,hfin.1,hfin.2⟩ aS Y (fun _ h=>h)
   exfalso
   exact bCH (Say.csh_cases hsh) h29 h34 h39 h47 h61 h75 h89 h109
  intro K4 x ⟨leM,hS,hSk⟩;refine zz5 ?_;exact eF (i+1) K4 x ⟨x6 leK leM,by omega,bJB hy hvb hW hS hSk⟩ aH aS Y (fun _ h=>h)
 have hend:=bMT hI (by cases en with|true=>exact .inl Y|false=>right;rw[Bool.not_false,Bool.and_true,decide_eq_false_iff_not]at h18;exact xAU aH);refine zz4 ?_;refine cS (bM8 hend.1) ?_;refine dK Y leK ?_;exact⟨_,Y,Y,hend.2,Y⟩
end Go.Proofs
end
section
namespace Go.Proofs
open Go Go.SL Go.Syn Go.Mach
open Go.Say (Co)
open Go.Cmp (cnt)
def bBM(sb:Nat)(m:Msg)(hv:Value)(nm:Bool)(y:Tree):Prop:=wf y 2=true∧okT y=true∧sOk 600 y∧∀bs,y=.iff bs→aVD sb m hv nm bs
def bGH(sb:Nat)(m:Msg)(hv:Value)(nm:Bool)(hm:MsgOk m):∀t:Tree,okT t=true→sOk 600 t→cnt t≤100000→(wf t 3=true→aVH sb m hv nm t∧∀y∈Say.elemsC t,bBM sb m hv nm y)∧(wf t 2=true→∀bs,t=.iff bs→aVD sb m hv nm bs)∧(wf t 4=true→aVD sb m hv nm t):=by
 intro t;induction t with
 |cnil=>
  intro ho hs hc;exact⟨fun hw=>⟨aKT sb m hv nm _ hw (fun y h=>(by simp[Say.elemsC]at h)),fun y h=>(by simp[Say.elemsC]at h)⟩,fun hw=>gDV,fun hw=>gDV⟩
 |ccons x l ih1 ih2=>
  intro ho hs hc;refine⟨fun hw=>?_,fun hw=>gDV,fun hw=>gDV⟩
  have hw0:=hw;simp[wf]at hw;simp[okT]at ho;simp only[cnt]at hc;have key:∀y∈Say.elemsC (.ccons x l),bBM sb m hv nm y:=by
   intro y hy;rcases List.mem_cons.1 hy with rfl|hy
   ·exact⟨hw.1,ho.1,hs.1,(ih1 ho.1 hs.1 aH).2.1 hw.1⟩
   exact((ih2 ho.2 hs.2 aH).1 hw.2).2 y hy
  exact⟨aKT sb m hv nm _ hw0 key,key⟩
 |iff bs ih=>
  intro ho hs hc;refine⟨fun hw=>gDV,fun hw b2 e=>?_,fun hw=>gDV⟩
  cases e;exact(ih ho hs gFO).2.2 gGG
 |bnil=>
  intro ho hs hc;refine⟨fun hw=>gDV,fun hw=>gDV,fun hw=>⟨fun pr h=>(by simp[Say.brL]at h),fun b h=>(by cases h),(by simp[Say.brL])⟩⟩
 |belse b l ih1 ih2=>
  intro ho hs hc;refine⟨fun hw=>gDV,fun hw=>gDV,fun hw=>⟨fun pr h=>(by simp[Say.brL]at h),fun b2 h=>?_,(by simp[Say.brL])⟩⟩
  cases h
  simp[wf]at hw;simp[okT]at ho;simp only[cnt]at hc ⊢;exact⟨((ih1 ho.1 hs.1 aH).1 hw.1).1,by omega⟩
 |bcons t b l ih1 ih2 ih3=>
  intro ho hs hc;refine⟨fun hw=>gDV,fun hw=>gDV,fun hw=>?_⟩
  simp[wf]at hw;simp[okT]at ho;simp only[cnt]at hc;obtain⟨h1,h2,h3⟩:=(ih3 ho.2.2 hs.2.2 aH).2.2 hw.2.2;refine⟨fun pr hp=>?_,fun b2 hb=>?_,by simp only[Say.brL,List.length_cons,cnt];omega⟩
  ·rcases List.mem_cons.1 hp with rfl|hp
   ·exact⟨(aUC sb m hv nm hm t ho.1 hs.1 aH).1 hw.1,((ih2 ho.2.1 hs.2.1 aH).1 hw.2.1).1,by simp only[cnt];omega⟩
   obtain⟨g1,g2,g3⟩:=h1 pr hp;exact⟨g1,g2,by simp only[cnt];omega⟩
  obtain⟨g1,g2⟩:=h2 b2 hb;exact⟨g1,by simp only[cnt];omega⟩
 |_=>intro ho hs hc;exact⟨fun hw=>gDV,fun hw b2 e=>(by cases e),fun hw=>gDV⟩
section
variable{nm:Bool}{m:Msg}
def bHU:∀t:Tree,(∀c,Bad (Say.run nm m t c))∧(∀c,Bad (Say.cmd nm m t c))∧∀c,Bad (Say.brs nm m t c):=by
 intro t;have ok:∀q:Bool×Co,Bad (.ok q):=fun q y h=>by cases h
 induction t with
 |ccons x l ih1 ih2=>
  refine⟨fun c y hy=>?_,fun c=>by simp only[Say.cmd];exact ok _,fun c=>by simp only[Say.brs];exact ok _⟩
  simp only[Say.run]at hy;cases hc:Say.cmd nm m x c with
  |error e2=>rw[hc]at hy;cases hy;exact ih1.2.1 c _ hc
  |ok r=>
   rw[hc]at hy;simp only at hy;split at hy
   ·cases hy
   exact ih2.1 _ y hy
 |act k a p=>exact⟨fun c=>by simp only[Say.run];exact ok _,fun c=>aEJ,fun c=>by simp only[Say.brs];exact ok _⟩
 |plain op=>exact⟨fun c=>by simp only[Say.run];exact ok _,fun c=>by simp only[Say.cmd];split <;> exact ok _,fun c=>by simp only[Say.brs];exact ok _⟩
 |iff bs ih=>exact⟨fun c=>by simp only[Say.run];exact ok _,fun c=>by simp only[Say.cmd];exact ih.2.2 c,fun c=>by simp only[Say.brs];exact ok _⟩
 |bcons t b l ih1 ih2 ih3=>exact⟨fun c=>by simp only[Say.run];exact ok _,fun c=>by simp only[Say.cmd];exact ok _,fun c=>by simp only[Say.brs];split;exact ih2.1 _;exact ih3.2.2 _⟩
 |belse b l ih1 ih2=>exact⟨fun c=>by simp only[Say.run];exact ok _,fun c=>by simp only[Say.cmd];exact ok _,fun c=>by simp only[Say.brs];exact ih1.1 _⟩
 |_=>exact⟨fun c=>(by simp only[Say.run];exact ok _),fun c=>(by simp only[Say.cmd];exact ok _),fun c=>(by simp only[Say.brs];exact ok _)⟩
end
end Go.Proofs
end
section
attribute [local irreducible] Go.SL.T Go.SL.OL Go.SL.D Go.SL.DL Go.SL.Ev Go.SL.Ef Go.SL.EfS
namespace Go.Proofs
open Go Go.SL Go.Syn Go.Mach
open Go.Say (Co)
open Go.Cmp (cnt)
attribute [local semireducible] Go.SL.T Go.SL.OL Go.SL.D Go.SL.DL Go.SL.Ev Go.SL.Ef Go.SL.EfS in
def bO0{E:Env}{c0:Code}{fr:Fr}{K:Hl}{L:List Asn}{Q:Post}{sb:Nat}{m:Msg}{hv:Value}{nm:Bool}{r:Res (Bool×Co)}(h:∀d en e p,uP r d en e p→T E c0 fr K (stq sb m hv nm d en e p::L) Q):T E c0 fr K (sto sb m hv nm r::L) Q:=by
 intro a w f i;cases r with
 |ok q=>exact h q.2 q.1 0 0 ⟨Y,Y,Y,Y⟩ a w f i
 |error y=>
  obtain⟨x,⟨h1,h2,⟨c,hc⟩,hs2,hd,rfl⟩,rr⟩:=i.rep;exact h c true y.1 y.2 ⟨Y,Y,Y⟩ a w f ⟨i.os,i.tape,i.output,i.size,_,⟨h1,h2,hc,hs2,hd,Y⟩,rr⟩
def aND(q:List aP×Tree)(m:Msg)(hv:Value)(b:Nat)(K:Hl)(hq:tO K b q)(hw:wf q.2 3=true)(ho:okT q.2=true)(hs:sOk 600 q.2)(hn:q.1.length≤10000)(hc:cnt q.2≤10000)(hh:Ksl hdEl K hv m.hs)(hm:MsgOk m):Sp x3 24 [ptr b,.agg #[str m.from_,str m.to_,i64 m.size,hv]] K [] (Ret fun v K' L'=>∃av,(∃x n c,av=.slice x n c)∧v=ResV (Say.run (decide (eB∈q.1)) m q.2 Say.start) av∧L'=[sl false dP av (Say.out (Say.run (decide (eB∈q.1)) m q.2 Say.start)).1]):=by
 obtain⟨nv,bv,us,hb,hnv,hus,hrr⟩:=hq;obtain⟨ha,hn2,hcp,rfl⟩:=hh.isSlice;refine bN Tryz.func24 Y Tryz.ntmps24 Y Y fun F w=>?_;refine zz3 ?_;rintro _ K _ ⟨b3,rfl,rfl,rfl⟩ -;refine zz1 ?_;rintro _ K _ ⟨b4,rfl,rfl,rfl⟩ -;refine zz8 ?_;refine bA Y Y (q8 nv eB q.1 _ [] (.known hnv) aH) .nil Y ?_;rintro _ K _ ⟨rfl,rfl,rfl⟩ -;refine zz7 ?_;refine aA (dG bPI tb91f dF) Y (zz1 ?_);rintro _ K _ ⟨b15,rfl,rfl,rfl⟩ -;refine zz4 ?_;refine jJ (aKX (m:=m) (hv:=.slice ha hn2 hcp)) (zz6 ?_);refine bA Y Y ((bGH b15 m _ (decide (eB∈q.1)) hm q.2 ho hs aH).1 hw |>.1 _ bv us hus hrr hh Say.start aKV (by show 0+_≤_;omega)) bS Y ?_;rintro _ K _ ⟨rfl,hok,rfl⟩ hleR;refine zz3 ?_;refine bO0 fun d en e p hS=>?_;refine zz2 ?_;refine bA Y Y (sB b15 m _ (decide (eB∈q.1)) _ ((bHU q.2).1 _) (fun x hx=>(hok x hx).1) d en e p hS _) bS Y ?_;rintro _ K _ ⟨av,⟨ax,nx,cx,rfl⟩,rfl,rfl,rfl⟩ -;refine cD (cX ta54_3 Y Y Y bR gC1 (.cons (.cons (.cons .nil))) gC8) ?_;rintro _ K _ ⟨rfl,rfl⟩ -;refine zz3 ?_;refine pY Y Y ta54_3 aL Y Y hleR (aM bW bF) ?_;exact⟨_,Y,_,⟨_,_,_,Y⟩,Y,Y⟩
end Go.Proofs
end
section
namespace Go.Proofs
open Go Go.SL Go.Syn Go.Mach
open Go.Say (Co ExI XInv XEnd XAt)
open Go.Cmp (cnt cT RIs InsV)
def bFF{r:Res (Bool×Co)}{av:Value}{n:Nat}:ResV r av=OutV ⟨(Say.out r).1,n,(Say.out r).2⟩ av:=by cases r <;> rfl
end Go.Proofs
end
