/-
  What the proof stands on, part 61: the logic of walks, the walks through the functions, the plain laws. Conditions: as each theorem says. (Merged and shortened by a program.)
-/
import Derived.Test.YthopmddkpdehiabGreatDoorK20
import Derived.Test.YthopmddkpdehiabGreatDoorK24
import Derived.Test.YthopmddkpdehiabGreatDoorK30
import Derived.Test.YthopmddkpdehiabGreatDoorK57
set_option linter.unusedVariables false
set_option linter.unusedSimpArgs false
set_option linter.defProp false
set_option maxRecDepth 4000
set_option maxHeartbeats 1000000
section
attribute [local irreducible] Go.SL.T Go.SL.OL Go.SL.D Go.SL.DL Go.SL.Ev Go.SL.Ef Go.SL.EfS
namespace Go.Proofs
open Go Go.SL Go.Syn Go.Mach
def aJF{s:aP}{i:Nat}{c:UInt8}(hc:s[i]?=some c):(s.take (i+1)).drop i=[c]:=by
 obtain⟨hl,e⟩:=xAG.1 hc;rw[xAX,hc,List.drop_append_of_le_length gEW,xAU gEW];rfl
def aA4{c:UInt8}(h:c.toNat=34∨c.toNat=92):jE c=[92,c]:=by
 rcases h with h|h
 ·have:c=34:=xAO.1 h;subst this;rfl
 have:c=92:=xAO.1 h;subst this;rfl
def aA3{c:UInt8}(h1:¬c.toNat=34)(h2:¬c.toNat=92):jE c=[c]:=by
 unfold jE;rw[x5 (fun e=>h2 gGB),x5 (fun e=>h1 gGB)]
def zF(s:aP)(hs:s.length≤1000000)(K:Hl):Sp x3 74 [str s] K [] (Val (str (iE s)) K):=by
  refine bN Tryz.func74 Y Tryz.ntmps74 Y Y fun F w=>?_;refine zz17 ?_;refine eH (fun(i:Nat)=>i≤s.length) (fun i=>[(0,str s),(3,str ([34]++(s.take i).flatMap jE)),(4,i64 i)]) (fun _=>K) (fun _=>[]) (fun i=>s.length - i) 0 (x9 _) aS Y (fun _ h=>h) ?_;intro i hi;refine zz9 ?_;refine aY 8 Y (fun h8=>?_) (fun h8=>?_)
  · have hilt:i < s.length:=by omega
    obtain⟨c,hc⟩:∃c,s[i]?=some c:=⟨s[i]'hilt,x4 hilt⟩;have hl0:=aGW (s.take i);rw[xA4,Nat.min_eq_left aH]at hl0;have hc1:(s.take (i+1)).drop i=[c]:=aJF hc;have hcl:=xAE List.length hc1;rw[xA6]at hcl;refine zz12 ?_;refine bV 15 Y (fun g15=>?_) (fun g15=>?_)
    · refine zz10 ?_;refine aA (eJ Y Y gC2) Y (zz9 ?_);refine aA (fW (m:=i) (n:=i+1) Tryz.underlying9 Y Y Y Y aH aH aH) Y ?_;refine aA (eJ Y Y gC2) Y (zz9 ?_)
      first
        | (have hq : jE c = [92, c] := aA4 aH
           exact cM (i+1) aH aH (.cons 0 Y (.cons 3 gEF aS)) Y (fun _ h=>h))
        | (have hq : jE c = [c] := aA3 aH aH
           exact cM (i+1) aH aH (.cons 0 Y (.cons 3 gET aS)) Y (fun _ h=>h))
    refine zz11 ?_;refine aY 20 Y (fun h20=>?_) (fun h20=>?_)
    · refine zz2 ?_;refine aA (eJ Y Y gC2) Y (zz9 ?_);refine aA (fW (m:=i) (n:=i+1) Tryz.underlying9 Y Y Y Y aH aH aH) Y ?_;refine aA (eJ Y Y gC2) Y (zz9 ?_)
      first
        | (have hq : jE c = [92, c] := aA4 aH
           exact cM (i+1) aH aH (.cons 0 Y (.cons 3 gEF aS)) Y (fun _ h=>h))
        | (have hq : jE c = [c] := aA3 aH aH
           exact cM (i+1) aH aH (.cons 0 Y (.cons 3 gET aS)) Y (fun _ h=>h))
    refine zz8 ?_;refine aA (fW (m:=i) (n:=i+1) Tryz.underlying9 Y Y Y Y aH aH aH) Y ?_;refine aA (eJ Y Y gC2) Y (zz9 ?_)
    first
      | (have hq : jE c = [92, c] := aA4 aH
         exact cM (i+1) aH aH (.cons 0 Y (.cons 3 gEF aS)) Y (fun _ h=>h))
      | (have hq : jE c = [c] := aA3 aH aH
         exact cM (i+1) aH aH (.cons 0 Y (.cons 3 gET aS)) Y (fun _ h=>h))
  have hfin:s.take i=s:=xAI aH;have hl0:=aGW s;rw[hfin];refine zz8 ?_;refine aA (eJ Y Y gC2) Y (zz4 ?_);refine uAf ?_;refine zz1 ?_;exact⟨Y,Y,Y⟩
def aO8{l:List aP}(h:∀x∈l,x.length≤600):(pC [44,32] (l.map iE)).length≤1204*l.length:=by
 have h1:=aDM (l:=l.map iE);have h2:=vZ h;rw[xAS]at h1;omega
def aCK(l:List aP)(v:Value)(hl:∀x∈l,x.length≤600)(hn:l.length≤100000)(K:Hl)(hk:Ksl (a7 9) K v l):Sp x3 42 [v] K [] (Val (str (pQ l)) K):=by
  refine bN Tryz.func42 Y Tryz.ntmps42 Y Y fun F w=>?_;refine zz9 ?_;refine aA (bU (k:=a7 9) Y Tryz.underlying43 Y (.known hk)) Y (zz3 ?_);refine aY 8 Y (fun h8=>?_) (fun h8=>?_)
  · obtain⟨x,rfl⟩:=List.length_eq_one_iff.1 (show l.length=1 by omega);refine zz3 ?_;refine aA (aX (k:=a7 9) (xs:=[x]) (j:=0) cB Y (.known hk) Y Y (by simp)) Y ?_;refine aA (cE (o:=0) (k:=a7 9) (xs:=[x]) (u:=x) ts9 Y (.known hk) Y Y) Y ?_;refine cN Y Y (zF x (xAV (hl x (List.mem_singleton.2 Y)) aH) _) Y (zz5 ?_);refine uAf ?_;refine zz1 ?_;exact⟨Y,Y,Y⟩
  have hne:l.length≠1:=by omega
  refine zz14 ?_;refine eH (fun(i:Nat)=>i≤l.length) (fun i=>[(0,v),(3,str ([91]++pC [44,32] ((l.take i).map iE))),(4,i64 i)]) (fun _=>K) (fun _=>[]) (fun i=>l.length - i) 0 (x9 _) aS Y (fun _ h=>h) ?_;intro i hi;refine zz5 ?_;refine aA (bU (k:=a7 9) Y Tryz.underlying43 Y (.known hk)) Y (zz3 ?_);refine aY 16 Y (fun h16=>?_) (fun h16=>?_)
  · have hil:i < l.length:=by omega
    obtain⟨x,hx⟩:∃x,l[i]?=some x:=⟨l[i]'hil,x4 hil⟩;have hxl:=hl x (x8 hx);have hql:=nR x;have hjl:=aO8 (l:=l.take i) fun y hy=>hl y (List.mem_of_mem_take hy)
    rw[xA4,Nat.min_eq_left hi]at hjl;refine zz11 ?_;refine aY 20 Y (fun h20=>?_) (fun h20=>?_)
    · refine zz2 ?_;refine aA (eJ Y Y gC2) Y (zz7 ?_);refine aA (aX (k:=a7 9) (j:=i) cB Y (.known hk) Y Y hil) Y ?_;refine aA (cE (o:=0) (k:=a7 9) ts9 Y (.known hk) hx Y) Y ?_;refine cN Y Y (zF x aH _) Y (zz6 ?_);refine aA (eJ Y Y gC2) Y (zz9 ?_)
      first
        | (have hi0 : i = 0 := by omega
           subst hi0;exact cM 1 aH aH (.cons 0 Y (.cons 3 (by rw[bDP hx];rfl) aS)) Y (fun _ h=>h))
        | (have hi0 : 0 < i := by omega
           exact cM (i+1) aH aH (.cons 0 Y (.cons 3 (by rw[bDQ hi0 hx,←xA0,←xA0];rfl) aS)) Y (fun _ h=>h))
    refine zz6 ?_;refine aA (aX (k:=a7 9) (j:=i) cB Y (.known hk) Y Y hil) Y ?_;refine aA (cE (o:=0) (k:=a7 9) ts9 Y (.known hk) hx Y) Y ?_;refine cN Y Y (zF x aH _) Y (zz6 ?_);refine aA (eJ Y Y gC2) Y (zz9 ?_)
    first
      | (have hi0 : i = 0 := by omega
         subst hi0;exact cM 1 aH aH (.cons 0 Y (.cons 3 (by rw[bDP hx];rfl) aS)) Y (fun _ h=>h))
      | (have hi0 : 0 < i := by omega
         exact cM (i+1) aH aH (.cons 0 Y (.cons 3 (by rw[bDQ hi0 hx,←xA0,←xA0];rfl) aS)) Y (fun _ h=>h))
  have hfin:l.take i=l:=xAI aH;rw[hfin];have hjl:=aO8 hl;refine zz8 ?_;refine aA (eJ Y Y gC2) Y (zz4 ?_);refine uAf ?_;refine zz1 ?_;rw[aAW hne];exact⟨Y,Y,Y⟩
end Go.Proofs
end
section
attribute [local irreducible] Go.SL.T Go.SL.OL Go.SL.D Go.SL.DL Go.SL.Ev Go.SL.Ef Go.SL.EfS
namespace Go.Proofs
open Go Go.SL Go.Syn Go.Mach
open Go.Cmp (cnt)
def bP9{t:Tree}(h:wf t 0=true):dpt t=0:=by cases t <;> simp[wf]at h <;> rfl
def aOM{l:Tree}(h:wf l 1=true):(Say.elems l).length≤cnt l:=by
 induction l with
 |tcons t l ih1 ih2=>simp[wf]at h;have:=ih2 h.2;simp only[Say.elems,List.length_cons,cnt];have:=aLW h.1;omega
 |tnil=>simp[Say.elems]
 |_=>simp[wf]at h
def nX{d k:Nat}:prn (.siz 1 (k:Int)) d true=[115,105,122,101,32,58,111,118,101,114,32]++Lib.decDigits k:=by
 show [115,105,122,101,32,58]++tF 1++[32]++Lib.itoa (k:Int)=_
 rw[Lib.itoa_nonneg];rfl
def nY{d k:Nat}:prn (.siz 2 (k:Int)) d true=[115,105,122,101,32,58,117,110,100,101,114,32]++Lib.decDigits k:=by
 show [115,105,122,101,32,58]++tF 2++[32]++Lib.itoa (k:Int)=_
 rw[Lib.itoa_nonneg];rfl
def octT(oct:Bool):aP:=if oct=true then y9 else []
def aAA(tag:Int):aP:=if tag=2 then [32,58,99,111,110,116,97,105,110,115]else []
def aCT(tag:Int):aP:=if tag=3 then [32,58,109,97,116,99,104,101,115]else []
def bIW{d:Nat}{tag op:Int}{oct:Bool}{x y:List aP}{w:aP}(hw:w=matW op)(ht:1≤tag∧tag≤3)(ho:6≤op∧op≤8):w++octT oct++aAA tag++aCT tag++[32]++pQ x++[32]++pQ y=prn (.mat tag oct op x y) d true:=by
 have h1:matW op=xQ op:=by
  have:op=6∨op=7∨op=8:=by omega
  rcases this with rfl|rfl|rfl <;> rfl
 have h2:zJ tag=aAA tag++aCT tag:=by
  have:tag=1∨tag=2∨tag=3:=by omega
  rcases this with rfl|rfl|rfl <;> rfl
 rw[hw,h1];simp only[prn,h2,octT,List.append_assoc]
def bJS{w:aP}(h:w=j6∨w=iB∨w=rJ∨w=lZ∨w=l4∨w=gU∨w=dS∨w=gV∨w=kP∨w=nL)(h1:¬w=j6)(h2:¬w=iB)(h3:¬w=rJ)(h4:¬w=lZ)(h5:¬w=l4)(h6:¬w=kP)(h7:¬w=nL):w=gU∨w=dS∨w=gV:=by
 rcases h with h|h|h|h|h|h|h|h|h|h
 ·exact absurd h h1
 ·exact absurd h h2
 ·exact absurd h h3
 ·exact absurd h h4
 ·exact absurd h h5
 ·exact .inl h
 ·exact .inr (.inl h)
 ·exact .inr (.inr h)
 ·exact absurd h h6
 exact absurd h h7
def aGK{α:Type}{l:List α}{i:Nat}{x:α}(h:l[i]?=some x):l.drop i=x::l.drop (i+1):=by
 obtain⟨hl,e⟩:=xAG.1 h;rw[xAR hl,e]
def aF5(t:Tree):Prop:=∀(d:Nat) (K:Hl) (v:Cell),d≤57→RR K t [v] []→Sp x3 106 [v.1] K [] (Val (str (prn t d true)) K)
def aDV(t:Tree)(hw:wf t 0=true)(ho:okT t=true)(hs:sOk 600 t)(hcnt:cnt t≤100000)(ih:(∀u,t=.not_ u→aF5 u)∧∀all l,t=.many all l→∀u∈Say.elems l,aF5 u):aF5 t:=by
 intro d K v hd hr;obtain⟨b,wd,tv,av,bv,tag,oct,n,rfl,hk,hsh⟩:=Say.rr_block hw hr;have hB:=(aMX (n:=600) (by decide) (d:=d) (f:=true) hs (by rw[bP9 hw];omega)).1 (.inl hw);refine bN Tryz.func106 Y Tryz.ntmps106 Y Y fun F w=>?_;refine zz22 ?_;refine aY 16 Y (fun h16=>?_) (fun h16=>?_)
 ·have hw1:prn t d true=wd:=gFQ;refine zz15 ?_;refine uAf ?_;refine zz1 ?_
  first
   |exact gCI
   |exact gCF
   |exact gBU
   |exact gBJ
   |exact⟨Y,Y,Y⟩
 first|have hnT:¬wd=j6:=h16|have hnF:¬wd=iB:=h16
 refine zz5 ?_;refine aY 16 Y (fun h16=>?_) (fun h16=>?_)
 ·have hw1:prn t d true=wd:=gFQ;refine zz12 ?_;refine uAf ?_;refine zz1 ?_
  first
   |exact gCI
   |exact gCF
   |exact gBU
   |exact gBJ
   |exact⟨Y,Y,Y⟩
 first|have hnT:¬wd=j6:=h16|have hnF:¬wd=iB:=h16
 refine zz6 ?_;refine aY 23 Y (fun h23=>?_) (fun h23=>?_)
 ·obtain⟨u,v1,rfl,hru,hkt⟩:=Say.sh_not hsh h23;have ihu:=ih.1 u rfl d K v1 hd hru;have hB1:(prn u d true).length≤10000000000000:=(by simp only[prn,List.length_append]at hB;omega);refine zz6 ?_;refine aA (aX (k:=cC 159) (xs:=[v1]) (j:=0) iS Y (.known hkt) Y Y (by simp)) Y ?_;refine aA (cE (o:=0) (k:=cC 159) (xs:=[v1]) (u:=v1) ts159 Y (.known hkt) Y Y) Y ?_;refine cN Y Y ihu Y (zz6 ?_);refine aA (eJ Y Y gC2) Y (zz6 ?_);refine uAf ?_;refine zz1 ?_
  first
   |exact gCI
   |exact gCF
   |exact gBU
   |exact gBJ
   |exact⟨Y,Y,Y⟩
 refine zz7 ?_;refine aY 34 Y (fun h34=>?_) (fun h34=>?_)
 ·obtain⟨all,l,xs,rfl,hwm,hru,hkt⟩:∃all l xs,t=.many all l∧wd=xM all∧RR K l xs []∧Ksl (cC 159) K tv xs:=gEH;have hwl:wf l 1=true:=by simpa[wf]using hw
  obtain⟨hxl,hxr⟩:=Say.rr_elems hwl hru;have ihl:=ih.2 _ l rfl;have hxn:=aOM hwl;simp only[cnt]at hcnt;have hw5:wd.length=5:=(by rw[hwm];cases all <;> rfl);have hBl:(prnE d (Say.elems l) true).length≤10000000000000:=(by rw[←aV7 hwl];simp only[prn,cnt,List.length_append]at hB;omega);refine zz9 ?_;refine aA (eJ Y Y gC2) Y (zz10 ?_);refine iR (fun(i:Nat) (acc:aP)=>i≤xs.length∧acc++prnE d ((Say.elems l).drop i) (decide (i=0))=wd++[32,40]++prnE d (Say.elems l) true) (fun i acc=>[(0,ptr b),(4,str acc),(5,i64 i)]) (fun _ _=>K) (fun _ _=>[]) (fun i _=>xs.length - i) 0 _ ⟨x9 _,Y⟩ aS Y (fun _ h=>h) ?_;intro i acc ⟨hi0,hI⟩;refine zz8 ?_;refine aA (bU (k:=cC 159) Y Tryz.underlying153 Y (.known hkt)) Y (zz3 ?_);refine aY 48 Y (fun h48=>?_) (fun h48=>?_)
  ·have hil:i < xs.length:=by omega
   obtain⟨x,hx⟩:∃x,xs[i]?=some x:=⟨xs[i]'hil,x4 hil⟩;obtain⟨u,hu⟩:∃u,(Say.elems l)[i]?=some u:=⟨(Say.elems l)[i]'(by omega),x4 aH⟩;have hdr:(Say.elems l).drop i=u::(Say.elems l).drop (i+1):=aGK hu;have ihu:=ihl u (x8 hu) d K x hd (hxr i x u hx hu);have haL:=xAE List.length hI;rw[hdr]at haL;simp only[prnE,List.length_append,List.length_cons,List.length_nil]at haL;refine zz11 ?_;refine aY 52 Y (fun h52=>?_) (fun h52=>?_)
   ·refine zz2 ?_;refine aA (eJ Y Y gC2) Y (zz10 ?_);refine aA (aX (k:=cC 159) (xs:=xs) (j:=i) iS Y (.known hkt) Y Y hil) Y ?_;refine aA (cE (o:=0) (k:=cC 159) (xs:=xs) (u:=x) ts159 Y (.known hkt) hx Y) Y ?_;refine cN Y Y ihu Y (zz6 ?_);refine aA (eJ Y Y gC2) Y (zz9 ?_)
    first
     |exact cW (i+1) _ ⟨by omega,aV5 hdr aH hI⟩ aH aS Y (fun _ h=>h)
     |exact cW (i+1) _ ⟨by omega,aV6 hdr aH hI⟩ aH aS Y (fun _ h=>h)
   refine zz9 ?_;refine aA (aX (k:=cC 159) (xs:=xs) (j:=i) iS Y (.known hkt) Y Y hil) Y ?_;refine aA (cE (o:=0) (k:=cC 159) (xs:=xs) (u:=x) ts159 Y (.known hkt) hx Y) Y ?_;refine cN Y Y ihu Y (zz6 ?_);refine aA (eJ Y Y gC2) Y (zz9 ?_)
   first
    |exact cW (i+1) _ ⟨by omega,aV5 hdr aH hI⟩ aH aS Y (fun _ h=>h)
    |exact cW (i+1) _ ⟨by omega,aV6 hdr aH hI⟩ aH aS Y (fun _ h=>h)
  rw[xAU aH]at hI;have hI2:acc=wd++[32,40]++prnE d (Say.elems l) true:=(xAL acc).symm.trans hI;have haL:=xAE List.length hI2;simp only[List.length_append,List.length_cons,List.length_nil]at haL;have hfin:prn (.many all l) d true=acc++[41]:=(by rw[hI2,←aV7 (f:=true) hwl,hwm];cases all <;> rfl);refine zz8 ?_;refine aA (eJ Y Y gC2) Y (zz6 ?_);refine uAf ?_;refine zz1 ?_
  first
   |exact gCI
   |exact gCF
   |exact gBU
   |exact gBJ
   |exact⟨Y,Y,Y⟩
 first|have hnA:¬wd=lZ:=h34|have hnO:¬wd=l4:=h34
 refine zz5 ?_;refine aY 34 Y (fun h34=>?_) (fun h34=>?_)
 ·obtain⟨all,l,xs,rfl,hwm,hru,hkt⟩:∃all l xs,t=.many all l∧wd=xM all∧RR K l xs []∧Ksl (cC 159) K tv xs:=gEH;have hwl:wf l 1=true:=by simpa[wf]using hw
  obtain⟨hxl,hxr⟩:=Say.rr_elems hwl hru;have ihl:=ih.2 _ l rfl;have hxn:=aOM hwl;simp only[cnt]at hcnt;have hw5:wd.length=5:=(by rw[hwm];cases all <;> rfl);have hBl:(prnE d (Say.elems l) true).length≤10000000000000:=(by rw[←aV7 hwl];simp only[prn,cnt,List.length_append]at hB;omega);refine zz6 ?_;refine aA (eJ Y Y gC2) Y (zz10 ?_);refine iR (fun(i:Nat) (acc:aP)=>i≤xs.length∧acc++prnE d ((Say.elems l).drop i) (decide (i=0))=wd++[32,40]++prnE d (Say.elems l) true) (fun i acc=>[(0,ptr b),(4,str acc),(5,i64 i)]) (fun _ _=>K) (fun _ _=>[]) (fun i _=>xs.length - i) 0 _ ⟨x9 _,Y⟩ aS Y (fun _ h=>h) ?_;intro i acc ⟨hi0,hI⟩;refine zz8 ?_;refine aA (bU (k:=cC 159) Y Tryz.underlying153 Y (.known hkt)) Y (zz3 ?_);refine aY 48 Y (fun h48=>?_) (fun h48=>?_)
  ·have hil:i < xs.length:=by omega
   obtain⟨x,hx⟩:∃x,xs[i]?=some x:=⟨xs[i]'hil,x4 hil⟩;obtain⟨u,hu⟩:∃u,(Say.elems l)[i]?=some u:=⟨(Say.elems l)[i]'(by omega),x4 aH⟩;have hdr:(Say.elems l).drop i=u::(Say.elems l).drop (i+1):=aGK hu;have ihu:=ihl u (x8 hu) d K x hd (hxr i x u hx hu);have haL:=xAE List.length hI;rw[hdr]at haL;simp only[prnE,List.length_append,List.length_cons,List.length_nil]at haL;refine zz11 ?_;refine aY 52 Y (fun h52=>?_) (fun h52=>?_)
   ·refine zz2 ?_;refine aA (eJ Y Y gC2) Y (zz10 ?_);refine aA (aX (k:=cC 159) (xs:=xs) (j:=i) iS Y (.known hkt) Y Y hil) Y ?_;refine aA (cE (o:=0) (k:=cC 159) (xs:=xs) (u:=x) ts159 Y (.known hkt) hx Y) Y ?_;refine cN Y Y ihu Y (zz6 ?_);refine aA (eJ Y Y gC2) Y (zz9 ?_)
    first
     |exact cW (i+1) _ ⟨by omega,aV5 hdr aH hI⟩ aH aS Y (fun _ h=>h)
     |exact cW (i+1) _ ⟨by omega,aV6 hdr aH hI⟩ aH aS Y (fun _ h=>h)
   refine zz9 ?_;refine aA (aX (k:=cC 159) (xs:=xs) (j:=i) iS Y (.known hkt) Y Y hil) Y ?_;refine aA (cE (o:=0) (k:=cC 159) (xs:=xs) (u:=x) ts159 Y (.known hkt) hx Y) Y ?_;refine cN Y Y ihu Y (zz6 ?_);refine aA (eJ Y Y gC2) Y (zz9 ?_)
   first
    |exact cW (i+1) _ ⟨by omega,aV5 hdr aH hI⟩ aH aS Y (fun _ h=>h)
    |exact cW (i+1) _ ⟨by omega,aV6 hdr aH hI⟩ aH aS Y (fun _ h=>h)
  rw[xAU aH]at hI;have hI2:acc=wd++[32,40]++prnE d (Say.elems l) true:=(xAL acc).symm.trans hI;have haL:=xAE List.length hI2;simp only[List.length_append,List.length_cons,List.length_nil]at haL;have hfin:prn (.many all l) d true=acc++[41]:=(by rw[hI2,←aV7 (f:=true) hwl,hwm];cases all <;> rfl);refine zz8 ?_;refine aA (eJ Y Y gC2) Y (zz6 ?_);refine uAf ?_;refine zz1 ?_
  first
   |exact gCI
   |exact gCF
   |exact gBU
   |exact gBJ
   |exact⟨Y,Y,Y⟩
 first|have hnA:¬wd=lZ:=h34|have hnO:¬wd=l4:=h34
 refine zz6 ?_;refine aY 68 Y (fun h68=>?_) (fun h68=>?_)
 ·obtain⟨x,rfl,hka,hfit⟩:=Say.sh_exi hsh h68;have hll:=s6 (n:=600) (by decide) hs.1 hs.2;refine zz6 ?_;refine cN Y Y (aCK x av hs.1 (by have:=hs.2;omega) _ hka) Y (zz6 ?_);refine aA (eJ Y Y gC2) Y (zz6 ?_);refine uAf ?_;refine zz1 ?_
  first
   |exact gCI
   |exact gCF
   |exact gBU
   |exact gBJ
   |exact⟨Y,Y,Y⟩
 refine zz6 ?_;refine aY 77 Y (fun h77=>?_) (fun h77=>?_)
 ·have ht:=Say.sh_siz hsh h77;subst ht;have htg:tag=1∨tag=2:=by simpa[okT]using ho
  obtain⟨hs1,hs2⟩:0≤n∧n≤2147483647:=hs;obtain⟨k,rfl⟩:∃k:Nat,n=k:=⟨n.toNat,by omega⟩;have hkl:(Lib.decDigits k).length≤21:=(by rw[←Lib.itoa_nonneg];exact Lib.itoa_length_le _ aH aH);refine zz6 ?_;refine cN Y Y (aCL k aH _) Y (zz13 ?_);refine aY 88 Y (fun h88=>?_) (fun h88=>?_)
  ·refine zz3 ?_;refine aA (eJ Y Y gC2) Y (zz7 ?_);refine uAf ?_;refine zz1 ?_
   first
    |exact gCI
    |exact gCF
    |exact gBU
    |exact gBJ
    |exact⟨Y,Y,Y⟩
  refine zz5 ?_;refine aA (eJ Y Y gC2) Y (zz6 ?_);refine uAf ?_;refine zz1 ?_
  first
   |exact gCI
   |exact gCF
   |exact gBU
   |exact gBJ
   |exact⟨Y,Y,Y⟩
 obtain⟨op,xa,ya,rfl,hwo,hka,hkb⟩:=Say.sh_mat hsh (bJS (Say.sh_cases hsh) hnT hnF h23 hnA hnO h68 h77);obtain⟨hsx1,hsx2,hsx3,hsx4⟩:=hs;obtain⟨ht1,ht2,ho1,ho2⟩:1≤tag∧tag≤3∧6≤op∧op≤8:=by simpa[okT]using ho
 have hll:=s6 (n:=600) (by decide) hsx1 hsx3;have hlm:=s6 (n:=600) (by decide) hsx2 hsx4;have hw8:wd.length≤8:=(by rw[hwo];unfold matW;split;decide;split <;> decide);have hoL:(octT oct).length≤22:=(by unfold octT;split <;> decide);have h2L:(aAA tag).length≤10:=(by unfold aAA;split <;> decide);have h3L:(aCT tag).length≤10:=(by unfold aCT;split <;> decide);rw[←bIW (d:=d) (oct:=oct) (x:=xa) (y:=ya) hwo ⟨ht1,ht2⟩ ⟨ho1,ho2⟩];refine zz12 ?_;refine dX (fun(_:Unit)=>True) (fun _=>[(0,ptr b),(9,str (wd++octT oct))]) (fun _=>K) (fun _=>[]) ?_ ?_
 ·refine zz8 ?_;refine d9 100 Y (fun h100=>?_) (fun h100=>?_)
  ·refine zz2 ?_;refine aA (eJ Y Y gC2) Y (zz2 ?_)
   first
    |exact a8 () trivial (.cons 0 Y (.cons 9 (by unfold octT;rw[x7 h100];rfl) .nil)) Y (fun _ h=>h)
    |exact a8 () trivial (.cons 0 Y (.cons 9 gF1 .nil)) Y (fun _ h=>h)
  refine aW ?_
  first
   |exact a8 () trivial (.cons 0 Y (.cons 9 (by unfold octT;rw[x7 h100];rfl) .nil)) Y (fun _ h=>h)
   |exact a8 () trivial (.cons 0 Y (.cons 9 gF1 .nil)) Y (fun _ h=>h)
 intro _ _;refine dX (fun(_:Unit)=>True) (fun _=>[(0,ptr b),(9,str (wd++octT oct++aAA tag))]) (fun _=>K) (fun _=>[]) ?_ ?_
 ·refine zz9 ?_;refine aY 107 Y (fun h107=>?_) (fun h107=>?_)
  ·refine zz2 ?_;refine aA (eJ Y Y gC2) Y (zz2 ?_)
   first
    |exact a8 () trivial (.cons 0 Y (.cons 9 (by unfold aAA;rw[x7 h107];rfl) .nil)) Y (fun _ h=>h)
    |exact a8 () trivial (.cons 0 Y (.cons 9 gF3 .nil)) Y (fun _ h=>h)
  refine aW ?_
  first
   |exact a8 () trivial (.cons 0 Y (.cons 9 (by unfold aAA;rw[x7 h107];rfl) .nil)) Y (fun _ h=>h)
   |exact a8 () trivial (.cons 0 Y (.cons 9 gF3 .nil)) Y (fun _ h=>h)
 intro _ _;refine dX (fun(_:Unit)=>True) (fun _=>[(0,ptr b),(9,str (wd++octT oct++aAA tag++aCT tag))]) (fun _=>K) (fun _=>[]) ?_ ?_
 ·refine zz9 ?_;refine aY 114 Y (fun h114=>?_) (fun h114=>?_)
  ·refine zz2 ?_;refine aA (eJ Y Y gC2) Y (zz2 ?_)
   first
    |exact a8 () trivial (.cons 0 Y (.cons 9 (by unfold aCT;rw[x7 h114];rfl) .nil)) Y (fun _ h=>h)
    |exact a8 () trivial (.cons 0 Y (.cons 9 gF2 .nil)) Y (fun _ h=>h)
  refine aW ?_
  first
   |exact a8 () trivial (.cons 0 Y (.cons 9 (by unfold aCT;rw[x7 h114];rfl) .nil)) Y (fun _ h=>h)
   |exact a8 () trivial (.cons 0 Y (.cons 9 gF2 .nil)) Y (fun _ h=>h)
 intro _ _;refine zz6 ?_;refine cN Y Y (aCK xa av hsx1 aH _ hka) Y (zz9 ?_);refine cN Y Y (aCK ya bv hsx2 aH _ hkb) Y (zz6 ?_);refine aA (eJ Y Y gC9) Y (zz1 ?_);refine aA (eJ Y Y gC2) Y ?_;refine aA (eJ Y Y gC2) Y (zz1 ?_);refine aA (eJ Y Y gC2) Y (zz4 ?_);refine uAf ?_;refine zz1 ?_
 first
  |exact gCI
  |exact gCF
  |exact gBU
  |exact gBJ
  |exact⟨Y,Y,Y⟩
def bFO:∀t:Tree,okT t=true→sOk 600 t→cnt t≤100000→(wf t 0=true→aF5 t)∧(wf t 1=true→∀u∈Say.elems t,aF5 u):=by
 intro t;induction t with
 |not_ t ih=>
  intro ho hs hc;refine⟨fun hw=>aDV _ hw ho hs hc ⟨fun u e=>?_,fun all l e=>(by cases e)⟩,fun hw=>by simp[wf]at hw⟩
  cases e;exact(ih ho hs gFO).1 gGG
 |many all l ih=>
  intro ho hs hc;refine⟨fun hw=>aDV _ hw ho hs hc ⟨fun u e=>(by cases e),fun al2 l2 e=>?_⟩,fun hw=>by simp[wf]at hw⟩
  cases e;exact(ih (by simp[okT]at ho;exact ho.2) hs gFO).2 gGG
 |tcons t l ih1 ih2=>
  intro ho hs hc;refine⟨fun hw=>by simp[wf]at hw,fun hw u hu=>?_⟩
  simp[wf]at hw;simp[okT]at ho;simp only[cnt]at hc;rcases List.mem_cons.1 hu with rfl|hu
  ·exact(ih1 ho.1 hs.1 aH).1 hw.1
  exact(ih2 ho.2 hs.2 aH).2 hw.2 u hu
 |tnil=>intro ho hs hc;exact⟨fun hw=>by simp[wf]at hw,fun hw u hu=>by simp[Say.elems]at hu⟩
 |_=>intro ho hs hc;exact⟨fun hw=>aDV _ hw ho hs hc ⟨fun u e=>(by cases e),fun all l e=>(by cases e)⟩,fun hw=>gDV⟩
end Go.Proofs
end
section
attribute [local irreducible] Go.SL.T Go.SL.OL Go.SL.D Go.SL.DL Go.SL.Ev Go.SL.Ef Go.SL.EfS
namespace Go.Proofs
open Go Go.SL Go.Syn Go.Mach
open Go.Cmp (cnt)
open Go.Say (elemsC brL brO)
def aYC(d:Nat):indC (d+1)=indC d++[32,32]:=by rw[xG,xG,show ([32,32]:aP)=List.replicate 2 32 from rfl,List.replicate_append_replicate];rfl
def LnAt(l:Tree):Prop:=∀(d:Nat) (K:Hl) (lv:Value) (us:List Cell),d+dpt l≤57→Ksl (cC 152) K lv us→RR K l us []→Sp x3 43 [lv,str (indC d)] K [] (Val (str (prn l d true)) K)
def BrAt(bs:Tree):Prop:=∀(d:Nat) (K:Hl) (b:Nat) (wd:aP) (av:Value) (tag:Int) (tv bv:Value) (p:Int) (xs ys:List Cell),d+dpt bs≤57→K b=some (cmO wd av tag tv bv p)→RR K bs xs ys→Ksl (cC 159) K tv xs→Ksl (cC 103) K bv ys→Sp x3 75 [ptr b,str (indC d)] K [] (Val (str (brE d (brO bs) (brL bs) true++[10])) K)
def LnAt.call{l:Tree}(h:LnAt l){d:Nat}{K:Hl}{lv:Value}{us:List Cell}(hd:d+(dpt l+1)≤57)(hl:Ksl (cC 152) K lv us)(hr:RR K l us []):Sp x3 43 [lv,str (indC d++[32,32])] K [] (Val (str (prn l (d+1) true)) K):=by
 rw[←aYC];exact h (d+1) K lv us aH hl hr
def aXV{l:Tree}(h:wf l 3=true):(elemsC l).length≤cnt l:=by
 induction l with
 |ccons c l ih1 ih2=>simp[wf]at h;have:=ih2 h.2;simp only[elemsC,List.length_cons,cnt];have:=mR h.1;omega
 |cnil=>simp[elemsC]
 |_=>simp[wf]at h
def aSG{l y:Tree}(h:wf l 3=true)(hy:y∈elemsC l):dpt y≤dpt l:=by
 induction l with
 |ccons c l ih1 ih2=>
  simp[wf]at h;simp only[dpt];rcases List.mem_cons.1 hy with rfl|hy
  ·omega
  have:=ih2 h.2 hy;omega
 |_=>simp[elemsC]at hy
def tagL:List aP:=[[],[32,58,108,111,119,101,114],[32,58,117,112,112,101,114],[32,58,108,101,110,103,116,104]]
def aQ1{tag:Int}(h0:0≤tag)(h3:tag≤3):tagL[tag.toNat]?=some (nV tag):=by
 have:tag=0∨tag=1∨tag=2∨tag=3:=by omega
 rcases this with rfl|rfl|rfl|rfl <;> rfl
def aUA(tag:Int):(nV tag).length≤8:=by unfold nV;split;decide;split;decide;split <;> decide
def CmdP(y:Tree):Prop:=wf y 2=true∧okT y=true∧sOk 600 y∧ifB y=true∧∀bs,y=.iff bs→wf bs 4=true∧okT bs=true∧BrAt bs
def aQB(l:Tree)(hw:wf l 3=true)(hs:sOk 600 l)(hc:cnt l≤100000)(ih:∀y∈elemsC l,CmdP y):LnAt l:=by
 intro d K lv us hd hl hr;have hB:=(aMX (n:=600) (by decide) (d:=d) (f:=true) hs aH).2 (.inr (.inl hw));obtain⟨hul,hxr⟩:=Say.rr_cmds hw hr;have huc:=aXV hw;have hin:=xF d;refine bN Tryz.func43 Y Tryz.ntmps43 Y Y fun F w=>?_;refine zz17 ?_;refine iR (fun(i:Nat) (acc:aP)=>i≤us.length∧acc++lnE d ((elemsC l).drop i)=prn l d true) (fun i acc=>[(0,lv),(1,str (indC d)),(5,str acc),(6,i64 i)]) (fun _ _=>K) (fun _ _=>[]) (fun i _=>us.length - i) 0 [] ⟨x9 _,(by rw[bOU hw];rfl)⟩ (.cons 0 Y (.cons 1 Y (.cons 5 Y (.cons 6 Y .nil)))) Y (fun _ h=>h) ?_;intro i acc ⟨hi0,hI⟩;refine zz5 ?_;refine aA (bU (k:=cC 152) Y Tryz.underlying103 Y (.known hl)) Y (zz3 ?_);refine aY 15 Y (fun h15=>?_) (fun h15=>?_)
 ·have hil:i < us.length:=by omega
  obtain⟨x,hx⟩:∃x,us[i]?=some x:=⟨us[i]'hil,x4 hil⟩;obtain⟨y,hy⟩:∃y,(elemsC l)[i]?=some y:=⟨(elemsC l)[i]'(by omega),x4 aH⟩;have hym:=x8 hy;obtain⟨hwy,hoy,hsy,hiy,hbr⟩:=ih y hym;have hdy:=aSG hw hym;have hdr:(elemsC l).drop i=y::(elemsC l).drop (i+1):=aGK hy;obtain⟨b,wd,av,tag,tv,bv,p,rfl,hk,hw8,hcase⟩:=bJF hwy hoy hsy hiy (hxr i x y hx hy);have haL:=xAE List.length hI;rw[hdr]at haL;simp only[lnE,List.length_append,List.length_cons,List.length_nil]at haL;refine zz8 ?_;refine aA (aX (k:=cC 152) (xs:=us) (j:=i) yI Y (.known hl) Y Y hil) Y ?_;refine aA (cE (o:=0) (k:=cC 152) (xs:=us) (u:=pcl b) ts152 Y (.known hl) hx Y) Y (zz7 ?_);refine aA (eJ Y Y gC2) Y (zz4 ?_);refine aA (eJ Y Y gC2) Y (zz13 ?_);refine aY 34 Y (fun h34=>?_) (fun h34=>?_)
  ·obtain⟨bs,xs,ys,rfl,hbc,hrb,hkt,hkb⟩:∃bs xs ys,y=.iff bs∧isBc bs=true∧RR K bs xs ys∧Ksl (cC 159) K tv xs∧Ksl (cC 103) K bv ys:=(by rcases hcase with ⟨h,_⟩|⟨_,h⟩;exact absurd h34 h;exact h);obtain⟨hw4,ho4,hBr⟩:=hbr bs rfl;have hpi:=bE0 (d:=d) hw4 ho4 hbc;rw[show prn (.iff bs) d true=prn bs d true from rfl,hpi]at haL;simp only[List.length_append,List.length_cons,List.length_nil]at haL;refine zz4 ?_;refine cN Y Y (hBr d K b wd av tag tv bv p xs ys (by simp only[dpt]at hdy;omega) hk hrb hkt hkb) Y (zz7 ?_);refine aA (eJ Y Y gC2) Y (zz12 ?_)
   first
    |exact cW (i+1) _ ⟨by omega,aB9 hdr gFE hI⟩ aH (.cons 0 Y (.cons 1 Y (.cons 5 Y (.cons 6 Y .nil)))) Y (fun _ h=>h)
    |exact cW (i+1) _ ⟨by omega,aB9 hdr (by rw[hpr d];simp only[List.append_assoc];rfl) hI⟩ aH (.cons 0 Y (.cons 1 Y (.cons 5 Y (.cons 6 Y .nil)))) Y (fun _ h=>h)
  obtain⟨xs,hka,hx2,hx6,ht0,ht3,hpr⟩:∃xs,Ksl (a7 9) K av xs∧xs.length≤2∧(∀x∈xs,x.length≤600)∧0≤tag∧tag≤3∧∀d,prn y d true=wd++(nV tag++(sqE xs++[59])):=(by rcases hcase with ⟨_,h⟩|⟨h,_⟩;exact h;exact absurd h h34);rw[hpr d]at haL;simp only[List.length_append,List.length_cons,List.length_nil]at haL;have hsn:=aUA tag;have hsq:=aUH hx6;refine zz4 ?_;refine cJ (bM (z0:=[(str []),(str []),(str []),(str [])]) cB tz9 Y Y Y Y (.cons Y Y Y (.cons .nil) (.cons Y Y Y (.skip (.cons .nil)) (.cons Y Y Y (.skip (.skip (.cons .nil))) (.cons Y Y Y (.skip (.skip (.skip (.cons .nil)))) .nil))))) Y ?_;rintro _ K _ ⟨b41,rfl,rfl,rfl⟩ -;refine zz11 ?_;refine aA (aX (k:=a7 9) (xs:=tagL) (j:=tag.toNat) cB Y (.blk (.own .here) Y Y) Y aH (xAG.1 (aQ1 ht0 ht3)).1) Y ?_;refine aA (cE (o:=0) (k:=a7 9) (xs:=tagL) (u:=nV tag) ts9 Y (.blk (.own .here) Y Y) (aQ1 ht0 ht3) Y) Y ?_;refine aA (eJ Y Y gC2) Y (zz5 ?_);refine mV .nil (zz5 ?_);refine eH (fun(k:Nat)=>k≤xs.length) (fun k=>[(0,lv),(1,str (indC d)),(5,str (acc++indC d++wd++nV tag++sqE (xs.take k))),(6,i64 i),(7,ptr b),(10,i64 k)]) (fun _=>K) (fun _=>[]) (fun k=>xs.length - k) 0 (x9 _) (.cons 0 Y (.cons 1 Y (.cons 5 (xAE (fun x=>some (str x)) (xAL _).symm) (.cons 6 Y (.cons 7 Y (.cons 10 Y .nil)))))) Y (fun _ h=>h) ?_;intro k hk0;refine zz8 ?_;refine aA (bU (k:=a7 9) Y Tryz.underlying43 Y (.known hka)) Y (zz3 ?_);refine aY 57 Y (fun h57=>?_) (fun h57=>?_)
  ·have hkl:k < xs.length:=by omega
   obtain⟨z,hz⟩:∃z,xs[k]?=some z:=⟨xs[k]'hkl,x4 hkl⟩;have hz6:=hx6 z (x8 hz);have hqz:=nR z;have hst:=aUH (l:=xs.take k) fun y hy=>hx6 y (List.mem_of_mem_take hy)
   rw[xA4,Nat.min_eq_left hk0]at hst;refine zz11 ?_;refine aA (aX (k:=a7 9) (xs:=xs) (j:=k) cB Y (.known hka) Y Y hkl) Y ?_;refine aA (cE (o:=0) (k:=a7 9) (xs:=xs) (u:=z) ts9 Y (.known hka) hz Y) Y ?_;refine cN Y Y (zF z aH _) Y (zz5 ?_);refine aA (eJ Y Y gC2) Y (zz1 ?_);refine aA (eJ Y Y gC2) Y (zz9 ?_);exact cM (k+1) aH aH (.cons 0 Y (.cons 1 Y (.cons 5 (xAE (fun x=>some (str x)) (by rw[bGG hz,←xA0,←xA0])) (.cons 6 Y (.cons 7 Y (.cons 10 Y .nil)))))) Y (fun _ h=>h)
  rw[xAI (show xs.length≤k by omega)];refine zz7 ?_;refine aA (eJ Y Y gC2) Y (zz9 ?_)
  first
   |exact cW (i+1) _ ⟨by omega,aB9 hdr gFE hI⟩ aH (.cons 0 Y (.cons 1 Y (.cons 5 Y (.cons 6 Y .nil)))) Y (fun _ h=>h)
   |exact cW (i+1) _ ⟨by omega,aB9 hdr (by rw[hpr d];simp only[List.append_assoc];rfl) hI⟩ aH (.cons 0 Y (.cons 1 Y (.cons 5 Y (.cons 6 Y .nil)))) Y (fun _ h=>h)
 rw[xAU aH]at hI;have hI2:acc=prn l d true:=(xAL acc).symm.trans hI;refine zz12 ?_;refine uAf ?_;refine zz1 ?_;rw[hI2];exact⟨Y,Y,Y⟩
def bE2(bs:Tree)(hw:wf bs 4=true)(ho:okT bs=true)(hs:sOk 600 bs)(hc:cnt bs≤100000)(hbc:isBc bs=true)(ihT:∀pr∈brL bs,aF5 pr.1∧LnAt pr.2∧dpt pr.2+1≤dpt bs)(ihO:∀b,brO bs=some b→LnAt b∧dpt b+1≤dpt bs)(hbl:(brL bs).length≤cnt bs):BrAt bs:=by
 intro d K b wd av tag tv bv p xs ys hd hk hr hkt hkb;have hB:=(aMX (n:=600) (by decide) (d:=d) (f:=true) hs aH).2 (.inr (.inr hw));rw[bE0 (d:=d) hw ho hbc]at hB;simp only[List.length_append,List.length_cons,List.length_nil]at hB;obtain⟨hx1,hx2,hx3⟩:=Say.rr_brs hw hr;have hin:=xF d;have hyl:ys.length≤xs.length+1∧xs.length≤ys.length:=by
  cases ho:brO bs with
  |none=>rw[ho]at hx3;have h3:ys.length=xs.length:=hx3;omega
  |some ob=>rw[ho]at hx3;have h3:=hx3.1;omega
 refine bN Tryz.func75 Y Tryz.ntmps75 Y Y fun F w=>?_;refine zz17 ?_;refine iR (fun(k:Nat) (acc:aP)=>k≤ys.length∧acc++brR d (brO bs) (brL bs) k=brE d (brO bs) (brL bs) true) (fun k acc=>[(0,ptr b),(1,str (indC d)),(5,str acc),(6,i64 k)]) (fun _ _=>K) (fun _ _=>[]) (fun k _=>ys.length - k) 0 [] ⟨x9 _,bN1⟩ (.cons 0 Y (.cons 1 Y (.cons 5 Y (.cons 6 Y .nil)))) Y (fun _ h=>h) ?_;intro k acc ⟨hk0,hI⟩;refine zz8 ?_;refine aA (bU (k:=cC 103) Y Tryz.underlying154 Y (.known hkb)) Y (zz3 ?_);refine aY 16 Y (fun h16=>?_) (fun h16=>?_)
 ·have hkl:k < ys.length:=by omega
  have haL:=xAE List.length hI;rw[xAF]at haL;refine zz4 ?_;refine dX (fun(x:aP×Tree×Cell×List Cell)=>x.1++(bdT d x.2.1++brR d (brO bs) (brL bs) (k+1))=brE d (brO bs) (brL bs) true∧ys[k]?=some x.2.2.1∧LnAt x.2.1∧dpt x.2.1+1≤dpt bs∧RR K x.2.1 x.2.2.2 []∧Ksl (cC 152) K x.2.2.1.1 x.2.2.2) (fun x=>[(0,ptr b),(1,str (indC d)),(5,str x.1),(6,i64 k)]) (fun _=>K) (fun _=>[]) ?_ ?_
  ·refine zz8 ?_;refine aA (bU (k:=cC 159) Y Tryz.underlying153 Y (.known hkt)) Y (zz4 ?_);refine aY 31 Y (fun h31=>?_) (fun h31=>?_)
   ·have hkx:k=xs.length:=by omega
    subst hkx;obtain⟨ob,hob⟩:∃ob,brO bs=some ob:=(by cases ho:brO bs with|some ob=>exact⟨ob,Y⟩|none=>rw[ho]at hx3;have h3:ys.length=xs.length:=hx3;exact absurd h3 aH);obtain⟨hyn,yb,zs,hyb,hrz,hkz⟩:ys.length=xs.length+1∧∃y zs,ys[xs.length]?=some y∧RR K ob zs []∧Ksl (cC 152) K y.1 zs:=(by rw[hob]at hx3;exact hx3);obtain⟨hRn,hdp⟩:=ihO ob hob;have hJ:=hI;rw[hob,bB2 hx1,←hob]at hJ;have hJL:=xAE List.length hJ;simp only[List.length_append,List.length_cons,List.length_nil]at hJL;refine zz2 ?_;refine aA (eJ Y Y gC2) Y (zz3 ?_)
    first
     |exact a8 (acc++[32,101,108,115,101],ob,yb,zs) ⟨by rw[←hJ];simp only[List.append_assoc],hyb,hRn,hdp,hrz,hkz⟩ (.cons 0 Y (.cons 1 Y (.cons 5 Y (.cons 6 Y .nil)))) Y (fun _ h=>h)
     |exact a8 (_,pr.2,yb,zs) ⟨by rw[←hJ];simp only[List.append_assoc],hyb,hRn,hdp,hrz,hkz⟩ (.cons 0 Y (.cons 1 Y (.cons 5 Y (.cons 6 Y .nil)))) Y (fun _ h=>h)
   have hkx:k < xs.length:=by omega
   obtain⟨tx,htx⟩:∃x,xs[k]?=some x:=⟨xs[k]'hkx,x4 hkx⟩;obtain⟨pr,hpr⟩:∃pr,(brL bs)[k]?=some pr:=⟨(brL bs)[k]'(by omega),x4 aH⟩;obtain⟨hrt,yb,zs,hyb,hrz,hkz⟩:=hx2 k tx pr htx hpr;obtain⟨hT,hRn,hdp⟩:=ihT pr (x8 hpr);have hJ:=hI;rw[bL3 hpr]at hJ;have hJL:=xAE List.length hJ;simp only[List.length_append,List.length_cons,List.length_nil]at hJL;refine zz7 ?_;refine aY 41 Y (fun h41=>?_) (fun h41=>?_)
   ·rw[x5 (show ¬k=0 by omega)]at hJ hJL;simp only[List.length_cons,List.length_nil]at hJL;refine zz7 ?_;refine aA (aX (k:=cC 159) (xs:=xs) (j:=k) iS Y (.known hkt) Y Y hkx) Y ?_;refine aA (cE (o:=0) (k:=cC 159) (xs:=xs) (u:=tx) ts159 Y (.known hkt) htx Y) Y ?_;refine cN Y Y (hT d K tx aH hrt) Y (zz5 ?_);refine aA (eJ Y Y gC2) Y (zz1 ?_);refine aA (eJ Y Y gC2) Y (zz3 ?_)
    first
     |exact a8 (acc++[32,101,108,115,101],ob,yb,zs) ⟨by rw[←hJ];simp only[List.append_assoc],hyb,hRn,hdp,hrz,hkz⟩ (.cons 0 Y (.cons 1 Y (.cons 5 Y (.cons 6 Y .nil)))) Y (fun _ h=>h)
     |exact a8 (_,pr.2,yb,zs) ⟨by rw[←hJ];simp only[List.append_assoc],hyb,hRn,hdp,hrz,hkz⟩ (.cons 0 Y (.cons 1 Y (.cons 5 Y (.cons 6 Y .nil)))) Y (fun _ h=>h)
   rw[x7 (show k=0 by omega)]at hJ hJL;simp only[List.length_cons,List.length_nil]at hJL;refine zz7 ?_;refine aA (aX (k:=cC 159) (xs:=xs) (j:=k) iS Y (.known hkt) Y Y hkx) Y ?_;refine aA (cE (o:=0) (k:=cC 159) (xs:=xs) (u:=tx) ts159 Y (.known hkt) htx Y) Y ?_;refine cN Y Y (hT d K tx aH hrt) Y (zz5 ?_);refine aA (eJ Y Y gC2) Y (zz1 ?_);refine aA (eJ Y Y gC2) Y (zz3 ?_)
   first
    |exact a8 (acc++[32,101,108,115,101],ob,yb,zs) ⟨by rw[←hJ];simp only[List.append_assoc],hyb,hRn,hdp,hrz,hkz⟩ (.cons 0 Y (.cons 1 Y (.cons 5 Y (.cons 6 Y .nil)))) Y (fun _ h=>h)
    |exact a8 (_,pr.2,yb,zs) ⟨by rw[←hJ];simp only[List.append_assoc],hyb,hRn,hdp,hrz,hkz⟩ (.cons 0 Y (.cons 1 Y (.cons 5 Y (.cons 6 Y .nil)))) Y (fun _ h=>h)
  intro ⟨a2,bd,yb,zs⟩ ⟨hE,hyb,hRn,hdp,hrz,hkz⟩;simp only at hE hyb hRn hdp hrz hkz;have hEL:=xAE List.length hE;simp only[bdT,List.length_append,List.length_cons,List.length_nil]at hEL;refine zz7 ?_;refine aA (aX (k:=cC 103) (xs:=ys) (j:=k) rH Y (.known hkb) Y Y (xAG.1 hyb).1) Y ?_;refine aA (cE (o:=0) (k:=cC 103) (xs:=ys) (u:=yb) ts103 Y (.known hkb) hyb Y) Y (zz1 ?_);refine aA (eJ Y Y gC2) Y ?_;refine cN Y Y (hRn.call aH hkz hrz) Y (zz5 ?_);refine aA (eJ Y Y gC2) Y (zz1 ?_);refine aA (eJ Y Y gC2) Y (zz1 ?_);refine aA (eJ Y Y gC2) Y ?_;refine aA (eJ Y Y gC2) Y (zz9 ?_);exact cW (k+1) _ ⟨by omega,by rw[←hE];simp only[bdT,List.append_assoc]⟩ aH (.cons 0 Y (.cons 1 Y (.cons 5 Y (.cons 6 Y .nil)))) Y (fun _ h=>h)
 have hI2:acc=brE d (brO bs) (brL bs) true:=(by rw[bHY (by cases ho:brO bs with|none=>rw[ho]at hx3;have h3:ys.length=xs.length:=hx3;exact .inl ⟨by omega,rfl⟩|some ob=>rw[ho]at hx3;have h3:=hx3.1;exact .inr aH),xAL]at hI;exact hI);have haL:=xAE List.length hI2;refine zz8 ?_;refine aA (eJ Y Y gC2) Y (zz4 ?_);refine uAf ?_;refine zz1 ?_;rw[hI2];exact⟨Y,Y,Y⟩
end Go.Proofs
end
section
attribute [local irreducible] Go.SL.T Go.SL.OL Go.SL.D Go.SL.DL Go.SL.Ev Go.SL.Ef Go.SL.EfS
set_option maxRecDepth 4000
namespace Go.Proofs
open Go Go.SL Go.Syn
def PSp(K:Hl)(v:Value)(t:Tree)(d:Nat):Prop:=∃ty u f,v=.iface ty u∧(∀w,(Go.method (x3.types.size+Made.depth) ty u "mailsieve/syntax.print").run x3 w=.ok (f,u) w)∧
 ∀(b:Nat) (xs:aP) (K':Hl),K.le K'→xs.length+(prn t d true).length≤100000000000→Sp x3 f [u,ptr b] K' [pbl b d xs] (Ret fun q K'' L'=>q=.tuple #[]∧L'=[pbl b d (xs++prn t d true)])
def aYP(u:Value)(w:World):(Go.method (x3.types.size+Made.depth) 258 u "mailsieve/syntax.print").run x3 w=.ok (326,u) w:=cY
def aYQ(u:Value)(w:World):(Go.method (x3.types.size+Made.depth) 261 u "mailsieve/syntax.print").run x3 w=.ok (327,u) w:=cY
def aYR(u:Value)(w:World):(Go.method (x3.types.size+Made.depth) 265 u "mailsieve/syntax.print").run x3 w=.ok (328,u) w:=cY
def aYS(u:Value)(w:World):(Go.method (x3.types.size+Made.depth) 269 u "mailsieve/syntax.print").run x3 w=.ok (331,u) w:=cY
def aYT(u:Value)(w:World):(Go.method (x3.types.size+Made.depth) 273 u "mailsieve/syntax.print").run x3 w=.ok (332,u) w:=cY
def aYU(u:Value)(w:World):(Go.method (x3.types.size+Made.depth) 276 u "mailsieve/syntax.print").run x3 w=.ok (333,u) w:=cY
def aYV(u:Value)(w:World):(Go.method (x3.types.size+Made.depth) 284 u "mailsieve/syntax.print").run x3 w=.ok (334,u) w:=cY
def aYW(u:Value)(w:World):(Go.method (x3.types.size+Made.depth) 287 u "mailsieve/syntax.print").run x3 w=.ok (335,u) w:=cY
def aYX(u:Value)(w:World):(Go.method (x3.types.size+Made.depth) 329 u "mailsieve/syntax.print").run x3 w=.ok (336,u) w:=cY
def aYY(u:Value)(w:World):(Go.method (x3.types.size+Made.depth) 333 u "mailsieve/syntax.print").run x3 w=.ok (337,u) w:=cY
def bDB(v:Bool)(K:Hl):Sp x3 329 [.bool v] K [] (Val (str (if v=true then j6 else iB)) K):=by
 have s5:∀K,Sp x3 330 [.bool v] K [] (Val (str (if v=true then j6 else iB)) K):=by
  intro K;refine bN Tryz.func330 Y Tryz.ntmps330 Y Y fun F w=>?_;refine zz11 ?_;refine d9 3 Y (fun h3=>?_) (fun h3=>?_)
  ·refine zz8 ?_;rw[x7 h3];exact⟨Y,Y,Y⟩
  refine zz9 ?_;rw[x5 (by rw[h3];simp)];exact⟨Y,Y,Y⟩
 refine bN Tryz.func329 Y Tryz.ntmps329 Y Y fun F w=>?_;refine zz8 ?_;refine cN Y Y (s5 _) Y (zz5 ?_);exact⟨Y,Y,Y⟩
def bEU(K:Hl)(v:Bool)(d:Nat):PSp K (.iface 265 (.bool v)) (.const v) d:=by
 refine⟨_,_,_,Y,aYR _,fun b xs K' le hx=>?_⟩
 simp only[prn]at hx ⊢;refine bN Tryz.func328 Y Tryz.ntmps328 Y Y fun F w=>?_;refine zz3 ?_;refine cN Y Y (bDB v _) Y ?_;refine cJ (bM (z0:=[(str [])]) cB tz9 Y Y Y Y dF) Y ?_;rintro _ K _ ⟨b7,rfl,rfl,rfl⟩ -;refine bA Y Y (iI b b7 1 d xs [if v=true then j6 else iB] _ _ _ Y Y (by simp only[List.flatten_cons,List.flatten_nil,List.append_nil];simp only[j6,iB];omega) (by simp)) bS Y ?_;rintro _ K2 _ ⟨rfl,rfl⟩ le2;refine aG ?_;refine dK Y le2 ?_;exact⟨_,Y,Y,by simp[j6,iB]⟩
def bEW(K:Hl)(op:Int)(d:Nat):PSp K (.iface 261 (.agg #[i64 op])) (.plain op) d:=by
 refine⟨_,_,_,Y,aYQ _,fun b xs K' le hx=>?_⟩
 simp only[prn]at hx ⊢;refine bN Tryz.func327 Y Tryz.ntmps327 Y Y fun F w=>?_;refine zz3 ?_;rintro _ K _ ⟨b2,rfl,rfl,rfl⟩ -;refine zz9 ?_;refine aY 6 Y (fun h6=>?_) (fun h6=>?_)
 ·refine zz2 ?_;refine cJ (bM (z0:=[(str [])]) cB tz9 Y Y Y Y dF) Y ?_;rintro _ K _ ⟨b8,rfl,rfl,rfl⟩ -;refine bA Y Y (iI b b8 1 d xs [[115,116,111,112,59]] _ _ _ Y Y gC7 (by simp)) bS Y ?_;rintro _ K2 _ ⟨rfl,rfl⟩ le2;refine aG ?_;refine uAa ?_;refine dK Y le2 ?_;exact⟨_,Y,Y,by rw[x7 h6];simp⟩
 refine zz2 ?_;refine cJ (bM (z0:=[(str [])]) cB tz9 Y Y Y Y dF) Y ?_;rintro _ K _ ⟨b11,rfl,rfl,rfl⟩ -;refine bA Y Y (iI b b11 1 d xs [[100,105,115,99,97,114,100,59]] _ _ _ Y Y gC7 (by simp)) bS Y ?_;rintro _ K2 _ ⟨rfl,rfl⟩ le2;refine aG ?_;refine uAa ?_;refine dK Y le2 ?_;exact⟨_,Y,Y,by rw[x5 h6];simp⟩
def bMM(K:Hl)(va:Value)(a:List aP)(d:Nat)(ha:Ksl (a7 9) K va a)(hx1:∀x∈a,x.length≤1000)(hl1:a.length≤100000):PSp K (.iface 273 (.agg #[va])) (.exi a) d:=by
 refine⟨_,_,_,Y,aYT _,fun b xs K' le hx=>?_⟩
 have ha:=ha.mono le;simp only[prn,List.length_append]at hx ⊢;obtain⟨sa,sn,sc,rfl⟩:=ha.isSlice;refine bN Tryz.func332 Y Tryz.ntmps332 Y Y fun F w=>?_;refine zz3 ?_;rintro _ K _ ⟨b2,rfl,rfl,rfl⟩ -;refine zz6 ?_;refine bA Y Y (aCG _ a _ ha hx1 hl1) .nil Y ?_;rintro _ K1 _ ⟨rfl,rfl⟩ le1;refine cJ (bM (z0:=[(str []),(str [])]) cB tz9 Y Y Y Y dF) Y ?_;rintro _ K _ ⟨b8,rfl,rfl,rfl⟩ -;refine bA Y Y (iI b b8 2 d xs [[101,120,105,115,116,115,32],pQ a] _ _ _ Y Y (by simp at hx ⊢;omega) (by simp)) bS Y ?_;rintro _ K2 _ ⟨rfl,rfl⟩ le2;refine aG ?_;refine uAa ?_;refine dK Y (x6 le1 le2) ?_;exact⟨_,Y,Y,by simp⟩
def bML(K:Hl)(k:Int)(a:aP)(p:Int)(d:Nat)(hk:1≤k∧k≤4)(ha:a.length≤1000):PSp K (.iface 258 (.agg #[i64 k,str a,i64 p])) (.act k a p) d:=by
 refine⟨_,_,_,Y,aYP _,fun b xs K' le hx=>?_⟩
 have hq:=nR a;refine bN Tryz.func326 Y Tryz.ntmps326 Y Y fun F w=>?_;refine zz3 ?_;rintro _ K _ ⟨b2,rfl,rfl,rfl⟩ -;refine zz2 ?_;refine dX (fun(K2:Hl)=>K.le K2∧k≠1) (fun _=>[(1,ptr b),(2,ptr b2)]) (fun K2=>K2) (fun _=>[pt b2 (bL [i64 k,str a,i64 p] 258),pbl b d (xs++vN k)]) ?_ ?_
 ·refine zz13 ?_;refine aY 6 Y (fun h6=>?_) (fun h6=>?_)
  ·refine zz3 ?_;refine cJ (bM (z0:=[(str [])]) cB tz9 Y Y Y Y (.cons Y Y Y (.cons .nil) .nil)) Y ?_;rintro _ K _ ⟨b9,rfl,rfl,rfl⟩ -;refine bA Y Y (iI b b9 1 d xs [[107,101,101,112,59]] _ _ _ Y Y gC7 (by simp)) (.cons .here (.cons (.there .here) .nil)) Y ?_;rintro _ K2 _ ⟨rfl,rfl⟩ le2;refine zz5 ?_;refine uBa ?_;refine jZ Y (by first|exact le2|exact x6 le2 (x6 le3 le4)) ?_;exact⟨_,Y,Y,by simp only[prn,if_pos h6];simp⟩
  refine zz6 ?_;refine aY 11 Y (fun h11=>?_) (fun h11=>?_)
  ·refine zz2 ?_;refine cJ (bM (z0:=[(str [])]) cB tz9 Y Y Y Y (.cons Y Y Y (.cons .nil) .nil)) Y ?_;rintro _ K _ ⟨b14,rfl,rfl,rfl⟩ -;refine bA Y Y (iI b b14 1 d xs [[102,105,108,101,105,110,116,111,32]] _ _ _ Y Y gC7 (by simp)) (.cons .here (.cons (.there .here) .nil)) Y ?_;rintro _ K2 _ ⟨rfl,rfl⟩ le2;refine zz2 ?_
   first
    |exact gBE
    |exact gBD
    |exact gBC
    |(exfalso;omega)
  refine zz6 ?_;refine aY 16 Y (fun h16=>?_) (fun h16=>?_)
  ·refine zz2 ?_;refine cJ (bM (z0:=[(str [])]) cB tz9 Y Y Y Y (.cons Y Y Y (.cons .nil) .nil)) Y ?_;rintro _ K _ ⟨b19,rfl,rfl,rfl⟩ -;refine bA Y Y (iI b b19 1 d xs [[114,101,100,105,114,101,99,116,32]] _ _ _ Y Y gC7 (by simp)) (.cons .here (.cons (.there .here) .nil)) Y ?_;rintro _ K2 _ ⟨rfl,rfl⟩ le2;refine zz2 ?_
   first
    |exact gBE
    |exact gBD
    |exact gBC
    |(exfalso;omega)
  refine zz6 ?_;refine aY 21 Y (fun h21=>?_) (fun h21=>?_)
  ·refine zz2 ?_;refine cJ (bM (z0:=[(str [])]) cB tz9 Y Y Y Y (.cons Y Y Y (.cons .nil) .nil)) Y ?_;rintro _ K _ ⟨b24,rfl,rfl,rfl⟩ -;refine bA Y Y (iI b b24 1 d xs [[114,101,106,101,99,116,32]] _ _ _ Y Y gC7 (by simp)) (.cons .here (.cons (.there .here) .nil)) Y ?_;rintro _ K2 _ ⟨rfl,rfl⟩ le2;refine zz2 ?_
   first
    |exact gBE
    |exact gBD
    |exact gBC
    |(exfalso;omega)
  refine zz2 ?_
  first
   |exact gBE
   |exact gBD
   |exact gBC
   |(exfalso;omega)
 intro K2 ⟨le2,hk1⟩;refine aC ?_;have han:(vN k).length≤9:=(by unfold vN;split;decide;split;decide;split <;> decide);have hxl:xs.length≤100000000000:=aH;refine zz3 ?_;refine bA Y Y (aCI a _ aH) .nil Y ?_;rintro _ K3 _ ⟨rfl,rfl⟩ le3;refine cJ (bM (z0:=[(str []),(str [])]) cB tz9 Y Y Y Y (.cons Y Y Y (.cons .nil) (.cons Y Y Y (.skip (.cons .nil)) .nil))) Y ?_;rintro _ K _ ⟨b30,rfl,rfl,rfl⟩ -;refine bA Y Y (iI b b30 2 d _ [iE a,[59]] _ _ _ Y Y (by simp at*;omega) (by simp)) (.cons .here (.cons (.there .here) .nil)) Y ?_;rintro _ K4 _ ⟨rfl,rfl⟩ le4;refine aG ?_;refine uBa ?_;refine dK Y (by first|exact le2|exact x6 le2 (x6 le3 le4)) ?_;exact⟨_,Y,Y,by simp only[prn,if_neg hk1];simp⟩
end Go.Proofs
end
section
attribute [local irreducible] Go.SL.T Go.SL.OL Go.SL.D Go.SL.DL Go.SL.Ev Go.SL.Ef Go.SL.EfS
set_option maxRecDepth 4000
namespace Go.Proofs
open Go Go.SL Go.Syn
def aM8:List aP:=[[],[111,118,101,114],[117,110,100,101,114]]
def aUD{t:Int}(h:t=1∨t=2):aM8[t.toNat]?=some (tF t):=by rcases h with rfl|rfl <;> rfl
def aWG:List aP:=[[],[32,58,108,111,119,101,114],[32,58,117,112,112,101,114],[32,58,108,101,110,103,116,104]]
def bAG{t:Int}(h:0≤t∧t≤3):aWG[t.toNat]?=some (nV t):=by
 have:t=0∨t=1∨t=2∨t=3:=by omega
 rcases this with rfl|rfl|rfl|rfl <;> rfl
def aWL:List aP:=[[],[],[32,58,99,111,110,116,97,105,110,115],[32,58,109,97,116,99,104,101,115]]
def bAV{t:Int}(h:1≤t∧t≤3):aWL[t.toNat]?=some (zJ t):=by
 have:t=1∨t=2∨t=3:=by omega
 rcases this with rfl|rfl|rfl <;> rfl
def bMQ(K:Hl)(tag n:Int)(d:Nat)(hg:Glob K)(ht:tag=1∨tag=2)(hn:0≤n∧n≤2147483647):PSp K (.iface 276 (.agg #[i64 tag,i64 n])) (.siz tag n) d:=by
 refine⟨_,_,_,Y,aYU _,fun b xs K' le hx=>?_⟩
 have hg:=hg.mono le;have hnm:=aUD ht;have hsl:aM8.length=3:=rfl;simp only[prn,List.length_append]at hx ⊢;refine bN Tryz.func333 Y Tryz.ntmps333 Y Y fun F w=>?_;refine zz3 ?_;rintro _ K _ ⟨b2,rfl,rfl,rfl⟩ -;refine zz2 ?_;refine cZ (anc:=[0,0,0,4,14,30,0,64,192,510,1023]) (ord:=[0,2,3,6,7,8,1,4,5,9,10]) [1,9,10] [10] mixed gC5 (aM bW bF) (zz5 ?_);refine wZ Y (.none Y) Y Y Y Y (fun K1 le1=>(aJ5 n aH aH _ (hg.mono le1))) Y ?_;refine uK Y Y (.none Y) Y Y (aDA (f:=fun b=>.slice (some ⟨b,0,none⟩) 3 3) (bM (z0:=[(str []),(str []),(str [])]) cB tz9 Y Y Y Y dF) (fun _ _ _ h=>h)) Y ?_;rintro _ K5 _ ⟨b5,rfl,hb5,rfl⟩ le5;refine⟨_,(show Tks _ _ _ from (aM bW bF)).sat,?_⟩
 refine aJ Y Y (.none Y) Y Y (aX (k:=a7 9) (xs:=aM8) (j:=tag.toNat) cB Y (.known (.inr ⟨b5,0,3,_,_,Y,⟨_,hb5⟩,Y⟩)) Y aH aH) Y ?_;refine aJ Y Y (.none Y) Y Y (cE (o:=0) (k:=a7 9) (xs:=aM8) (v:=.slice (some ⟨b5,0,none⟩) 3 3) ts9 Y (.known (.inr ⟨b5,0,3,_,_,Y,⟨_,hb5⟩,Y⟩)) hnm Y) Y ?_;refine uK Y Y (.none Y) Y Y (bM (z0:=[(str []),(str []),(str []),(str [])]) cB tz9 Y Y Y Y dF) Y ?_;rintro _ K _ ⟨b13,rfl,rfl,rfl⟩ -;refine⟨_,(show Tks _ _ _ from (aM cI bF)).sat,?_⟩
 refine eQ Y (.none Y) Y Y Y (iI b b13 4 d xs [[115,105,122,101,32,58],tF tag,[32],Lib.itoa n] _ _ _ Y Y (by simp at hx ⊢;omega) (by simp)) bS Y ?_;rintro _ K2 _ ⟨rfl,rfl⟩ le2;refine uBb ?_;refine dK Y (x6 le5 le2) ?_;exact⟨_,Y,Y,by simp⟩
def bMP(K:Hl)(n v:aP)(t:Int)(d:Nat)(ht:0≤t∧t≤3)(hn:n.length≤1000)(hv:v.length≤1000):PSp K (.iface 284 (.agg #[str n,str v,i64 t])) (.set_ n v t) d:=by
 refine⟨_,_,_,Y,aYV _,fun b xs K' le hx=>?_⟩
 have hnm:=bAG ht;have hsl:aWG.length=4:=rfl;simp only[prn,List.length_append]at hx ⊢;refine bN Tryz.func334 Y Tryz.ntmps334 Y Y fun F w=>?_;refine zz3 ?_;rintro _ K _ ⟨b2,rfl,rfl,rfl⟩ -;refine zz2 ?_;refine cZ (anc:=[0,0,0,4,14,30,0,64,192,0,512,1984,4094,8191]) (ord:=[0,2,3,6,7,8,9,10,11,1,4,5,12,13]) [1,12,13] [13] mixed gC5 (aM bW bF) (zz5 ?_);refine wZ Y (.none Y) Y Y Y Y (fun K1 le1=>(aNC (aCI n _ aH))) Y (zz2 ?_);refine wZ Y (.none Y) Y Y Y Y (fun K1 le1=>(aNC (aCI v _ aH))) Y ?_;refine uK Y Y (.none Y) Y Y (aDA (f:=fun b=>.slice (some ⟨b,0,none⟩) 4 4) (bM (z0:=[(str []),(str []),(str []),(str [])]) cB tz9 Y Y Y Y dF) (fun _ _ _ h=>h)) Y ?_;rintro _ K5 _ ⟨b5,rfl,hb5,rfl⟩ le5;refine⟨_,(show Tks _ _ _ from (aM bW bF)).sat,?_⟩
 refine aJ Y Y (.none Y) Y Y (aX (k:=a7 9) (xs:=aWG) (j:=t.toNat) cB Y (.known (.inr ⟨b5,0,4,_,_,Y,⟨_,hb5⟩,Y⟩)) Y aH aH) Y ?_;refine aJ Y Y (.none Y) Y Y (cE (o:=0) (k:=a7 9) (xs:=aWG) (v:=.slice (some ⟨b5,0,none⟩) 4 4) ts9 Y (.known (.inr ⟨b5,0,4,_,_,Y,⟨_,hb5⟩,Y⟩)) hnm Y) Y ?_;refine uK Y Y (.none Y) Y Y (bM (z0:=[(str []),(str []),(str []),(str []),(str []),(str []),(str [])]) cB tz9 Y Y Y Y dF) Y ?_;rintro _ K _ ⟨b16,rfl,rfl,rfl⟩ -;refine⟨_,(show Tks _ _ _ from (aM cI bF)).sat,?_⟩
 refine eQ Y (.none Y) Y Y Y (iI b b16 7 d xs [[115,101,116],nV t,[32],iE n,[32],iE v,[59]] _ _ _ Y Y (by simp at hx ⊢;omega) (by simp)) bS Y ?_;rintro _ K2 _ ⟨rfl,rfl⟩ le2;refine uBb ?_;refine dK Y (x6 le5 le2) ?_;exact⟨_,Y,Y,by simp⟩
def bMN(K:Hl)(tag:Int)(oct:Bool)(op:Int)(va vb:Value)(a c:List aP)(d:Nat)(ht:1≤tag∧tag≤3)(hop:op=6∨op=7∨op=8)(ha:Ksl (a7 9) K va a)(hb:Ksl (a7 9) K vb c)(hxa:∀x∈a,x.length≤1000)(hla:a.length≤100000)(hxb:∀x∈c,x.length≤1000)(hlb:c.length≤100000):
  PSp K (.iface 333 (.agg #[i64 tag,.bool oct,i64 op,va,vb])) (.mat tag oct op a c) d:=by
 refine⟨_,_,_,Y,aYY _,fun b xs K' le hx=>?_⟩
 have ha:=ha.mono le;have hb:=hb.mono le;obtain⟨sa,sn,sc,rfl⟩:=ha.isSlice;obtain⟨ta,tn,tc,rfl⟩:=hb.isSlice;have hnm:=bAV ht;have hsl:aWL.length=4:=rfl;simp only[prn,List.length_append]at hx ⊢;have hon:(xQ op).length≤8:=(by rcases hop with rfl|rfl|rfl <;> decide);refine bN Tryz.func337 Y Tryz.ntmps337 Y Y fun F w=>?_;refine zz3 ?_;rintro _ K _ ⟨b2,rfl,rfl,rfl⟩ -;refine zz5 ?_;refine cJ aT5 Y ?_;rintro _ K _ ⟨b5,rfl,rfl,rfl⟩ -;refine uBh ?_;refine cD (aDY Tryz.underlying435 Tryz.underlying3 Y Y Y ?_ bR) ?_
 ·rfl
 rintro _ K _ ⟨rfl,rfl⟩ -;refine uBh ?_;refine cD (aDY Tryz.underlying435 Tryz.underlying3 Y Y Y ?_ bR) ?_
 ·rfl
 rintro _ K _ ⟨rfl,rfl⟩ -;refine uBh ?_;refine cD (aDY Tryz.underlying435 Tryz.underlying3 Y Y Y ?_ bR) ?_
 ·rfl
 rintro _ K _ ⟨rfl,rfl⟩ -;refine zz3 ?_;refine aA (kK (v:=.agg #[.int .u8 0,str (xQ op),i64 0,i64 0]) (aOP (k:=op) Tryz.underlying435 Tryz.underlying3 tv207 Y Y (.own (.here))) (by rcases hop with rfl|rfl|rfl <;> rfl)) Y (zz1 ?_);refine cJ (bM (z0:=[(str [])]) cB tz9 Y Y Y Y (.cons Y Y Y (.cons .nil) .nil)) Y ?_;rintro _ K _ ⟨b14,rfl,rfl,rfl⟩ -;refine bA Y Y (iI b b14 1 d xs [xQ op] _ _ _ Y Y gC7 (by simp)) (.cons .here (.cons (.there (.there .here)) .nil)) Y ?_;rintro _ K2 _ ⟨rfl,rfl⟩ le2;refine zz2 ?_;refine dX (fun(K3:Hl)=>K2.le K3) (fun _=>[(1,ptr b),(2,ptr b2)]) (fun K3=>K3) (fun _=>[pt b2 (bL [i64 tag,.bool oct,i64 op,.slice sa sn sc,.slice ta tn tc] 333),pbl b d (xs++xQ op++(if oct=true then y9 else []))]) ?_ ?_
 ·refine zz7 ?_;refine d9 18 Y (fun h18=>?_) (fun h18=>?_)
  ·refine zz2 ?_;refine cJ (bM (z0:=[(str [])]) cB tz9 Y Y Y Y (.cons Y Y Y (.cons .nil) .nil)) Y ?_;rintro _ K _ ⟨b20,rfl,rfl,rfl⟩ -;refine bA Y Y (iI b b20 1 d _ [y9] _ _ _ Y Y (by simp only[List.flatten_cons,List.flatten_nil,List.append_nil,List.length_append];simp only[y9,List.length_cons,List.length_nil];omega) (by simp)) (.cons .here (.cons .here .nil)) Y ?_;rintro _ K3 _ ⟨rfl,rfl⟩ le3;refine aG ?_
   first
    |exact gB5
    |exact gB3
  refine aW ?_
  first
   |exact gB5
   |exact gB3
 intro K3 le3;refine cZ (anc:=[0,0,0,4,12,30,62,0,128,384,0,1024,3968,8190,16383]) (ord:=[0,2,3,4,7,8,9,10,11,12,1,5,6,13,14]) [1,13,14] [14] mixed gC5 (.cons .here .nil) (zz6 ?_);refine wZ Y (.none Y) Y Y Y Y (fun K1 le1=>(aNC (aCG _ a _ (ha.mono (x6 le2 (x6 le3 le1))) hxa hla))) Y (zz2 ?_);refine wZ Y (.none Y) Y Y Y Y (fun K1 le1=>(aNC (aCG _ c _ (hb.mono (x6 le2 (x6 le3 le1))) hxb hlb))) Y ?_;refine uK Y Y (.none Y) Y Y (aDA (f:=fun b=>.slice (some ⟨b,0,none⟩) 4 4) (bM (z0:=[(str []),(str []),(str []),(str [])]) cB tz9 Y Y Y Y (.cons Y Y Y (.cons .nil) (.cons Y Y Y (.skip (.cons .nil)) (.cons Y Y Y (.skip (.skip (.cons .nil))) (.cons Y Y Y (.skip (.skip (.skip (.cons .nil)))) .nil))))) (fun _ _ _ h=>h)) Y ?_;rintro _ K23 _ ⟨b23,rfl,hb23,rfl⟩ le23;refine⟨_,(show Tks _ _ _ from (.cons .here .nil)).sat,?_⟩
 refine aJ Y Y (.none Y) Y Y (aX (k:=a7 9) (xs:=aWL) (j:=tag.toNat) cB Y (.known (.inr ⟨b23,0,4,_,_,Y,⟨_,hb23⟩,Y⟩)) Y aH aH) Y ?_;refine aJ Y Y (.none Y) Y Y (cE (o:=0) (k:=a7 9) (xs:=aWL) (v:=.slice (some ⟨b23,0,none⟩) 4 4) ts9 Y (.known (.inr ⟨b23,0,4,_,_,Y,⟨_,hb23⟩,Y⟩)) hnm Y) Y ?_;refine uK Y Y (.none Y) Y Y (bM (z0:=[(str []),(str []),(str []),(str []),(str [])]) cB tz9 Y Y Y Y (.cons Y Y Y (.cons .nil) (.cons Y Y Y (.skip (.cons .nil)) (.cons Y Y Y (.skip (.skip (.cons .nil))) (.cons Y Y Y (.skip (.skip (.skip (.cons .nil)))) (.cons Y Y Y (.skip (.skip (.skip (.skip (.cons .nil))))) .nil)))))) Y ?_;rintro _ K _ ⟨b35,rfl,rfl,rfl⟩ -;refine⟨_,(show Tks _ _ _ from (.cons (.there .here) .nil)).sat,?_⟩
 refine eQ Y (.none Y) Y Y Y (iI b b35 5 d _ [zJ tag,[32],pQ a,[32],pQ c] _ _ _ Y Y (by simp only[List.flatten_cons,List.flatten_nil,List.append_nil,List.length_append,List.length_cons,List.length_nil]at hx ⊢;omega) (by simp)) (.cons (.there .here) (.cons (.there .here) .nil)) Y ?_;rintro _ K4 _ ⟨rfl,rfl⟩ le4;refine cL ?_;refine uBa ?_;refine dK Y (x6 le2 (x6 le3 (x6 le23 le4))) ?_;exact⟨_,Y,Y,by simp⟩
def bMO(K:Hl)(v:Value)(t:Tree)(d:Nat)(hv:PSp K v t d):PSp K (.iface 269 (.agg #[v])) (.not_ t) d:=by
 obtain⟨ty,u,f,rfl,hm,hs⟩:=hv;refine⟨_,_,_,Y,aYS _,fun b xs K' le hx=>?_⟩
 simp only[prn,List.length_append,List.length_cons,List.length_nil]at hx ⊢;refine bN Tryz.func331 Y Tryz.ntmps331 Y Y fun F w=>?_;refine zz3 ?_;rintro _ K _ ⟨b2,rfl,rfl,rfl⟩ -;refine zz5 ?_;refine cJ (bM (z0:=[(str [])]) cB tz9 Y Y Y Y dF) Y ?_;rintro _ K _ ⟨b5,rfl,rfl,rfl⟩ -;refine bA Y Y (iI b b5 1 d xs [[110,111,116,32]] _ _ _ Y Y gC7 (by simp)) bS Y ?_;rintro _ K2 _ ⟨rfl,rfl⟩ le2;refine zz6 ?_;refine oP Y Y hm (hs b _ _ (x6 le le2) gC7) (aM bW bF) Y ?_;rintro _ K3 _ ⟨rfl,rfl⟩ le3;refine aG ?_;refine uAa ?_;refine dK Y (x6 le2 le3) ?_;exact⟨_,Y,Y,by simp⟩
end Go.Proofs
end
section
attribute [local irreducible] Go.SL.T Go.SL.OL Go.SL.D Go.SL.DL Go.SL.Ev Go.SL.Ef Go.SL.EfS
set_option maxRecDepth 4000
namespace Go.Proofs
open Go Go.SL Go.Syn
def PSp.mono{K K':Hl}{v:Value}{t:Tree}{d:Nat}(h:PSp K v t d)(le:K.le K'):PSp K' v t d:=let ⟨ty,u,f,h1,h2,h3⟩:=h;⟨ty,u,f,h1,h2,fun b xs K2 le2=>h3 b xs K2 (x6 le le2)⟩
def BdS(K:Hl)(sv:Value)(t:Tree)(d:Nat):Prop:=∀(b:Nat) (xs:aP) (K':Hl),K.le K'→xs.length+(prn t d true).length≤100000000000→Sp x3 72 [ptr b,sv] K' [pbl b d xs] (Ret fun q K'' L'=>q=.tuple #[]∧L'=[pbl b d (xs++prn t d true)])
def PrA(K:Hl):Tree→Nat→List (Cell×Cell)→Prop
 | .tnil,_,us=>us=[]
 | .tcons t l,d,us=>∃v xs,us=(v,u0)::xs∧PSp K v.1 t d∧PrA K l d xs
 | .cnil,_,us=>us=[]
 | .ccons t l,d,us=>∃v xs,us=(v,u0)::xs∧PSp K v.1 t d∧PrA K l d xs
 | .bnil,_,us=>us=[]
 | .bcons t b l,d,us=>∃v sv xs,us=(v,sv)::xs∧(PSp K v.1 t d)∧BdS K sv.1 b (d+1)∧PrA K l d xs
 | .belse b l,d,us=>∃sv xs,us=(⟨.nilIface,rfl⟩,sv)::xs∧BdS K sv.1 b (d+1)∧PrA K l d xs
 |t,d,us=>∃v,us=[(v,u0)]∧PSp K v.1 t d
def BdS.mono{K K':Hl}{v:Value}{t:Tree}{d:Nat}(h:BdS K v t d)(le:K.le K'):BdS K' v t d:=fun b xs K2 le2=>h b xs K2 (x6 le le2)
def PrA.mono{K K':Hl}(le:K.le K'):∀ {t:Tree} {d:Nat} {us:List (Cell×Cell)},PrA K t d us→PrA K' t d us:=by
 intro t;induction t with
 |tcons t l ih1 ih2=>rintro d us ⟨v,xs,e,h1,h2⟩;exact⟨v,xs,e,h1.mono le,ih2 h2⟩
 |ccons t l ih1 ih2=>rintro d us ⟨v,xs,e,h1,h2⟩;exact⟨v,xs,e,h1.mono le,ih2 h2⟩
 |bcons t b l ih1 ih2 ih3=>rintro d us ⟨v,sv,xs,e,h1,h2,h3⟩;exact⟨v,sv,xs,e,h1.mono le,h2.mono le,ih3 h3⟩
 |belse b l ih1 ih2=>rintro d us ⟨sv,xs,e,h2,h3⟩;exact⟨sv,xs,e,h2.mono le,ih2 h3⟩
 |tnil=>intro d us h;exact h
 |cnil=>intro d us h;exact h
 |bnil=>intro d us h;exact h
 |_=>rintro d us ⟨v,e,h1⟩;exact⟨v,e,h1.mono le⟩
def sepB(i:Nat):aP:=if isz i=true then []else [44,32]
def bOS{K:Hl}{rest:Tree}{d i:Nat}{us:List (Cell×Cell)}(hw:wf rest 1=true)(h:PrA K rest d (us.drop i))(hi:i < us.length):∃t l v,rest=.tcons t l∧(us.map (·.1))[i]?=some v∧PSp K v.1 t d∧PrA K l d (us.drop (i+1))∧wf l 1=true∧
  prn rest d (isz i)=sepB i++prn t d true++prn l d false:=by
 have hd:us.drop i=us[i]::us.drop (i+1):=xAR hi;cases rest <;> simp only[wf]at hw <;> try (simp at hw;done)
 case tnil=>rw[hd]at h;cases h
 case tcons t l=>
  obtain⟨v,xs,e,h1,h2⟩:=h;rw[hd]at e
  injection e with e1 e2
  subst e2;simp at hw;refine⟨t,l,v,Y,by simp[List.getElem?_eq_getElem hi,e1],h1,h2,hw.2,?_⟩
  simp only[prn,sepB]
def bEZ{K:Hl}{rest:Tree}{d i:Nat}{us:List (Cell×Cell)}(hw:wf rest 1=true)(h:PrA K rest d (us.drop i))(hi:us.length≤i)(f:Bool):prn rest d f=[]:=by
 rw[xAU hi]at h;cases rest <;> simp only[wf]at hw <;> try (simp at hw;done)
 case tnil=>rfl
 case tcons t l=>obtain⟨v,xs,e,_⟩:=h;cases e
def bI4(K:Hl)(all:Bool)(l:Tree)(xs0:List (Cell×Cell))(sv:Value)(d:Nat)(hp:PrA K l d xs0)(hw:wf l 1=true)(hs:Ksl (cC 264) K sv (xs0.map (·.1)))(hxl:xs0.length≤1000000):PSp K (.iface 329 (.agg #[.bool all,sv])) (.many all l) d:=by
 refine⟨_,_,_,Y,aYX _,fun b xs K' le hx=>?_⟩
 have hs:=hs.mono le;have hp:=hp.mono le;obtain⟨sa,sn,sc,rfl⟩:=hs.isSlice;have hml:(xs0.map (·.1)).length=xs0.length:=xAS ..;simp only[prn,List.length_append,List.length_cons,List.length_nil]at hx ⊢;have hh:(if all=true then [97,108,108,111,102,32,40]else [97,110,121,111,102,32,40]:aP).length=7:=by split <;> rfl
 refine bN Tryz.func336 Y Tryz.ntmps336 Y Y fun F w=>?_;refine zz3 ?_;rintro _ K _ ⟨b2,rfl,rfl,rfl⟩ -;refine zz2 ?_;refine dX (fun(K3:Hl)=>K.le K3) (fun _=>[(1,ptr b),(2,ptr b2)]) (fun K3=>K3) (fun _=>[pt b2 (bL [.bool all,.slice sa sn sc] 329),pbl b d (xs++(if all=true then [97,108,108,111,102,32,40]else [97,110,121,111,102,32,40]))]) ?_ ?_
 ·refine zz6 ?_;refine d9 7 Y (fun h7=>?_) (fun h7=>?_)
  ·refine zz2 ?_;refine cJ (bM (z0:=[(str [])]) cB tz9 Y Y Y Y (.cons Y Y Y (.cons .nil) .nil)) Y ?_;rintro _ K _ ⟨b9,rfl,rfl,rfl⟩ -;refine bA Y Y (iI b b9 1 d _ [[97,108,108,111,102,32,40]] _ _ _ Y Y gC7 (by simp)) (.cons .here (.cons (.there .here) .nil)) Y ?_;rintro _ K2 _ ⟨rfl,rfl⟩ le2;refine aG ?_;refine aQ (.cons (.there .here) (.cons .here .nil)) ?_
   first
    |exact a8 _ le2 (.cons 1 Y (.cons 2 Y .nil)) Y gFR
    |exact a8 _ le2 (.cons 1 Y (.cons 2 Y .nil)) Y gFH
  refine zz2 ?_;refine cJ (bM (z0:=[(str [])]) cB tz9 Y Y Y Y (.cons Y Y Y (.cons .nil) .nil)) Y ?_;rintro _ K _ ⟨b12,rfl,rfl,rfl⟩ -;refine bA Y Y (iI b b12 1 d _ [[97,110,121,111,102,32,40]] _ _ _ Y Y gC7 (by simp)) (.cons .here (.cons (.there .here) .nil)) Y ?_;rintro _ K2 _ ⟨rfl,rfl⟩ le2;refine aG ?_;refine aQ (.cons (.there .here) (.cons .here .nil)) ?_
  first
   |exact a8 _ le2 (.cons 1 Y (.cons 2 Y .nil)) Y gFR
   |exact a8 _ le2 (.cons 1 Y (.cons 2 Y .nil)) Y gFH
 intro K3 le3;have hs:=hs.mono le3;have hp:=hp.mono le3;refine zz5 ?_;refine aA (bU (k:=cC 264) Y Tryz.underlying327 Y (.known hs)) Y (zz4 ?_);refine nZ (fun(K4:Hl) (i:Nat) (rest:Tree) (acc:aP)=>K3.le K4∧i≤xs0.length∧(wf rest 1=true∧PrA K4 rest d (xs0.drop i))∧acc++prn rest d (isz i)=xs++(if all=true then [97,108,108,111,102,32,40]else [97,110,121,111,102,32,40])++prn l d true) (fun _ i _ _=>[(1,ptr b),(2,ptr b2),(15,.slice sa sn sc),(16,i64 (xs0.map (·.1)).length),(17,i64 i)]) (fun K4 _ _ _=>K4) (fun _ _ _ acc=>[pt b2 (bL [.bool all,.slice sa sn sc] 329),pbl b d acc]) (fun _ i _ _=>xs0.length - i) _ 0 l _ ⟨xAB _,x9 _,⟨hw,hp⟩,Y⟩ (.cons 1 Y (.cons 2 Y (.cons 15 Y (.cons 16 Y (.cons 17 Y .nil))))) Y (fun _ h=>h) ?_;intro K4 i rest acc ⟨le4,hi,⟨hwr,hpr⟩,htx⟩;have hs4:=hs.mono le4;refine zz6 ?_;refine aY 18 Y (fun h18=>?_) (fun h18=>?_)
 ·have hlt:i < xs0.length:=aH;obtain⟨t2,l2,v2,rfl,hv2,⟨ty2,u2,f2,hve,hm2,hps⟩,hpl,hwl,hpn⟩:=bOS hwr hpr hlt;have htl:=xAE List.length htx;rw[hpn]at htl;simp only[List.length_append,hh]at htl;refine zz7 ?_;refine aA (aX (k:=cC 264) (j:=i) uE Y (.known hs4) Y Y aH) Y ?_;refine aA (kK (v:=.iface ty2 u2) (cE (o:=0) (k:=cC 264) yK Y (.known hs4) hv2 Y) hve) Y (zz4 ?_);refine dX (fun(K5:Hl)=>K4.le K5) (fun _=>[(1,ptr b),(2,ptr b2),(5,.iface ty2 u2),(15,.slice sa sn sc),(16,i64 (xs0.map (·.1)).length),(17,i64 i)]) (fun K5=>K5) (fun _=>[pt b2 (bL [.bool all,.slice sa sn sc] 329),pbl b d (acc++sepB i)]) ?_ ?_
  ·refine zz6 ?_;refine aY 23 Y (fun h23=>?_) (fun h23=>?_)
   ·refine zz2 ?_;refine cJ (bM (z0:=[(str [])]) cB tz9 Y Y Y Y (.cons Y Y Y (.cons .nil) .nil)) Y ?_;rintro _ K _ ⟨b25,rfl,rfl,rfl⟩ -;refine bA Y Y (iI b b25 1 d _ [[44,32]] _ _ _ Y Y gC7 (by simp)) (.cons .here (.cons (.there .here) .nil)) Y ?_;rintro _ K25 _ ⟨rfl,rfl⟩ le25;refine aG ?_
    first
     |exact gBT
     |exact a8 _ (xAB _) (.cons 1 Y (.cons 2 Y (.cons 5 Y (.cons 15 Y (.cons 16 Y (.cons 17 Y .nil)))))) Y gF0
   refine aW ?_
   first
    |exact gBT
    |exact a8 _ (xAB _) (.cons 1 Y (.cons 2 Y (.cons 5 Y (.cons 15 Y (.cons 16 Y (.cons 17 Y .nil)))))) Y gF0
  intro K5 le5;refine zz3 ?_;refine oP Y Y hm2 (hps b _ _ le5 gES) (.cons (.there .here) .nil) Y ?_;rintro _ K6 _ ⟨rfl,rfl⟩ le6;refine zz7 ?_;refine aQ (.cons (.there .here) (.cons .here .nil)) ?_;exact fH _ (i+1) l2 _ ⟨x6 le4 (x6 le5 le6),by omega,⟨hwl,hpl.mono (x6 le5 le6)⟩,by rw[←htx,hpn];simp only[List.append_assoc];rfl⟩ aH (.cons 1 Y (.cons 2 Y (.cons 15 Y (.cons 16 Y (.cons 17 Y .nil))))) Y (fun _ h=>h)
 have hie:i=xs0.length:=aH;subst hie;rw[bEZ hwr hpr (xAA _),xAL]at htx;subst htx;refine zz7 ?_;refine cJ (bM (z0:=[(str [])]) cB tz9 Y Y Y Y (.cons Y Y Y (.cons .nil) .nil)) Y ?_;rintro _ K _ ⟨b32,rfl,rfl,rfl⟩ -;refine bA Y Y (iI b b32 1 d _ [[41]] _ _ _ Y Y (by simp only[List.length_append,hh,List.flatten_cons,List.flatten_nil,List.append_nil,List.length_cons,List.length_nil];omega) (by simp)) (.cons .here (.cons (.there .here) .nil)) Y ?_;rintro _ K7 _ ⟨rfl,rfl⟩ le7;refine aG ?_;refine uBa ?_;refine dK Y (x6 le3 (x6 le4 le7)) ?_;exact⟨_,Y,Y,by simp[List.append_assoc]⟩
def bOR{K:Hl}{rest:Tree}{d i:Nat}{us:List (Cell×Cell)}(hw:wf rest 3=true)(h:PrA K rest d (us.drop i))(hi:i < us.length):∃t l v,rest=.ccons t l∧(us.map (·.1))[i]?=some v∧PSp K v.1 t d∧PrA K l d (us.drop (i+1))∧wf l 3=true:=by
 have hd:us.drop i=us[i]::us.drop (i+1):=xAR hi;cases rest <;> simp only[wf]at hw <;> try (simp at hw;done)
 case cnil=>rw[hd]at h;cases h
 case ccons t l=>
  obtain⟨v,xs,e,h1,h2⟩:=h;rw[hd]at e
  injection e with e1 e2
  subst e2;simp at hw;exact⟨t,l,v,Y,by simp[List.getElem?_eq_getElem hi,e1],h1,h2,hw.2⟩
def bEY{K:Hl}{rest:Tree}{d i:Nat}{us:List (Cell×Cell)}(hw:wf rest 3=true)(h:PrA K rest d (us.drop i))(hi:us.length≤i):prn rest d true=[]:=by
 rw[xAU hi]at h;cases rest <;> simp only[wf]at hw <;> try (simp at hw;done)
 case cnil=>rfl
 case ccons t l=>obtain⟨v,xs,e,_⟩:=h;cases e
def aCE(b:Nat)(dp:Int)(q:Bool)(v:Value)(xs:aP){L:List Asn}:∀h,Sat (aPT b dp q v::sl true (elB 5) v xs::L) h→Sat (pbl b dp xs::L) h:=fun h hh=>oL.2 ⟨v,oL.2 ⟨q,hh⟩⟩
def aMV(K:Hl)(l:Tree)(xs0:List (Cell×Cell))(sv:Value)(d:Nat)(hp:PrA K l d xs0)(hw:wf l 3=true)(hs:Ksl (cC 198) K sv (xs0.map (·.1)))(hxl:xs0.length≤1000000)(hd:d≤64):BdS K sv l d:=by
 intro b xs K' le hx;have hs:=hs.mono le;have hp:=hp.mono le;have hml:(xs0.map (·.1)).length=xs0.length:=xAS ..;refine bN Tryz.func72 Y Tryz.ntmps72 Y Y fun F w=>?_;refine zz3 ?_;refine aA (bU (k:=cC 198) Y Tryz.underlying147 Y (.known hs)) Y (zz4 ?_);refine nZ (fun(K4:Hl) (i:Nat) (rest:Tree) (acc:aP)=>K'.le K4∧i≤xs0.length∧(wf rest 3=true∧PrA K4 rest d (xs0.drop i))∧acc++prn rest d true=xs++prn l d true) (fun _ i _ _=>[(0,ptr b),(6,sv),(7,i64 (xs0.map (·.1)).length),(8,i64 i)]) (fun K4 _ _ _=>K4) (fun _ _ _ acc=>[pbl b d acc]) (fun _ i _ _=>xs0.length - i) _ 0 l _ ⟨xAB _,x9 _,⟨hw,hp⟩,Y⟩ (.cons 0 Y (.cons 6 Y (.cons 7 Y (.cons 8 Y .nil)))) Y (fun _ h=>h) ?_;intro K4 i rest acc ⟨le4,hi,⟨hwr,hpr⟩,htx⟩;have hs4:=hs.mono le4;refine zz6 ?_;refine aY 9 Y (fun h9=>?_) (fun h9=>?_)
 ·have hlt:i < xs0.length:=aH;obtain⟨t2,l2,v2,rfl,hv2,⟨ty2,u2,f2,hve,hm2,hps⟩,hpl,hwl⟩:=bOR hwr hpr hlt;have htl:=xAE List.length htx;simp only[prn,List.length_append,List.length_cons,List.length_nil]at htl;refine zz6 ?_;refine aA (aX (k:=cC 198) (j:=i) yJ Y (.known hs4) Y Y aH) Y ?_;refine aA (kK (v:=.iface ty2 u2) (cE (o:=0) (k:=cC 198) bLE Y (.known hs4) hv2 Y) hve) Y (zz4 ?_);refine u5 fun vb=>u5 fun qb=>?_;refine zz6 ?_;refine cN Y Y (aKH d hd _) Y ?_;refine j4 (aCE b d qb vb acc) ?_;refine cJ (bM (z0:=[(str [])]) cB tz9 Y Y Y Y (.cons Y Y Y (.cons .nil) .nil)) Y ?_;rintro _ K _ ⟨b18,rfl,rfl,rfl⟩ -;refine bA Y Y (iI b b18 1 d _ [indC d] _ _ _ Y Y (by simp only[List.flatten_cons,List.flatten_nil,List.append_nil];omega) (by simp)) (.cons .here (.cons .here .nil)) Y ?_;rintro _ K5 _ ⟨rfl,rfl⟩ le5;refine zz6 ?_;refine oP Y Y hm2 (hps b _ _ le5 (by simp only[List.length_append,List.flatten_cons,List.flatten_nil,List.append_nil];omega)) (.cons .here .nil) Y ?_;rintro _ K6 _ ⟨rfl,rfl⟩ le6;refine zz4 ?_;refine cJ (bM (z0:=[(str [])]) cB tz9 Y Y Y Y (.cons Y Y Y (.cons .nil) .nil)) Y ?_;rintro _ K _ ⟨b24,rfl,rfl,rfl⟩ -;refine bA Y Y (iI b b24 1 d _ [[10]] _ _ _ Y Y (by simp only[List.length_append,List.flatten_cons,List.flatten_nil,List.append_nil,List.length_cons,List.length_nil];omega) (by simp)) (.cons .here (.cons .here .nil)) Y ?_;rintro _ K7 _ ⟨rfl,rfl⟩ le7;refine zz7 ?_;refine uBa ?_;exact fH _ (i+1) l2 _ ⟨x6 le4 (x6 le5 (x6 le6 le7)),by omega,⟨hwl,hpl.mono (x6 le5 (x6 le6 le7))⟩,by rw[←htx];simp only[prn,List.append_assoc,List.flatten_cons,List.flatten_nil,List.append_nil]⟩ aH (.cons 0 Y (.cons 6 Y (.cons 7 Y (.cons 8 Y .nil)))) Y (fun _ h=>h)
 have hie:i=xs0.length:=aH;subst hie;rw[bEY hwr hpr (xAA _),xAL]at htx;subst htx;refine zz4 ?_;refine dK Y le4 ?_;exact⟨_,Y,Y,Y⟩
def xE(o:Option Tree)(d i:Nat):aP:=match o with
 |some t=>(if isz i=true then [105,102,32]else [32,101,108,115,105,102,32])++prn t d true
 |none=>[32,101,108,115,101]
def bOQ{K:Hl}{rest:Tree}{d i:Nat}{us:List (Cell×Cell)}(hw:wf rest 4=true)(h:PrA K rest d (us.drop i))(hi:i < us.length):∃o bt l x,us[i]?=some x∧(match o with|some t=>PSp K x.1.1 t d|none=>x.1.1=.nilIface)∧BdS K x.2.1 bt (d+1)∧PrA K l d (us.drop (i+1))∧wf l 4=true∧
  prn rest d (isz i)=xE o d i++[32,123,10]++prn bt (d+1) true++(indC d++[125])++prn l d false:=by
 have hd:us.drop i=us[i]::us.drop (i+1):=xAR hi;cases rest <;> simp only[wf]at hw <;> try (simp at hw;done)
 case bnil=>rw[hd]at h;cases h
 case bcons t b l=>
  obtain⟨v,sv,xs,e,h1,h2,h3⟩:=h;rw[hd]at e
  injection e with e1 e2
  subst e2;simp at hw;exact⟨some t,b,l,_,x4 hi,by rw[e1];exact h1,by rw[e1];exact h2,h3,hw.2.2,by simp only[prn,xE]⟩
 case belse b l=>
  obtain⟨sv,xs,e,h2,h3⟩:=h;rw[hd]at e
  injection e with e1 e2
  subst e2;simp at hw;exact⟨none,b,l,_,x4 hi,by rw[e1],by rw[e1];exact h2,h3,hw.2,by simp only[prn,xE]⟩
def bEX{K:Hl}{rest:Tree}{d i:Nat}{us:List (Cell×Cell)}(hw:wf rest 4=true)(h:PrA K rest d (us.drop i))(hi:us.length≤i)(f:Bool):prn rest d f=[]:=by
 rw[xAU hi]at h;cases rest <;> simp only[wf]at hw <;> try (simp at hw;done)
 case bnil=>rfl
 case bcons t b l=>obtain⟨v,sv,xs,e,_⟩:=h;cases e
 case belse b l=>obtain⟨sv,xs,e,_⟩:=h;cases e
end Go.Proofs
end
section
attribute [local irreducible] Go.SL.T Go.SL.OL Go.SL.D Go.SL.DL Go.SL.Ev Go.SL.Ef Go.SL.EfS
set_option maxRecDepth 4000
namespace Go.Proofs
open Go Go.SL Go.Syn
def bOP(K:Hl)(bs:Tree)(xs0:List (Cell×Cell))(sv:Value)(d:Nat)(hp:PrA K bs d xs0)(hw:wf bs 4=true)(hs:Ksl (dT 324) K sv xs0)(hxl:xs0.length≤1000000)(hd:d≤64):PSp K (.iface 287 (.agg #[sv])) (.iff bs) d:=by
 refine⟨_,_,_,Y,aYW _,fun b xs K' le hx=>?_⟩
 have hs:=hs.mono le;have hp:=hp.mono le;obtain⟨sa,sn,sc,rfl⟩:=hs.isSlice;simp only[prn]at hx ⊢;refine bN Tryz.func335 Y Tryz.ntmps335 Y Y fun F w=>?_;refine zz3 ?_;rintro _ K _ ⟨b2,rfl,rfl,rfl⟩ -;refine zz6 ?_;refine aA (bU (k:=dT 324) Y Tryz.underlying285 Y (.known hs)) Y (zz4 ?_);refine mV (.cons (.there .here) .nil) ?_;refine nZ (fun(K4:Hl) (i:Nat) (rest:Tree) (acc:aP)=>K.le K4∧i≤xs0.length∧(wf rest 4=true∧PrA K4 rest d (xs0.drop i))∧acc++prn rest d (isz i)=xs++prn bs d true) (fun _ i _ _=>[(1,ptr b),(7,.slice sa sn sc),(8,i64 xs0.length),(9,i64 i)]) (fun K4 _ _ _=>K4) (fun _ _ _ acc=>[pbl b d acc]) (fun _ i _ _=>xs0.length - i) _ 0 bs _ ⟨xAB _,x9 _,⟨hw,hp⟩,Y⟩ (.cons 1 Y (.cons 7 Y (.cons 8 Y (.cons 9 Y .nil)))) Y (fun _ h=>h) ?_;intro K4 i rest acc ⟨le4,hi,⟨hwr,hpr⟩,htx⟩;have hs4:=hs.mono le4;refine zz6 ?_;refine aY 10 Y (fun h10=>?_) (fun h10=>?_)
 ·have hlt:i < xs0.length:=aH;obtain⟨o2,b2,l2,x2,hx2,ho2,hbd,hpl,hwl,hpn⟩:=bOQ hwr hpr hlt;have htl:=xAE List.length htx;rw[hpn]at htl;simp only[List.length_append,List.length_cons,List.length_nil]at htl;obtain⟨⟨c0,hc0⟩,⟨s0,hs0⟩⟩:=x2;simp only at ho2 hbd;refine zz7 ?_;refine aA (aX (k:=dT 324) (j:=i) uD Y (.known hs4) Y Y aH) Y ?_;refine aA (fA (n:=0) (k:=dT 324) zI Y (.known hs4) hx2) Y (zz1 ?_);rintro _ K _ ⟨b5,rfl,rfl,rfl⟩ -;refine zz1 ?_;refine cD (cX zI Y Y Y bR gC1 (.cons (.cons .nil)) gC8) ?_;rintro _ K _ ⟨rfl,rfl⟩ -;refine zz2 ?_;refine dX (fun(K5:Hl)=>K.le K5) (fun _=>[(1,ptr b),(5,ptr b5),(7,.slice sa sn sc),(8,i64 xs0.length),(9,i64 i)]) (fun K5=>K5) (fun _=>[pt b5 (bL [c0,s0] 324),pbl b d (acc++xE o2 d i)]) ?_ ?_
  ·refine bD ?_;rcases o2 with _|t2
   ·have ho2:c0=.nilIface:=ho2;subst ho2;refine zz11 ?_;refine cJ (bM (z0:=[(str [])]) cB tz9 Y Y Y Y (.cons Y Y Y (.cons .nil) .nil)) Y ?_;rintro _ K _ ⟨b26,rfl,rfl,rfl⟩ -;refine bA Y Y (iI b b26 1 d _ [[32,101,108,115,101]] _ _ _ Y Y gC7 (by simp)) (.cons .here (.cons (.there .here) .nil)) Y ?_;rintro _ K15 _ ⟨rfl,rfl⟩ le15;refine zz2 ?_
    first
     |exact gBL
     |exact gA6
   obtain⟨ty2,u2,f2,rfl,hm2,hps⟩:=ho2;simp only[xE,List.length_append]at htl;refine zz16 ?_;refine aY 28 Y (fun h28=>?_) (fun h28=>?_)
   ·have hzi:isz i=false:=(by obtain⟨j,rfl⟩:∃j,i=j+1:=⟨i - 1,by omega⟩;rfl);rw[hzi]at htl;refine zz3 ?_;refine cJ (bM (z0:=[(str [])]) cB tz9 Y Y Y Y (.cons Y Y Y (.cons .nil) .nil)) Y ?_;rintro _ K _ ⟨b32,rfl,rfl,rfl⟩ -;refine bA Y Y (iI b b32 1 d _ [[32,101,108,115,105,102,32]] _ _ _ Y Y gC7 (by simp)) (.cons .here (.cons (.there .here) .nil)) Y ?_;rintro _ K15 _ ⟨rfl,rfl⟩ le15;refine zz6 ?_;refine oP Y Y hm2 (hps b _ _ le15 (by simp at htl ⊢;omega)) (.cons .here .nil) Y ?_;rintro _ K16 _ ⟨rfl,rfl⟩ le16;refine zz2 ?_
    first
     |exact gBL
     |exact gA6
   have hzi:isz i=true:=(by rw[show i=0 by omega];rfl);rw[hzi]at htl;refine zz3 ?_;refine cJ (bM (z0:=[(str [])]) cB tz9 Y Y Y Y (.cons Y Y Y (.cons .nil) .nil)) Y ?_;rintro _ K _ ⟨b15,rfl,rfl,rfl⟩ -;refine bA Y Y (iI b b15 1 d _ [[105,102,32]] _ _ _ Y Y gC7 (by simp)) (.cons .here (.cons (.there .here) .nil)) Y ?_;rintro _ K15 _ ⟨rfl,rfl⟩ le15;refine zz6 ?_;refine oP Y Y hm2 (hps b _ _ le15 (by simp at htl ⊢;omega)) (.cons .here .nil) Y ?_;rintro _ K16 _ ⟨rfl,rfl⟩ le16;refine zz2 ?_
   first
    |exact gBL
    |exact gA6
  intro K5 le5;refine zz3 ?_;refine cJ (bM (z0:=[(str [])]) cB tz9 Y Y Y Y (.cons Y Y Y (.cons .nil) .nil)) Y ?_;rintro _ K _ ⟨b39,rfl,rfl,rfl⟩ -;refine bA Y Y (iI b b39 1 d _ [[32,123,10]] _ _ _ Y Y gC7 (by simp)) (.cons .here (.cons (.there .here) .nil)) Y ?_;rintro _ K6 _ ⟨rfl,rfl⟩ le6;refine zz3 ?_;refine u5 fun vb=>u5 fun qb=>?_;refine zz8 ?_;refine cD (bX ts3 Y Y dA bR (.succ (.succ .zero)) Y) ?_;rintro _ K _ ⟨rfl,rfl⟩ -;refine zz7 ?_;refine j4 (aCE b (d+1:Nat) qb vb _) ?_;refine bA Y Y (hbd b _ _ (x6 le5 le6) gC7) (.cons .here .nil) Y ?_;rintro _ K7 _ ⟨rfl,rfl⟩ le7;refine zz3 ?_;refine u5 fun vc=>u5 fun qc=>?_;refine zz5 ?_;refine aA (kK (v:=i64 d) (hU Y Y aH aH) (by congr 1;omega)) Y (zz2 ?_);refine cD (bX ts3 Y Y dA bR (.succ (.succ .zero)) Y) ?_;rintro _ K _ ⟨rfl,rfl⟩ -;refine zz2 ?_;refine jJ (aCE b d qc vc _) ?_;refine u5 fun vd=>u5 fun qd=>?_;refine zz6 ?_;refine cN Y Y (aKH d hd _) Y ?_;refine j4 (aCE b d qd vd _) ?_;refine cJ (bM (z0:=[(str []),(str [])]) cB tz9 Y Y Y Y (.cons Y Y Y (.cons .nil) (.cons Y Y Y (.skip (.cons .nil)) .nil))) Y ?_;rintro _ K _ ⟨b65,rfl,rfl,rfl⟩ -;refine bA Y Y (iI b b65 2 d _ [indC d,[125]] _ _ _ Y Y gC7 (by simp)) (.cons .here (.cons .here .nil)) Y ?_;rintro _ K8 _ ⟨rfl,rfl⟩ le8;refine zz7 ?_;refine uBa ?_;exact fH _ (i+1) l2 _ ⟨x6 le4 (x6 le5 (x6 le6 (x6 le7 le8))),by omega,⟨hwl,hpl.mono (x6 le5 (x6 le6 (x6 le7 le8)))⟩,by rw[←htx,hpn];simp only[List.append_assoc,List.flatten_cons,List.flatten_nil,List.append_nil];rfl⟩ aH (.cons 1 Y (.cons 7 Y (.cons 8 Y (.cons 9 Y .nil)))) Y (fun _ h=>h)
 have hie:i=xs0.length:=aH;subst hie;rw[bEX hwr hpr (xAA _),xAL]at htx;subst htx;refine zz4 ?_;refine dK Y le4 ?_;exact⟨_,Y,Y,Y⟩
def aCJ{K:Hl}:∀ {t:Tree} {us:List (Cell×Cell)} {k:Nat},wf t k=true→Rep K t us→us.length≤Cmp.cnt t+1:=by
 intro t;induction t with
 |tnil=>intro us k _ h;rw[show us=[]from h];simp
 |cnil=>intro us k _ h;rw[show us=[]from h];simp
 |bnil=>intro us k _ h;rw[show us=[]from h];simp
 |tcons t l ih1 ih2=>
  rintro us k hw ⟨v,xs,h1,h2,rfl⟩;simp[wf]at hw;have:=ih2 hw.2.2 h2;have hc:1≤Cmp.cnt t:=by cases t <;> simp[wf]at hw <;> simp[Cmp.cnt]
  simp only[List.length_cons,Cmp.cnt];omega
 |ccons t l ih1 ih2=>
  rintro us k hw ⟨v,xs,h1,h2,rfl⟩;simp[wf]at hw;have:=ih2 hw.2.2 h2;have hc:1≤Cmp.cnt t:=by cases t <;> simp[wf]at hw <;> simp[Cmp.cnt]
  simp only[List.length_cons,Cmp.cnt];omega
 |bcons t b l ih1 ih2 ih3=>
  rintro us k hw ⟨v,ys,sv,xs,h1,_,h2,_,h3,rfl⟩;simp[wf]at hw;have:=ih3 hw.2.2.2 h3;simp only[List.length_cons,Cmp.cnt];omega
 |belse b l ih1 ih2=>
  rintro us k hw ⟨ys,sv,xs,h2,_,h3,rfl⟩;simp[wf]at hw;have:=ih2 hw.2.2 h3;simp only[List.length_cons,Cmp.cnt];omega
 |const b=>intro us k _ h;rw[show us=_ from h];simp
 |not_ t ih=>rintro us k _ ⟨v,_,rfl⟩;simp
 |many all l ih=>rintro us k _ ⟨xs,sv,_,_,rfl⟩;simp
 |mat tag oct op a b=>rintro us k _ ⟨va,vb,_,_,rfl⟩;simp
 |exi a=>rintro us k _ ⟨va,_,rfl⟩;simp
 |siz tag n=>intro us k _ h;rw[show us=_ from h];simp
 |plain op=>intro us k _ h;rw[show us=_ from h];simp
 |act k a p=>intro us k _ h;rw[show us=_ from h];simp
 |set_ n v t=>intro us k _ h;rw[show us=_ from h];simp
 |iff bs ih=>rintro us k _ ⟨xs,sv,_,_,rfl⟩;simp
def aFT{K:Hl}{t:Tree}{d:Nat}{v:Cell}(hw:wf t 0=true∨wf t 2=true)(h:PrA K t d [(v,u0)]):PSp K v.1 t d:=by
 cases t <;> simp only[wf,PrA]at h hw <;> first|(obtain⟨v',e,hp⟩:=h;injection e with e1 _;injection e1 with e2 _;rw[e2];exact hp)|(simp at hw;done)
def bI5{K:Hl}(hg:Glob K){n:Nat}(hn:n≤1000):∀ {t:Tree} {d k:Nat} {us:List (Cell×Cell)},Rep K t us→wf t k=true→okT t=true→sOk n t→Cmp.cnt t≤100000→d+dpt t≤64→PrA K t d us:=by
 intro t;induction t with
 |const b=>intro d k us h _ _ _ _ _;exact⟨_,h,bEU K b d⟩
 |not_ t ih=>
  rintro d k us ⟨v,h,rfl⟩ hw ho hs hc hd;simp[wf]at hw;simp only[okT]at ho;simp only[Cmp.cnt]at hc;have hd0:dpt t=0:=by cases t <;> simp[wf]at hw <;> rfl
  exact⟨_,Y,bMO K v.1 t d (aFT (.inl hw.2) (ih h hw.2 ho hs aH (by rw[hd0];simp only[dpt]at hd;omega)))⟩
 |many all l ih=>
  rintro d k us ⟨xs,sv,h,h2,rfl⟩ hw ho hs hc hd;simp[wf]at hw;simp[okT]at ho;simp only[Cmp.cnt]at hc;have hd0:dpt l=0:=by cases l <;> simp[wf]at hw <;> rfl
  have:=aCJ hw.2 h;exact⟨_,Y,bI4 K all l xs sv d (ih h hw.2 ho.2 hs aH (by rw[hd0];simp only[dpt]at hd;omega)) hw.2 h2 aH⟩
 |mat tag oct op a b=>
  rintro d k us ⟨va,vb,h1,h2,rfl⟩ hw ho hs hc hd;simp only[okT,decide_eq_true_eq]at ho;exact⟨_,Y,bMN K tag oct op va vb a b d ⟨ho.1,ho.2.1⟩ aH h1 h2 (fun x hx=>by have:=hs.1 x hx;omega) (by have:=hs.2.2.1;omega) (fun x hx=>by have:=hs.2.1 x hx;omega) (by have:=hs.2.2.2;omega)⟩
 |exi a=>
  rintro d k us ⟨va,h1,rfl⟩ hw ho hs hc hd;exact⟨_,Y,bMM K va a d h1 (fun x hx=>by have:=hs.1 x hx;omega) (by have:=hs.2;omega)⟩
 |siz tag m=>
  intro d k us h hw ho hs hc hd;simp only[okT,decide_eq_true_eq]at ho;exact⟨_,h,bMQ K tag m d hg ho hs⟩
 |tnil=>intro d k us h _ _ _ _ _;exact h
 |cnil=>intro d k us h _ _ _ _ _;exact h
 |bnil=>intro d k us h _ _ _ _ _;exact h
 |tcons t l ih1 ih2=>
  rintro d k us ⟨v,xs,h1,h2,rfl⟩ hw ho hs hc hd;simp[wf]at hw;simp[okT]at ho;simp only[Cmp.cnt]at hc;have hd0:dpt t=0:=by cases t <;> simp[wf]at hw <;> rfl
  have hd1:dpt l=0:=by cases l <;> simp[wf]at hw <;> rfl
  simp only[dpt]at hd;exact⟨v,xs,Y,aFT (.inl hw.2.1) (ih1 h1 hw.2.1 ho.1 hs.1 aH aH),ih2 h2 hw.2.2 ho.2 hs.2 aH aH⟩
 |plain op=>intro d k us h hw ho _ _ _;exact⟨_,h,bEW K op d⟩
 |act kd a p=>
  intro d k us h hw ho hs _ _;simp only[okT,decide_eq_true_eq]at ho;exact⟨_,h,bML K kd a p d ho (xAV hs hn)⟩
 |set_ m v t=>
  intro d k us h hw ho hs _ _;simp only[okT,decide_eq_true_eq]at ho;exact⟨_,h,bMP K m v t d ho (xAV hs.1 hn) (xAV hs.2 hn)⟩
 |iff bs ih=>
  rintro d k us ⟨xs,sv,h1,h2,rfl⟩ hw ho hs hc hd;simp[wf]at hw;simp only[okT]at ho;simp only[Cmp.cnt]at hc;simp only[dpt]at hd;have:=aCJ hw.2 h1;exact⟨_,Y,bOP K bs xs sv d (ih h1 hw.2 ho hs aH hd) hw.2 h2 aH aH⟩
 |ccons t l ih1 ih2=>
  rintro d k us ⟨v,xs,h1,h2,rfl⟩ hw ho hs hc hd;simp[wf]at hw;simp[okT]at ho;simp only[Cmp.cnt]at hc;simp only[dpt]at hd;exact⟨v,xs,Y,aFT (.inr hw.2.1) (ih1 h1 hw.2.1 ho.1 hs.1 aH aH),ih2 h2 hw.2.2 ho.2 hs.2 aH aH⟩
 |bcons t b l ih1 ih2 ih3=>
  rintro d k us ⟨v,ys,sv,xs,h1,hi,h2,h3,h4,rfl⟩ hw ho hs hc hd;simp[wf]at hw;simp[okT]at ho;simp only[Cmp.cnt]at hc;simp only[dpt]at hd;have hd0:dpt t=0:=by cases t <;> simp[wf]at hw <;> rfl
  have:=aCJ hw.2.2.1 h2;exact⟨v,sv,xs,Y,aFT (.inl hw.2.1) (ih1 h1 hw.2.1 ho.1 hs.1 aH aH),aMV K b ys sv.1 (d+1) (ih2 h2 hw.2.2.1 ho.2.1 hs.2.1 aH aH) hw.2.2.1 h3 aH aH,ih3 h4 hw.2.2.2 ho.2.2 hs.2.2 aH aH⟩
 |belse b l ih1 ih2=>
  rintro d k us ⟨ys,sv,xs,h2,h3,h4,rfl⟩ hw ho hs hc hd;simp[wf]at hw;simp[okT]at ho;simp only[Cmp.cnt]at hc;simp only[dpt]at hd;have:=aCJ hw.2.1 h2;exact⟨sv,xs,Y,aMV K b ys sv.1 (d+1) (ih1 h2 hw.2.1 ho.1 hs.1 aH aH) hw.2.1 h3 aH aH,ih2 h4 hw.2.2 ho.2.2 hs.2 aH aH⟩
end Go.Proofs
end
section
attribute [local irreducible] Go.SL.T Go.SL.OL Go.SL.D Go.SL.DL Go.SL.Ev Go.SL.Ef Go.SL.EfS
set_option maxRecDepth 4000
namespace Go.Proofs
open Go Go.SL Go.Syn
structure TextFit (r:List aP×Tree):Prop where
 wf:wf r.2 3=true
 ok:okT r.2=true
 strs:sOk 600 r.2
 cnt:Cmp.cnt r.2≤1201
 dpt:dpt r.2≤7
 needs:r.1.length≤1201
 need:∀x∈r.1,x.length≤600
def aK4{r:List aP×Tree}(h:TextFit r):(prn r.2 0 true).length≤12010000000∧(pQ r.1).length≤4010006∧(aIK r).length≤12020000000:=by
 have h1:=(aMX (n:=600) (by decide) (d:=0) (f:=true) h.strs (by have:=h.dpt;omega)).2 (.inr (.inl h.wf));have h2:=s6 (n:=600) (by decide) h.need h.needs;have h3:=h.cnt;refine⟨by omega,h2,?_⟩
 unfold aIK;split <;> simp only[List.length_append,List.length_cons,List.length_nil] <;> omega
def bKD(tb:Nat)(r:List aP×Tree)(K:Hl)(hg:Glob K)(hf:TextFit r)(hat:ScriptAt K tb r.1 r.2):Sp x3 41 [ptr tb 6] K [] (Ret fun v K' L'=>v=str (aIK r)∧L'=[]):=by
 obtain⟨l,nv,bv,ys,fz,hb,hl6,hl7,hnv,hbv,hrep,_⟩:=hat.at_;have htl:=aK4 hf;have hpa:=bI5 hg (n:=600) (by decide) (d:=0) hrep hf.wf hf.ok hf.strs (by have:=hf.cnt;omega) (by have:=hf.dpt;omega);have hyl:=aCJ hf.wf hrep;have hbd:=aMV K r.2 ys bv 0 hpa hf.wf hbv (by have:=hf.cnt;omega) (by decide);have hnl:=hf.needs;obtain⟨na,nn0,nc,rfl⟩:=hnv.isSlice;obtain⟨ba,bn,bc,rfl⟩:=hbv.isSlice;refine bN Tryz.func41 Y Tryz.ntmps41 Y Y fun F w=>?_;refine zz7 ?_;refine aA (dG tb146 tb146f .nil) Y (zz1 ?_);rintro _ K _ ⟨b5,rfl,rfl,rfl⟩ -;refine zz3 ?_;refine dX (fun(K3:Hl)=>K.le K3) (fun _=>[(0,ptr tb 6),(3,ptr b5)]) (fun K3=>K3) (fun _=>[pbl b5 (0:Nat) (if r.1=[]then []else [114,101,113,117,105,114,101,32]++pQ r.1++[59,10])]) ?_ ?_
 ·refine aI ?_;refine jJ (eM (bET b5 (0:Nat))) (zz4 ?_);refine aA (aK eP Y (.known hb) hl6) Y ?_;refine aA (bU (k:=a7 9) Y Tryz.underlying43 Y (.known hnv)) Y (zz3 ?_);refine aY 11 Y (fun h11=>?_) (fun h11=>?_)
  ·have hne:r.1≠[]:=(by intro h;rw[h]at h11;simp at h11);refine zz5 ?_;refine aA (aK eP Y (.known hb) hl6) Y ?_;refine bA Y Y (aCG _ r.1 _ hnv (fun x hx=>by have:=hf.need x hx;omega) aH) .nil Y ?_;rintro _ K2 _ ⟨rfl,rfl⟩ le2;refine cJ (bM (z0:=[(str []),(str []),(str [])]) cB tz9 Y Y Y Y (.cons Y Y Y (.cons .nil) (.cons Y Y Y (.skip (.cons .nil)) (.cons Y Y Y (.skip (.skip (.cons .nil))) .nil)))) Y ?_;rintro _ K _ ⟨b18,rfl,rfl,rfl⟩ -;refine bA Y Y (iI b5 b18 3 (0:Nat) [] [[114,101,113,117,105,114,101,32],pQ r.1,[59,10]] _ _ _ Y Y gC7 (by simp)) (.cons .here (.cons .here .nil)) Y ?_;rintro _ K18 _ ⟨rfl,rfl⟩ le18;refine aG ?_
   first
    |exact gB7
    |exact gCW
  have hee:r.1=[]:=xA9.1 aH;refine aW ?_
  first
   |exact gB7
   |exact gCW
 intro K3 le3;have hb:=le3 _ _ hb;refine zz6 ?_;refine aA (aK aIQ Y (.known hb) hl7) Y ?_;refine bA Y Y (hbd b5 _ _ le3 (by split <;> simp <;> omega)) (.cons .here .nil) Y ?_;rintro _ K4 _ ⟨rfl,rfl⟩ le4;refine zz7 ?_;refine bA Y Y (aMY b5 (0:Nat) _ (by rw[xAF];split <;> simp <;> omega) _) (.cons .here .nil) Y ?_;rintro _ K _ ⟨rfl,rfl,rfl⟩ -;refine zz4 ?_;refine bI Y Y (x6 le3 le4) ?_;exact⟨_,Y,Y,Y⟩
def bGN(b:Nat)(r:List aP×Tree)(K:Hl)(hg:Glob K)(hf:TextFit r)(hat:wS K b r):Sp x3 21 [ptr b] K [] (Ret fun v K' L'=>v=str (aIK r)∧L'=[]):=by
 obtain⟨tb,cv,vs,fz,hb,hs,_,_⟩:=hat;refine bN Tryz.func21 Y Tryz.ntmps21 Y Y fun F w=>?_;refine zz10 ?_;refine aA (aK aCX Y (.known hb) Y) Y ?_;refine bA Y Y (bKD tb r _ hg hf hs) .nil Y ?_;rintro _ K2 _ ⟨rfl,rfl⟩ le2;refine zz4 ?_;refine bI Y Y le2 ?_;exact⟨_,Y,Y,Y⟩
end Go.Proofs
end
section
attribute [local irreducible] Go.SL.T Go.SL.OL Go.SL.D Go.SL.DL Go.SL.Ev Go.SL.Ef Go.SL.EfS
namespace Go.Proofs
open Go Go.SL Go.Syn Go.Mach
open Go.Cmp (cnt)
open Go.Say (elemsC brL brO)
def BrsP(t:Tree):Prop:=(∀pr∈brL t,aF5 pr.1∧LnAt pr.2∧dpt pr.2+1≤dpt t)∧(∀b,brO t=some b→LnAt b∧dpt b+1≤dpt t)∧(brL t).length≤cnt t
def bJE:∀t:Tree,okT t=true→sOk 600 t→cnt t≤100000→ifB t=true→(wf t 3=true→LnAt t∧∀y∈elemsC t,CmdP y)∧(wf t 2=true→∀bs,t=.iff bs→wf bs 4=true∧okT bs=true∧BrAt bs)∧(wf t 4=true→BrsP t):=by
 intro t;induction t with
 |cnil=>
  intro ho hs hc hi;exact⟨fun hw=>⟨aQB _ hw hs hc (fun y h=>(by simp[Say.elemsC]at h)),fun y h=>(by simp[Say.elemsC]at h)⟩,fun hw=>gDV,fun hw=>gDV⟩
 |ccons x l ih1 ih2=>
  intro ho hs hc hi;refine⟨fun hw=>?_,fun hw=>gDV,fun hw=>gDV⟩
  have hw0:=hw;have hc0:=hc;simp[wf]at hw;simp[okT]at ho;simp[ifB]at hi;simp only[cnt]at hc;have key:∀y∈elemsC (.ccons x l),CmdP y:=by
   intro y hy;rcases List.mem_cons.1 hy with rfl|hy
   ·exact⟨hw.1,ho.1,hs.1,hi.1,(ih1 ho.1 hs.1 aH hi.1).2.1 hw.1⟩
   exact((ih2 ho.2 hs.2 aH hi.2).1 hw.2).2 y hy
  exact⟨aQB _ hw0 hs hc0 key,key⟩
 |iff bs ih=>
  intro ho hs hc hi;refine⟨fun hw=>gDV,fun hw b2 e=>?_,fun hw=>gDV⟩
  cases e
  have hw4:wf bs 4=true:=by simpa[wf]using hw
  have hc4:cnt bs≤100000:=by simp only[cnt]at hc;omega
  simp[ifB]at hi;obtain⟨h1,h2,h3⟩:=(ih ho hs hc4 hi.2).2.2 hw4;exact⟨hw4,ho,bE2 bs hw4 ho hs hc4 hi.1 h1 h2 h3⟩
 |bnil=>
  intro ho hs hc hi;exact⟨fun hw=>gDV,fun hw=>gDV,fun hw=>⟨fun pr h=>(by simp[Say.brL]at h),fun b h=>(by cases h),x9 _⟩⟩
 |belse b l ih1 ih2=>
  intro ho hs hc hi;refine⟨fun hw=>gDV,fun hw=>gDV,fun hw=>⟨fun pr h=>(by simp[Say.brL]at h),fun b2 h=>?_,x9 _⟩⟩
  cases h
  simp[wf]at hw;simp[okT]at ho;simp[ifB]at hi;simp only[cnt]at hc;exact⟨((ih1 ho.1 hs.1 aH hi.1).1 hw.1).1,by simp only[dpt];omega⟩
 |bcons t b l ih1 ih2 ih3=>
  intro ho hs hc hi;refine⟨fun hw=>gDV,fun hw=>gDV,fun hw=>?_⟩
  simp[wf]at hw;simp[okT]at ho;simp[ifB]at hi;simp only[cnt]at hc;obtain⟨h1,h2,h3⟩:=(ih3 ho.2.2 hs.2.2 aH hi.2).2.2 hw.2.2;have hb:=((ih2 ho.2.1 hs.2.1 aH hi.1).1 hw.2.1).1;have ht:=(bFO t ho.1 hs.1 aH).1 hw.1;refine⟨fun pr hp=>?_,fun b2 h=>?_,?_⟩
  ·rcases List.mem_cons.1 hp with rfl|hp
   ·exact⟨ht,hb,by simp only[dpt];omega⟩
   obtain⟨g1,g2,g3⟩:=h1 pr hp;exact⟨g1,g2,by simp only[dpt];omega⟩
  ·obtain⟨g1,g2⟩:=h2 b2 h;exact⟨g1,by simp only[dpt];omega⟩
  show (brL l).length+1≤_
  simp only[cnt];omega
 |_=>intro ho hs hc hi;exact⟨fun hw=>gDV,fun hw bs e=>(by cases e),fun hw=>gDV⟩
def bFN(b:Nat)(r:List aP×Tree)(K:Hl)(hf:TextFit r)(hi:ifB r.2=true)(hr:tO K b r):Sp x3 22 [ptr b] K [] (Val (str (aIK r)) K):=by
 obtain⟨nv,bv,us,hb,hkn,hkb,hrr⟩:=hr;obtain⟨htl1,htl2,htl3⟩:=aK4 hf;have hln:=((bJE r.2 hf.ok hf.strs (by have:=hf.cnt;omega) hi).1 hf.wf).1;refine bN Tryz.func22 Y Tryz.ntmps22 Y Y fun F w=>?_;refine zz17 ?_;refine aA (bU (k:=a7 9) Y Tryz.underlying43 Y (.known hkn)) Y (zz3 ?_);refine aY 11 Y (fun h11=>?_) (fun h11=>?_)
 ·have hne:¬r.1=[]:=(by intro e;rw[e]at h11;simp at h11);refine zz6 ?_;refine cN Y Y (aCK r.1 nv hf.need (by have:=hf.needs;omega) _ hkn) Y (zz5 ?_);refine aA (eJ Y Y gC2) Y ?_;refine aA (eJ Y Y gC2) Y (zz9 ?_);refine cN Y Y (hln 0 K bv us (by have:=hf.dpt;omega) hkb hrr) Y (zz7 ?_);refine aA (eJ Y Y gC2) Y (zz4 ?_);refine uAf ?_;refine zz1 ?_;unfold aIK
  first
   |(rw[x5 hne];exact⟨Y,Y,Y⟩)
   |(rw[x7 hne];exact⟨Y,Y,Y⟩)
 have hne:r.1=[]:=xA9.1 aH;refine zz8 ?_;refine cN Y Y (hln 0 K bv us (by have:=hf.dpt;omega) hkb hrr) Y (zz7 ?_);refine aA (eJ Y Y gC2) Y (zz4 ?_);refine uAf ?_;refine zz1 ?_;unfold aIK
 first
  |(rw[x5 hne];exact⟨Y,Y,Y⟩)
  |(rw[x7 hne];exact⟨Y,Y,Y⟩)
def bJN{n k:Nat}(h:n≤k):∀ {t:Tree},sOk n t→sOk k t:=by
 intro t;induction t with
 |const=>intro _;trivial
 |not_ t ih=>intro h1;exact ih h1
 |many a l ih=>intro h1;exact ih h1
 |mat tag oct op a b=>intro h1;exact⟨fun x hx=>by have:=h1.1 x hx;omega,fun x hx=>by have:=h1.2.1 x hx;omega,by have:=h1.2.2.1;omega,by have:=h1.2.2.2;omega⟩
 |exi a=>intro h1;exact⟨fun x hx=>by have:=h1.1 x hx;omega,by have:=h1.2;omega⟩
 |siz=>intro h1;exact h1
 |tnil=>intro _;trivial
 |tcons t l i1 i2=>intro h1;exact⟨i1 h1.1,i2 h1.2⟩
 |plain=>intro _;trivial
 |act k a p=>intro h1;exact xAV h1 h
 |set_ a v t=>intro h1;exact⟨xAV h1.1 h,xAV h1.2 h⟩
 |iff bs ih=>intro h1;exact ih h1
 |cnil=>intro _;trivial
 |ccons c l i1 i2=>intro h1;exact⟨i1 h1.1,i2 h1.2⟩
 |bnil=>intro _;trivial
 |bcons t b l i1 i2 i3=>intro h1;exact⟨i1 h1.1,i2 h1.2.1,i3 h1.2.2⟩
 |belse b l i1 i2=>intro h1;exact⟨i1 h1.1,i2 h1.2⟩
def rX{x:aP}:∀ {l ns:List aP},x∈jK ns l→x∈ns∨x∈l
 | [],ns,h=>.inl h
 |e::l,ns,h=>by
  have h:x∈jK (addN ns e) l:=h;rcases rX h with h|h
  ·unfold addN at h;split at h
   ·exact .inl h
   rcases xAT.1 h with h|h
   ·exact .inl h
   exact .inr (by rw[List.mem_singleton.1 h];exact List.mem_cons_self ..)
  exact .inr (List.mem_cons_of_mem _ h)
def bFD{s:aP}:∀ {f:Nat} {ns:List aP} {st:St} {r:List aP×St},Ok s st→(∀x∈ns,x.length≤s.length)→reqF s f ns st=.ok r→∀x∈r.1,x.length≤s.length:=by
 intro f;induction f with
 |zero=>intro ns st r _ _ e;cases e
 |succ f ih=>
  intro ns st r hok hns e;simp only[reqF]at e;split at e
  ·rename_i hk;split at e
   ·cases e
   rename_i q hq;have h1:=jO hok aH hq;split at e
   ·cases e
   rename_i l hl;have h2:=oK h1.1 hl;have h4:=aB8 h1.1 hl;split at e
   ·cases e
   rename_i y hy;have h3:=jQ h2.1 hy;exact ih h3.1 (fun x hx=>(rX hx).elim (hns x) (h4 x)) e
  cases e;exact hns
def aRB{s:aP}{r:List aP×Tree}(h:gN s=.ok r)(hs:s.length≤600):TextFit r:=by
 obtain⟨f1,f2,f3,f4,_⟩:=nP h;have hn:=tX h;have hd:=aZK h;refine⟨f1,f4,bJN hs f2,by omega,hd,by omega,fun x hx=>?_⟩
 unfold gN at h;split at h
 ·cases h
 rename_i q hq;have h1:=fX (x9 _) hq;unfold jP at h;split at h
 ·cases h
 rename_i n hn2;have h2:=bFD h1 (by simp) hn2;split at h
 ·cases h
 split at h
 ·cases h;exact xAV (h2 x hx) hs
 cases h
end Go.Proofs
end
