/-
  What the proof stands on, part 62: the logic of walks, the walks through the functions, the plain laws. Conditions: as each theorem says. (Merged and shortened by a program.)
-/
import Derived.Test.YthopmddkpdehiabGreatDoorK21
import Derived.Test.YthopmddkpdehiabGreatDoorK58
set_option linter.unusedVariables false
set_option linter.unusedSimpArgs false
set_option linter.defProp false
set_option maxRecDepth 4000
set_option maxHeartbeats 1000000
section
attribute [local irreducible] Go.SL.T Go.SL.OL Go.SL.D Go.SL.DL Go.SL.Ev Go.SL.Ef Go.SL.EfS
namespace Go.Proofs
open Go Go.SL Go.Syn Go.Mach
open Go.Cmp (cT RIs InsV RIns eX kW gQ insA codeP_len)
def aUK(wb n:Nat)(W:WS)(kd a b:Int)(s from_ to_:aP)(sz:Int)(hv0 cv0:Value)(hs:List (aP×aP))(vs:List InsV)(os:List Ins)(hkd:¬kd=3∧¬kd=4∧¬kd=5)(hw:WFit n W)(hn:n≤1000000)(hra: -9223372036854775808≤a∧a≤9223372036854775807)(hrb: -9223372036854775808≤b∧b≤9223372036854775807)(K:Hl)(hg:Glob K)(hE:ErrT K)(hxs:∀x∈W.xl,XOk K x)(hh:Ksl hdEl K hv0 hs)(hm:MsgOk ⟨from_,to_,sz,hs⟩)(hcd:Ksl cT K cv0 vs∧RIs K vs os∧CodeFit os∧(∀v∈vs,v.op=9→lB v.a.1)∧(∀o∈os,InsOk o)∧os.length≤100000):Sp x3 9 [ptr wb,.agg #[i64 kd,i64 a,i64 b,str s,str from_,str to_,i64 sz,hv0,cv0]] K [wP wb W] (Ret fun v K' L'=>v=.bool true∧∃W',(∀x∈W'.xl,XOk K' x)∧WFit (n+1) W'∧L'=[wP wb W']):=by
 have ho1:hv0.oneCell'=true:=by obtain⟨x,y,z,rfl⟩:=hh.isSlice;rfl
 have ho2:cv0.oneCell'=true:=by obtain⟨x,y,z,rfl⟩:=hcd.1.isSlice;rfl
 refine bN Tryz.func9 Y Tryz.ntmps9 Y Y fun F w=>?_;refine zz3 ?_;rintro _ K _ ⟨b3,rfl,rfl,rfl⟩ -;refine zz7 ?_;refine bA Y Y (wC wb n W kd a b s from_ to_ sz hv0 cv0 hw aH hra hrb ho1 ho2 _) bS Y ?_;rintro _ K _ ⟨rfl,rfl,W1,hx1,hw1,rfl⟩ -;have hxs1:∀x∈W1.xl,XOk K x:=hx1▸hxs;refine zz16 ?_;refine aY 28 Y (fun h28=>?_) (fun h28=>?_)
 ·have h28:kd=1:=h28;refine zz5 ?_;refine bA Y Y (tY wb W1 s _ hg hE (by have:=hw1.nx;omega)) bS Y ?_;rintro _ K1 _ ⟨rfl,W2,hW2,rfl⟩ le1;refine zz6 ?_;refine uAa ?_;refine bI Y Y le1 ?_;exact⟨_,Y,Y,W2,gDG,gEL,Y⟩
 have h28:¬kd=1:=h28;refine zz6 ?_;refine aY 34 Y (fun h34=>?_) (fun h34=>?_)
 ·exact absurd h34 aH
 refine zz5 ?_;refine aNH fun xv mv wav cv=>?_;have hlX:(W1.xl.map fun x=>pcl x.b).length=W1.xl.length:=xAS _;have hlM:(W1.xl.map fun x=>pcl x.rb).length=W1.xl.length:=xAS _;refine zz5 ?_;refine uBd ?_;refine zz3 ?_;refine aY 86 Y (fun h86=>?_) (fun h86=>?_)
 ·refine zz7 ?_;refine cS (mW (W:=W1)) ?_;refine uAa ?_;refine zz1 ?_;exact⟨_,Y,Y,_,hxs1,hw1.up,Y⟩
 have hpos:0 < (W1.xl.map fun x=>pcl x.b).length:=by omega
 have hpn:(W1.xl.map fun x=>pcl x.b).length≤1000000000:=by have:=hw1.nx;omega
 have hpk:=fun K=>oY a (W1.xl.map fun x=>pcl x.b).length hra ⟨hpos,hpn⟩ K
 refine zz3 ?_;refine cZ (anc:=[0,1,0,4,12,28,60,127,255]) (ord:=[0,1,2,3,4,5,6,7,8]) [7] [7] mixed gC5 (cQ _) (zz6 ?_);refine uAs ?_;refine eQ Y (.none Y) Y Y Y (hpk _) .nil Y ?_;rintro _ K _ ⟨k,hk,rfl,rfl,rfl⟩ -;refine zz4 ?_;obtain⟨q,hq⟩:∃q,W1.xl[k]?=some q:=⟨W1.xl[k]'(by omega),x4 aH⟩;have hqb:(W1.xl.map fun x=>pcl x.b)[k]?=some (pcl q.b):=by rw[xAQ,hq];rfl
 have hqm:(W1.xl.map fun x=>pcl x.rb)[k]?=some (pcl q.rb):=by rw[xAQ,hq];rfl
 have hkM:k < (W1.xl.map fun x=>pcl x.rb).length:=by omega
 have hX:=hxs1 q (x8 hq);refine zz6 ?_;refine aA (aX (k:=cC 60) (j:=k) vD Y aL Y Y hk) Y ?_;refine aA (cE (o:=0) (k:=cC 60) ts60 Y aL hqb Y) Y (zz10 ?_);refine aA (aX (k:=cC 61) (j:=k) vE Y aL Y Y hkM) Y ?_;refine aA (cE (o:=0) (k:=cC 61) ts61 Y aL hqm Y) Y (zz5 ?_);refine jJ (mW (W:=W1)) ?_;clear hpk;refine zz12 ?_;refine aY 111 Y (fun h111=>?_) (fun h111=>?_)
 ·refine zz3 ?_;refine bA Y Y (bGN q.b q.r _ hg (aRB hX.ok hX.fit) hX.at_) .nil Y ?_;rintro _ K1 _ ⟨rfl,rfl⟩ le1;refine zz6 ?_;refine cN Y Y (bFN q.rb q.r _ (aRB hX.ok hX.fit) (bEO hX.ok) (hX.ref.mono le1)) Y (zz14 ?_);refine uAa ?_;refine bI Y Y le1 ?_;exact⟨_,Y,by rw[xAM rfl],_,fun x hx=>(hxs1 x hx).mono le1,hw1.up,rfl⟩
 refine zz6 ?_;refine aY 120 Y (fun h120=>?_) (fun h120=>?_)
 ·exact absurd h120 aH
 refine zz6 ?_;refine aY 140 Y (fun h140=>?_) (fun h140=>?_)
 ·exact absurd h140 aH
 refine zz9 ?_;refine uAa ?_;refine zz1 ?_;exact⟨_,Y,Y,_,hxs1,hw1.up,Y⟩
end Go.Proofs
end
section
attribute [local irreducible] Go.SL.T Go.SL.OL Go.SL.D Go.SL.DL Go.SL.Ev Go.SL.Ef Go.SL.EfS
namespace Go.Proofs
open Go Go.SL Go.Syn Go.Mach
open Go.Cmp (cT RIs InsV RIns eX kW gQ insA codeP_len fK)
def tN{b:Nat}{L:List Asn}:∀h,Sat (pt b (bL [.slice none 0 0,.slice none 0 0,.slice none 0 0,.slice none 0 0] 32)::L) h→Sat (wP b ⟨[],[],[]⟩::L) h:=by
 intro h hh;refine mW (W:=⟨[],[],[]⟩) (xv:=.slice none 0 0) (mv:=.slice none 0 0) (av:=.slice none 0 0) (cv:=.slice none 0 0) h ?_;refine eR (fun h hh=>?_) hh
 have st:∀ {L:List Asn} {h:Hl},Sat L h→Sat (mD []::L) h:=fun {L h} hs=>⟨.emp,h,rfl,hs,(Hl.dj_emp h).symm,(Hl.emp_join h).symm⟩
 exact fF (fF (fF (st (fF (st hh)))))
def aPW(sv kv:Value)(xs:List OpV)(ks:List Nat)(hks:∀kd:Int,(kd=1∨kd=6∨kd=7∨∃q∈ks,kd=((q:Nat):Int))→¬kd=3∧¬kd=4∧¬kd=5)(hkl:ks.length≤100)(K:Hl)(hg:Glob K)(hE:ErrT K)(hv:Ksl opEl K sv xs)(his:∀x∈xs,OpIs K x)(hz:∀x∈xs,OpFit 140737488355328 x)(hl:xs.length≤140737488355328):Sp x3 7 [sv,kv] K [sl false (fK 3) kv ks] (Ret fun v K' L'=>v=.bool true∧L'=[]):=by
 refine bN Tryz.func7 Y Tryz.ntmps7 Y Y fun F w=>?_;refine zz8 ?_;refine bA Y Y (uI sv xs _ hv his hz hl) .nil Y ?_;rintro _ K _ ⟨b,rfl,hb,rfl,rfl⟩ -;refine zz7 ?_;refine aA gC3 Y (zz2 ?_);refine d9 14 Y (fun h14=>?_) (fun h14=>?_)
 ·refine zz7 ?_;refine uAf ?_;refine zz1 ?_;exact⟨_,Y,Y,Y⟩
 obtain⟨hxl,hof⟩:=hb gF9;refine zz4 ?_;refine aA (dG tb32 tb32f .nil) Y (zz1 ?_);rintro _ K _ ⟨b16,rfl,rfl,rfl⟩ -;refine zz5 ?_;refine jJ tN (zz5 ?_);refine lK (fun(i:Nat) (K3:Hl) (W:WS)=>K.le K3∧i≤xs.length∧WFit i W∧∀x∈W.xl,XOk K3 x) (fun i _ _=>[(0,sv),(1,kv),(6,ptr b16),(7,i64 i)]) (fun _ K3 _=>K3) (fun _ _ W=>[wP b16 W,sl false (fK 3) kv ks]) (fun i _ _=>xs.length - i) 0 K ⟨[],[],[]⟩ ⟨xAB _,x9 _,⟨x9 _,x9 _,x9 _,fun p h=>(by cases h),fun p h=>(by cases h)⟩,fun x h=>(by cases h)⟩ aS Y (fun _ h=>h) ?_;intro i K3 W ⟨leK,hi0,hwf,hxs⟩;have hv3:=hv.mono leK;refine zz5 ?_;refine aA (bU (k:=opEl) Y Tryz.underlying22 Y (.known hv3)) Y (zz3 ?_);refine aY 20 Y (fun h20=>?_) (fun h20=>?_)
 ·have hlt:i < xs.length:=by omega
  obtain⟨x,hx⟩:∃x,xs[i]?=some x:=⟨xs[i]'hlt,x4 hlt⟩;have hxm:=x8 hx;have hI:=(his x hxm).mono leK;have hF:=hof x hxm;obtain⟨kd,oa,ob,os,ofr,oto,osz,⟨ohv,hohv⟩,⟨ocv,hocv⟩,ohs,ovs,oos⟩:=x;have hIh:Ksl hdEl K3 ohv ohs:=hI.hs;have hIv:Ksl cT K3 ocv ovs:=hI.vs;have hIo:RIs K3 ovs oos:=hI.os;have hMs:=hF.msg;have hCf:=hF.code;have hIn:=hF.ins;have hOn:oos.length≤65536:=hF.on;refine zz8 ?_;refine aA (aX (k:=opEl) (j:=i) vC Y (.known hv3) Y Y hlt) Y ?_;refine aA (fA (n:=0) (k:=opEl) ta38_9 Y (.known hv3) hx) Y (zz1 ?_);rintro _ K _ ⟨b8,rfl,rfl,rfl⟩ -;refine cD (cX ta38_9 Y Y Y bR gC1 (.cons (.cons (.cons (.cons (.cons (.cons (.cons (.cons (.cons .nil))))))))) gC8) ?_;rintro _ K _ ⟨rfl,rfl⟩ -;refine zz2 ?_;refine dX (fun(inb:Bool)=>inb=true→(kd=1∨kd=6∨kd=7∨∃q∈ks,kd=((q:Nat):Int))) (fun inb=>[(0,sv),(1,kv),(6,ptr b16),(7,i64 i),(8,ptr b8),(9,.bool inb)]) (fun _=>K) (fun _=>[pt b8 (bL [i64 kd,i64 oa,i64 ob,str os,str ofr,str oto,i64 osz,ohv,ocv] 38),wP b16 W,sl false (fK 3) kv ks]) ?_ ?_
  ·refine jJ (L':=[pt b8 (bL [i64 kd,i64 oa,i64 ob,str os,str ofr,str oto,i64 osz,ohv,ocv] 38),wP b16 W,sl false (fK 3) kv ks]) (fun _ h=>h) (zz5 ?_);refine bV 30 Y (fun g30=>?_) (fun g30=>?_)
   ·refine zz11 ?_
    first
     |exact a8 true (fun _=>by omega) aS Y (fun _ h=>h)
     |exact a8 (decide (kd=7)) (fun h=>.inr (.inr (.inl (xAH h)))) aS Y (fun _ h=>h)
   refine zz8 ?_;refine bV 35 Y (fun g35=>?_) (fun g35=>?_)
   ·refine zz6 ?_
    first
     |exact a8 true (fun _=>by omega) aS Y (fun _ h=>h)
     |exact a8 (decide (kd=7)) (fun h=>.inr (.inr (.inl (xAH h)))) aS Y (fun _ h=>h)
   refine zz9 ?_
   first
    |exact a8 true (fun _=>by omega) aS Y (fun _ h=>h)
    |exact a8 (decide (kd=7)) (fun h=>.inr (.inr (.inl (xAH h)))) aS Y (fun _ h=>h)
  intro in0 hin0;refine zz7 ?_;refine iR (fun(k:Nat) (inb:Bool)=>k≤ks.length∧(inb=true→(kd=1∨kd=6∨kd=7∨∃q∈ks,kd=((q:Nat):Int)))) (fun k inb=>[(0,sv),(1,kv),(6,ptr b16),(7,i64 i),(8,ptr b8),(9,.bool inb),(10,i64 k)]) (fun _ _=>K) (fun _ _=>[pt b8 (bL [i64 kd,i64 oa,i64 ob,str os,str ofr,str oto,i64 osz,ohv,ocv] 38),wP b16 W,sl false (fK 3) kv ks]) (fun k _=>ks.length - k) 0 in0 ⟨x9 _,hin0⟩ aS Y (fun _ h=>h) ?_;intro k inb ⟨hk0,hin⟩;refine zz5 ?_;refine aA (bU (k:=fK 3) Y Tryz.underlying24 Y aL) Y (zz3 ?_);refine aY 43 Y (fun h43=>?_) (fun h43=>?_)
  ·have hkl:k < ks.length:=by omega
   obtain⟨y,hy⟩:∃y,ks[k]?=some y:=⟨ks[k]'hkl,x4 hkl⟩;refine zz4 ?_;refine cZ (anc:=[0,1,3,7,3,3,51,115,255,511,1023]) (ord:=[0,1,2,3,4,5,6,7,8,9,10]) [] [] mixed gC5 (cQ _) (zz2 ?_);refine qY 47 Y (fun g47=>?_) (fun g47=>?_)
   ·subst g47;refine zz17 ?_
    first
     |exact cW (k+1) true ⟨by omega,hin⟩ aH aS Y (fun _ h=>h)
     |exact cW (k+1) (decide (kd=((y:Nat):Int))) ⟨by omega,fun h=>.inr (.inr (.inr ⟨y,x8 hy,xAH h⟩))⟩ aH aS Y (fun _ h=>h)
   subst g47;refine zz4 ?_;refine aJ Y Y (.on Y Y Y) Y Y (aX (k:=fK 3) (j:=k) lY Y aL Y Y hkl) Y ?_;refine aJ Y Y (.on Y Y Y) Y Y (cE (o:=0) (k:=fK 3) ts3 Y aL hy Y) Y (zz11 ?_)
   first
    |exact cW (k+1) true ⟨by omega,hin⟩ aH aS Y (fun _ h=>h)
    |exact cW (k+1) (decide (kd=((y:Nat):Int))) ⟨by omega,fun h=>.inr (.inr (.inr ⟨y,x8 hy,xAH h⟩))⟩ aH aS Y (fun _ h=>h)
  refine zz9 ?_;refine aA gC3 Y (zz2 ?_);refine d9 57 Y (fun h57=>?_) (fun h57=>?_)
  ·refine zz9 ?_
   first
    |exact gA2
    |exact gA4
  have hkd:=hks kd (hin (by simpa using h57));refine zz6 ?_;refine bA Y Y (aUK b16 i W kd oa ob os ofr oto osz ohv ocv ohs ovs oos hkd hwf aH hI.a hI.b _ (hg.mono leK) (hE.mono leK) hxs hIh hMs ⟨hIv,hIo,hCf,fun v hm _=>hI.fit v hm,hIn,by omega⟩) bS Y ?_;rintro _ K4 _ ⟨rfl,W2,hxs2,hwf2,rfl⟩ le4;refine zz16 ?_;refine bA Y Y (wB b16 W2 _ hwf2.al hwf2.cl (by have:=hwf2.na;omega) (by have:=hwf2.nc;omega)) bS Y ?_;rintro _ K4 _ ⟨rfl,rfl,rfl⟩ -;refine zz18 ?_
  first
   |exact gA2
   |exact gA4
 refine zz11 ?_;refine uAf ?_;refine bI Y Y leK ?_;exact⟨_,Y,Y,Y⟩
end Go.Proofs
end
