/-
  What the proof stands on, part 20: the logic of walks, the walks through the functions, the plain laws. Conditions: as each theorem says. (Merged and shortened by a program.)
-/
import Derived.Test.YthopmddkpdehiabGreatDoorK19
set_option linter.unusedVariables false
set_option linter.unusedSimpArgs false
set_option linter.defProp false
set_option maxRecDepth 4000
set_option maxHeartbeats 1000000
section
attribute [local irreducible] Go.SL.T Go.SL.OL Go.SL.D Go.SL.DL Go.SL.Ev Go.SL.Ef Go.SL.EfS
namespace Go.Proofs
open Go Go.SL Go.Syn Go.Mach
set_option maxRecDepth 100000 in
def bO6:fT x3 203=some ([(str []),.slice none 0 0,.slice none 0 0,.slice none 0 0,.int .i64 0,.bool false,.int .i64 0],[(0,1),(1,1),(2,1),(3,1),(4,1),(5,1),(6,1)]):=cY
set_option maxRecDepth 100000 in
def aAC:elOk x3 153 159 1 8=true:=cY
set_option maxRecDepth 100000 in
def iS:i8 x3 153 159 1=true:=cY
def bMR{r:Res St}(h:¬rE r=0):∃e,r=.error e:=by
 cases r with
 |ok st=>exact absurd Y h
 |error e=>exact⟨e,Y⟩
def bo1{p:Prop}[Decidable p]{x:Bool}(h:p):some (Value.bool true)=some (.bool (decide p||x)):=by rw[xAM h];rfl
def bo2{p:Prop}[Decidable p]{x y:Bool}(h:¬p)(e:some (Value.bool y)=some (.bool x)):some (Value.bool y)=some (.bool (decide p||x)):=by rw[xAJ h];exact e
def bK1{p q:Prop}[Decidable p][Decidable q](h:(decide p||decide q)=false):¬p∧¬q:=by simpa using h
def aTG{p q r:Prop}[Decidable p][Decidable q][Decidable r](h:(decide p||(decide q||decide r))=false):¬p∧¬q∧¬r:=by simpa using h
def aFW{st:St}(h:st.2.kind=1):rS (.ok st)=st.2.s:=by show rs st.2=_;unfold rs;rw[x5 aH]
def aHK(s:aP)(r:Res St):muR s r≤s.length*2+2:=by
 cases r with
 |ok st=>have:=xP s st;show mu s st+1≤_;omega
 |error e=>exact x9 _
section
variable{s:aP}{needs:List aP}{n:Nat}{st:St}
def bFT{r:Res St}{F:St→Res (Tree×St)}{t:Tree}{e:Int×Int}(h:F st=.error e)(hr:r=.error e):RV (bd (.ok st) F) t r:=by subst hr;show RV (F st) t _;rw[h];rfl
def aKL{r:Res St}{F G:St→Res (Tree×St)}{t:Tree}(h:F st=G st)(hr:RV (bd (.ok st) G) t r):RV (bd (.ok st) F) t r:=by show RV (F st) t r;rw[h];exact hr
def aUQ(hk:st.2.kind=1)(hw:rS (.ok st)=st.2.s)(h:(decide (rS (.ok st)=j6)||decide (rS (.ok st)=iB))=true):∃c,rS (.ok st)=(if c=true then j6 else iB)∧test s needs (n+1) st=m9 s c st:=by
 rw[hw]at h ⊢;simp only[Bool.or_eq_true,decide_eq_true_eq]at h;rcases h with h|h
 ·exact⟨true,h,bA6 hk h⟩
 exact⟨false,h,aUR hk h⟩
def aUS(hk:st.2.kind=1)(hw:rS (.ok st)=st.2.s)(h:(decide (rS (.ok st)=lZ)||decide (rS (.ok st)=l4))=true):∃all,rS (.ok st)=xM all∧test s needs (n+1) st=pD s (test s needs n) all st:=by
 rw[hw]at h ⊢;simp only[Bool.or_eq_true,decide_eq_true_eq]at h;rcases h with h|h
 ·exact⟨true,h,aK2 hk h⟩
 exact⟨false,h,aK2 (all:=false) hk h⟩
def bA3(hk:st.2.kind=1)(hw:rS (.ok st)=st.2.s)(h:(decide (rS (.ok st)=gU)||(decide (rS (.ok st)=dS)||decide (rS (.ok st)=gV)))=true):(rS (.ok st)=gU∨rS (.ok st)=dS∨rS (.ok st)=gV)∧test s needs (n+1) st=l9 s needs (opW (rS (.ok st))) (extW (rS (.ok st))) st:=by
 simp only[Bool.or_eq_true,decide_eq_true_eq]at h;exact⟨h,by rw[hw]at h ⊢;exact bGX hk h⟩
def bIV{w:aP}(h:w=gU∨w=dS∨w=gV):matW (opW w)=w:=by rcases h with rfl|rfl|rfl <;> rfl
def aRA(hk:st.2.kind=1)(hw:rS (.ok st)=st.2.s)(h1:¬rS (.ok st)=j6∧¬rS (.ok st)=iB)(h2:¬rS (.ok st)=rJ)(h3:¬rS (.ok st)=lZ∧¬rS (.ok st)=l4)(h4:¬rS (.ok st)=gU∧¬rS (.ok st)=dS∧¬rS (.ok st)=gV)(h5:¬rS (.ok st)=kP)(h6:¬rS (.ok st)=nL):test s needs (n+1) st=.error (4,st.2.at_):=by
 rw[hw]at*;exact aUT hk h1.1 h1.2 h2 h3.1 h3.2 h4.1 h4.2.1 h4.2.2 h5 h6
def bM2{K:Hl}{r:Res St}{t:Tree}{v:Cell}{b:Nat}{tv:Value}(h:RX K r t [v] [])(h2:Ksl (cC 159) K tv [v])(hk:K b=some (tsO rJ tv nilS nilS 0 false 0)):RX K r (.not_ t) [pcl b] []:=by
 cases r with
 |ok q=>exact⟨Y,b,v,tv,Y,h,h2,hk⟩
 |error e=>trivial
def bJL{K7 K:Hl}{r:Res St}{t:Tree}{us:List Cell}{b:Nat}{tv:Value}{all:Bool}(h2:Ksl (cC 159) K7 tv us)(h:RX K r t us [])(le:K7.le K)(hk:K b=some (tsO (xM all) tv nilS nilS 0 false 0)):RX K (rsig s 41 r) (.many all t) [pcl b] []:=by
 cases r with
 |ok q=>exact xW ⟨Y,b,us,tv,Y,h,h2.mono le,hk⟩
 |error e=>rw[kO (by decide)];trivial
def bJM{K:Hl}{r2 r3:Res St}{b:Nat}{n:Int}(h3:r3=if (ovr r2||und r2)=true then r2 else rf (4,rW s r2) r2)(hk:K b=some (tsO nL nilS nilS nilS (if ovr r2=true then 1 else if und r2=true then 2 else 0) false n)):RX K (rsig s 48 (nx s r3)) (.siz (if ovr r2=true then 1 else 2) n) [pcl b] []:=by
 by_cases hc:(ovr r2||und r2)=true
 ·refine xW ⟨Y,b,Y,?_⟩
  rw[hk];cases ho:ovr r2 with
  |true=>rfl
  |false=>rw[ho]at hc;rw[show und r2=true from hc];rfl
 rw[x5 hc]at h3;subst h3;have:∃e,nx s (rf (4,rW s r2) r2)=.error e:=by cases r2 <;> exact⟨_,Y⟩
 obtain⟨e,he⟩:=this;rw[he,kO (by decide)];trivial
def bK7{K:Hl}{r:Res St}{t:Tree}{us ws:List Cell}(h:RX K r t us ws):RX K (nx s r) t us ws:=by
 cases r with
 |ok q=>exact xW h
 |error e=>trivial
def aQR{t:Tree}:∀ {l:Tree},isTL l=true→isTL (l.snocT t)=true
 | .tnil,_=>rfl
 | .tcons x l,h=>aQR (l:=l) h
def bFX{K:Hl}{r r2:Res St}{F:St→Res (Tree×St)}{t acc:Tree}{us:List Cell}{v:Cell}(hv:RV (bd r F) t r2)(hL:isTL acc=true)(h1:RX K r acc us [])(h2:RX K r2 t [v] []):RX K r2 (acc.snocT t) (us++[v]) []:=by
 cases r2 with
 |error e=>trivial
 |ok q=>
  cases r with
  |error e=>cases (show Except.error e=.ok q from (by have h3:Except.ok q=.error e:=hv;exact h3.symm))
  |ok st=>exact(bFM h2 hL h1).1
end
def RTe(rb tb:Nat)(s:aP)(nv:Value)(x:Res (Tree×St)):Ending→Hl→List Asn→Prop:=Ret fun v K' L'=>∃b t r',v=ptr b∧RV x t r'∧ROk s r'∧RX K' r' t [pcl b] []∧L'=[rdb rb tb nv,rtx tb s r']
def pM{rb tb b:Nat}{s:aP}{nv:Value}{x:Res (Tree×St)}{K:Hl}{t:Tree}{r:Res St}(hv:RV x t r)(ho:ROk s r)(hx:RX K r t [pcl b] []):RTe rb tb s nv x (.returned (ptr b)) K [rdb rb tb nv,rtx tb s r]:=⟨_,rfl,b,t,r,rfl,hv,ho,hx,rfl⟩
def aH4(rb tb:Nat)(s:aP)(nv:Value)(needs:List aP)(hs:s.length≤600)(hn:needs.length≤10000000)(n:Nat)(hn7:n≤7)(K:Hl)(hv:Ksl (a7 9) K nv needs)(d:Int)(hd:d=7 - (n:Int))(r:Res St)(hr:ROk s r)
  (ih:∀m,n=m+1→∀K',K.le K'→∀(d:Int) (r:Res St),d=7 - (m:Int)→ROk s r→Sp x3 186 [ptr rb,i64 d] K' [rdb rb tb nv,rtx tb s r] (RTe rb tb s nv (bd r (test s needs m)))):
  Sp x3 186 [ptr rb,i64 d] K [rdb rb tb nv,rtx tb s r] (RTe rb tb s nv (bd r (test s needs n))):=by
 refine bN Tryz.func186 Y Tryz.ntmps186 Y Y fun F w=>?_;refine zz15 ?_;refine aA (dG bO6 tb203f dF) Y (zz1 ?_);rintro _ K _ ⟨b17,rfl,rfl,rfl⟩ -;refine zz16 ?_;refine aY 25 Y (fun h25=>?_) (fun h25=>?_)
 ·obtain⟨e,rfl⟩:=bMR h25;refine zz8 ?_;refine fB fun K8 leP hP=>?_;refine bI Y Y leP ?_;exact pM (t:=.const true) Y hr trivial
 obtain⟨st,rfl⟩:=bK4 hr aH;refine zz16 ?_;refine aY 35 Y (fun h35=>?_) (fun h35=>?_)
 ·have hq:=bA2 (s:=s) (needs:=needs) (n:=n) (st:=st) (fun h=>absurd ((qQ hr.2).2 h) (show ¬rK (.ok st)=119 by omega));refine aI ?_;refine cZ (anc:=[0,1,3,7,0,16,48,112,240,496,1008,2032,4095]) (ord:=[0,1,2,3,4,5,6,7,8,9,10,11,12]) [12] [12] mixed gC5 (cQ _) (zz12 ?_);refine eQ Y (.none Y) Y Y Y (m5 tb s (.ok st) 4 (rW s (.ok st)) hr aH _) bS Y ?_;rintro _ K _ ⟨rfl,rfl,rfl⟩ -;refine zz10 ?_;refine uAv ?_;refine fB fun K8 leP hP=>?_;refine bI Y Y leP ?_;exact pM (t:=.const true) (bFT hq Y) (t6 (by decide)) trivial
 have hk:st.2.kind=1:=(qQ hr.2).1 (show rK (.ok st)=119 by omega);have hws:rS (.ok st)=st.2.s:=aFW hk;refine zz9 ?_;refine aY 51 Y (fun h51=>?_) (fun h51=>?_)
 ·obtain rfl:n=0:=by omega
  have hq:=bA0 (s:=s) (needs:=needs) hk;refine aI ?_;refine cZ (anc:=[0,1,3,7,0,16,48,112,240,496,1008,2032,4095]) (ord:=[0,1,2,3,4,5,6,7,8,9,10,11,12]) [12] [12] mixed gC5 (cQ _) (zz12 ?_);refine eQ Y (.none Y) Y Y Y (m5 tb s (.ok st) 5 (rW s (.ok st)) hr aH _) bS Y ?_;rintro _ K _ ⟨rfl,rfl,rfl⟩ -;refine zz10 ?_;refine uAv ?_;refine fB fun K8 leP hP=>?_;refine bI Y Y leP ?_;exact pM (t:=.const true) (bFT hq Y) (t6 (by decide)) trivial
 obtain⟨m,rfl⟩:∃m,n=m+1:=⟨n - 1,by omega⟩;have ihm:=ih m rfl;clear ih;have hA:=nI (s:=s) (needs:=needs) m;refine zz12 ?_;refine dX (fun(_:Unit)=>True) (fun _=>[(0,ptr rb),(1,i64 d),(5,ptr b17),(69,str (rS (.ok st))),(83,.bool (decide (rS (.ok st)=j6)||decide (rS (.ok st)=iB)))]) (fun _=>K) (fun _=>[tsb b17 (rS (.ok st)) nilS nilS nilS 0 false 0,rdb rb tb nv,rtx tb s (.ok st)]) ?_ ?_
 ·refine zz6 ?_;refine aY 83 Y (fun h83=>?_) (fun h83=>?_)
  ·refine aW ?_;exact a8 () trivial (.cons 0 Y (.cons 1 Y (.cons 5 Y (.cons 69 Y (.cons 83 gDA .nil))))) Y (fun _ h=>h)
  refine zz4 ?_;exact a8 () trivial (.cons 0 Y (.cons 1 Y (.cons 5 Y (.cons 69 Y (.cons 83 gDA .nil))))) Y (fun _ h=>h)
 intro _ _;refine d9 83 Y (fun h83=>?_) (fun h83=>?_)
 ·obtain⟨c,hc,hq⟩:=aUQ (s:=s) (needs:=needs) (n:=m) hk hws h83;refine zz5 ?_;refine bA Y Y (gF tb s (.ok st) hr aH _) bS Y ?_;rintro _ K _ ⟨rfl,rfl,rfl⟩ -;have ho:=lE hr;refine zz10 ?_;refine uAv ?_;refine fB fun K8 leP hP=>?_;refine bI Y Y leP ?_;exact pM (t:=.const c) (aKL hq bFS) ho (xW ⟨Y,b17,Y,by rw[←hc];exact hP⟩)
 have h1:=bK1 h83;refine zz6 ?_;refine aY 91 Y (fun h91=>?_) (fun h91=>?_)
 ·have hc:rS (.ok st)=rJ:=h91;have hq:=bGY (s:=s) (needs:=needs) (n:=m) hk (hws▸hc);refine zz6 ?_;refine bA Y Y (gF tb s (.ok st) hr aH _) bS Y ?_;rintro _ K _ ⟨rfl,rfl,rfl⟩ -;have hr2:=lE hr;refine zz7 ?_;refine bA Y Y (ihm _ (xAB _) _ _ aH hr2) bS Y ?_;rintro _ K1 _ ⟨bt,t,r1,rfl,hv1,ho1,hx1,rfl⟩ le1;refine zz6 ?_;refine cJ (bM (z0:=[.pointer none]) iS tz159 Y Y Y Y dF) Y ?_;rintro _ K _ ⟨b104,rfl,rfl,rfl⟩ -;refine zz2 ?_;refine cD (bX ts153 Y Y dA bR aZe Y) ?_;rintro _ K _ ⟨rfl,rfl⟩ -;refine zz10 ?_;refine fB fun K7 leS hS=>?_;refine uAx ?_;refine fB fun K8 leP hP=>?_;refine bI Y Y (x6 le1 (x6 leS leP)) ?_;exact pM (aKL hq (bMX hv1)) ho1 (bM2 (hx1.mono (x6 leS leP)) (.inr ⟨b104,0,1,[ptr bt],(0,0),Y,⟨_,leP _ _ hS⟩,Y⟩) (by rw[←hc];exact hP))
 refine dX (fun(_:Unit)=>True) (fun _=>[(0,ptr rb),(1,i64 d),(5,ptr b17),(69,str (rS (.ok st))),(107,.bool (decide (rS (.ok st)=lZ)||decide (rS (.ok st)=l4)))]) (fun _=>K) (fun _=>[tsb b17 (rS (.ok st)) nilS nilS nilS 0 false 0,rdb rb tb nv,rtx tb s (.ok st)]) ?_ ?_
 ·refine zz6 ?_;refine aY 107 Y (fun h107=>?_) (fun h107=>?_)
  ·refine aW ?_;exact a8 () trivial (.cons 0 Y (.cons 1 Y (.cons 5 Y (.cons 69 Y (.cons 107 gDA .nil))))) Y (fun _ h=>h)
  refine zz4 ?_;exact a8 () trivial (.cons 0 Y (.cons 1 Y (.cons 5 Y (.cons 69 Y (.cons 107 gDA .nil))))) Y (fun _ h=>h)
 intro _ _;refine d9 107 Y (fun h107=>?_) (fun h107=>?_)
 ·obtain⟨all,hc,hq⟩:=aUS (s:=s) (needs:=needs) (n:=m) hk hws h107;refine zz6 ?_;refine bA Y Y (gF tb s (.ok st) hr aH _) bS Y ?_;rintro _ K _ ⟨rfl,rfl,rfl⟩ -;have hr2:=lE hr;refine zz5 ?_;refine bA Y Y (mB rb tb s nv (nx s (.ok st)) 40 hr2 aH _) bS Y ?_;rintro _ K _ ⟨rfl,rfl,rfl⟩ -;have hN:=aTD (T:=test s needs m) (all:=all) hr;have hr3:=r9 (c:=40) hr2;rw[show (40:UInt8).toNat=40 from rfl]
  generalize rsig s 40 (nx s (.ok st))=r3 at*
  refine zz4 ?_;refine nZ (fun(K3:Hl) (r4:Res St) (au:Tree×List Cell) (tv:Value)=>K.le K3∧ROk s r4∧NInv s (test s needs m) all (bd (.ok st) (pD s (test s needs m) all)) r4 au.1∧RX K3 r4 au.1 au.2 []∧isTL au.1=true∧au.2.length+muR s r4≤2000) (fun _ _ _ _=>[(0,ptr rb),(1,i64 d),(5,ptr b17)]) (fun K3 _ _ _=>K3) (fun _ r4 au tv=>[sl false (cC 159) tv au.2,tsb b17 (rS (.ok st)) tv nilS nilS 0 false 0,rdb rb tb nv,rtx tb s r4]) (fun _ r4 _ _=>muR s r4) K r3 (.tnil,[]) nilS ⟨xAB _,hr3,hN,xW ⟨Y,Y⟩,Y,by have:=aHK s r3;simp;omega⟩ aS Y (fun h hh=>eL (cC 159) _ (by simpa using Tks.sat (N:=[]) (aM e7 (aM bW (aM bW bF))) h hh)) ?_;intro K3 r4 ⟨acc,us⟩ tv ⟨leK,hr4,hN4,hX4,hL4,hm4⟩;simp only at hN4 hX4 hL4 hm4;refine zz6 ?_;refine bA Y Y (ihm _ leK _ _ aH hr4) bS Y ?_;rintro _ K5 _ ⟨bt,t,r5,rfl,hv5,ho5,hx5,rfl⟩ le5;have hM:=aZG hA hr4 hN4 hv5;have hX5:=bFX hv5 hL4 (hX4.mono le5) hx5;have hL5:=aQR (t:=t) hL4;refine zz11 ?_;refine cJ (bM (z0:=[.pointer none]) iS tz159 Y Y Y Y dF) Y ?_;rintro _ K _ ⟨b127,rfl,rfl,rfl⟩ -;refine cJ (dQ (k:=(cC 159)) (ys:=[pcl bt]) aAC Y Y (.there (.there (.there .here))) (fun w j=>dJ Tryz.underlying153 (SeesSl.at (.blk aL Y Y) j)) gC7 gC9) Y ?_;rintro v128 K _ ⟨rfl,rfl,ho128⟩ -;refine zz2 ?_;refine cD (bX ts153 Y Y dA bR aZe Y) ?_;rintro _ K _ ⟨rfl,rfl⟩ -;refine zz3 ?_;refine dX (fun(_:Unit)=>True) (fun _=>[(0,ptr rb),(1,i64 d),(5,ptr b17),(149,.bool (decide (¬rK r5=44)))]) (fun _=>K) (fun _=>[sl false (cC 159) v128 (us++[pcl bt]),tsb b17 (rS (.ok st)) v128 nilS nilS 0 false 0,rdb rb tb nv,rtx tb s r5]) ?_ ?_
  ·refine zz10 ?_;refine bV 139 Y (fun g139=>?_) (fun g139=>?_)
   ·refine zz11 ?_;refine aQ (aM bW (aM nC (aM cI (aM cI bF)))) ?_;exact a8 () trivial (.cons 0 Y (.cons 1 Y (.cons 5 Y (.cons 149 gE6 .nil)))) Y (fun _ h=>h)
   refine zz20 ?_;refine aQ (aM bW (aM nC (aM cI (aM cI bF)))) ?_;exact a8 () trivial (.cons 0 Y (.cons 1 Y (.cons 5 Y (.cons 149 gE6 .nil)))) Y (fun _ h=>h)
  intro _ _;refine aY 149 Y (fun h149=>?_) (fun h149=>?_)
  ·refine zz8 ?_;refine bA Y Y (mB rb tb s nv r5 41 ho5 aH _) bS Y ?_;rintro _ K _ ⟨rfl,rfl,rfl⟩ -;refine zz10 ?_;refine aQ (aM e7 (aM e7 (aM bW (aM bW bF)))) ?_;refine gW fun K7 leS hS=>?_;refine fB fun K8 leP hP=>?_;refine bI Y Y (x6 (x6 leK le5) (x6 leS leP)) ?_;exact pM (aKL hq (bD2 ho5 hM.1 h149)) (r9 ho5) (bJL hS (hX5.mono (x6 leS leP)) leP (by rw[←hc];exact hP))
  have h149:rK r5=44:=xBD.1 h149;refine zz7 ?_;refine bA Y Y (gF tb s r5 ho5 aH _) bS Y ?_;rintro _ K _ ⟨rfl,rfl,rfl⟩ -;refine zz2 ?_;have hn7:=aY6 ho5 hM.1 h149 hA;refine aQ (aM cI (aM cI (aM cI (aM bW bF)))) ?_;refine fH K (nx s r5) (acc.snocT t,us++[pcl bt]) _ ⟨x6 leK le5,lE ho5,hn7.1,bK7 hX5,hL5,by simp only[List.length_append,List.length_singleton];omega⟩ aH aS Y (fun _ h=>h)
 have h3:=bK1 h107;refine dX (fun(_:Unit)=>True) (fun _=>[(0,ptr rb),(1,i64 d),(5,ptr b17),(69,str (rS (.ok st))),(157,.bool (decide (rS (.ok st)=gU)||(decide (rS (.ok st)=dS)||decide (rS (.ok st)=gV))))]) (fun _=>K) (fun _=>[tsb b17 (rS (.ok st)) nilS nilS nilS 0 false 0,rdb rb tb nv,rtx tb s (.ok st)]) ?_ ?_
 ·refine zz6 ?_;refine aY 157 Y (fun h157=>?_) (fun h157=>?_)
  ·refine aW ?_;exact a8 () trivial (.cons 0 Y (.cons 1 Y (.cons 5 Y (.cons 69 Y (.cons 157 gDA .nil))))) Y (fun _ h=>h)
  refine zz6 ?_;refine aY 157 Y (fun h157=>?_) (fun h157=>?_)
  ·refine aW ?_;exact a8 () trivial (.cons 0 Y (.cons 1 Y (.cons 5 Y (.cons 69 Y (.cons 157 gDA .nil))))) Y (fun _ h=>h)
  refine zz4 ?_;exact a8 () trivial (.cons 0 Y (.cons 1 Y (.cons 5 Y (.cons 69 Y (.cons 157 gDA .nil))))) Y (fun _ h=>h)
 intro _ _;refine d9 157 Y (fun h157=>?_) (fun h157=>?_)
 ·obtain⟨hc,hq⟩:=bA3 (s:=s) (needs:=needs) (n:=m) hk hws h157;refine zz3 ?_;refine bA Y Y (aHZ rb tb b17 s nv needs (rS (.ok st)) (.ok st) hc hr hs _ hv hn) bS Y ?_;rintro _ K1 _ ⟨rfl,av,bv,xs,ys,tag,oct,r1,hv1,ho1,hka,hkb,rfl⟩ le1;refine zz10 ?_;refine fB fun K8 leP hP=>?_;refine bI Y Y (x6 le1 leP) ?_;exact pM (aKL hq hv1) ho1 (xW ⟨Y,b17,av,bv,Y,hka.mono leP,hkb.mono leP,by rw[bIV hc];exact hP⟩)
 have h4:=aTG h157;refine zz6 ?_;refine aY 164 Y (fun h164=>?_) (fun h164=>?_)
 ·have hc:rS (.ok st)=kP:=h164;have hq:=aQ9 (s:=s) (needs:=needs) (n:=m) hk (hws▸hc);refine zz6 ?_;refine bA Y Y (gF tb s (.ok st) hr aH _) bS Y ?_;rintro _ K _ ⟨rfl,rfl,rfl⟩ -;have hr2:=lE hr;refine zz5 ?_;refine bA Y Y (qR rb tb s nv 0 (nx s (.ok st)) (by decide) hr2 hs _) bS Y ?_;rintro va K1 _ ⟨xs,r1,hv1,ho1,hx1,hx1b,rfl⟩ le1;refine bI1 fun hfit=>?_;refine fZ fun K7 leS hS=>?_;have hone:=hS.one;refine zz2 ?_;refine uAh ?_;rintro _ K _ ⟨rfl,rfl⟩ -;refine zz10 ?_;refine uAx ?_;refine fB fun K8 leP hP=>?_;refine bI Y Y (x6 le1 (x6 leS leP)) ?_;exact pM (aKL hq (aZ3 hv1)) ho1 (xW ⟨Y,b17,va,Y,hS.mono leP,hfit,by rw[←hc];exact hP⟩)
 refine zz6 ?_;refine aY 176 Y (fun h176=>?_) (fun h176=>?_)
 ·have hc:rS (.ok st)=nL:=h176;have hq:=bA4 (s:=s) (needs:=needs) (n:=m) hk (hws▸hc);refine zz6 ?_;refine bA Y Y (gF tb s (.ok st) hr aH _) bS Y ?_;rintro _ K _ ⟨rfl,rfl,rfl⟩ -;have hr2:=lE hr;have hsz:=fun r3=>bJK (s:=s) hr (r3:=r3)
  generalize nx s (.ok st)=r2 at*
  refine aTF (aM cI (aM cI (aM bW bF))) (zz2 ?_);refine dX (fun(_:Unit)=>True) (fun _=>[(0,ptr rb),(1,i64 d),(5,ptr b17)]) (fun _=>K) (fun _=>[tsb b17 (rS (.ok st)) nilS nilS nilS (if ovr r2=true then 1 else if und r2=true then 2 else 0) false 0,rdb rb tb nv,rtx tb s (if (ovr r2||und r2)=true then r2 else rf (4,rW s r2) r2)]) ?_ ?_
  ·refine bD ?_;refine dX (fun(_:Unit)=>True) (fun _=>[(0,ptr rb),(1,i64 d),(5,ptr b17),(196,.bool (ovr r2))]) (fun _=>K) (fun _=>[tsb b17 (rS (.ok st)) nilS nilS nilS 0 false 0,rdb rb tb nv,rtx tb s r2]) ?_ ?_
   ·refine zz11 ?_;refine bV 206 Y (fun g206=>?_) (fun g206=>?_)
    ·refine zz21 ?_;exact a8 () trivial (.cons 0 Y (.cons 1 Y (.cons 5 Y (.cons 196 gE9 .nil)))) Y (fun _ h=>h)
    refine zz12 ?_;exact a8 () trivial (.cons 0 Y (.cons 1 Y (.cons 5 Y (.cons 196 gE9 .nil)))) Y (fun _ h=>h)
   intro _ _;refine d9 196 Y (fun h196=>?_) (fun h196=>?_)
   ·refine zz4 ?_;refine uAb ?_;rintro _ K _ ⟨rfl,rfl⟩ -;refine zz2 ?_
    first
     |exact gC0
     |exact gCU
     |exact gCC
   refine dX (fun(_:Unit)=>True) (fun _=>[(0,ptr rb),(1,i64 d),(5,ptr b17),(220,.bool (und r2))]) (fun _=>K) (fun _=>[tsb b17 (rS (.ok st)) nilS nilS nilS 0 false 0,rdb rb tb nv,rtx tb s r2]) ?_ ?_
   ·refine zz11 ?_;refine bV 230 Y (fun g230=>?_) (fun g230=>?_)
    ·refine zz21 ?_;exact a8 () trivial (.cons 0 Y (.cons 1 Y (.cons 5 Y (.cons 220 gE8 .nil)))) Y (fun _ h=>h)
    refine zz12 ?_;exact a8 () trivial (.cons 0 Y (.cons 1 Y (.cons 5 Y (.cons 220 gE8 .nil)))) Y (fun _ h=>h)
   intro _ _;refine d9 220 Y (fun h220=>?_) (fun h220=>?_)
   ·refine zz4 ?_;refine uAb ?_;rintro _ K _ ⟨rfl,rfl⟩ -;refine zz2 ?_
    first
     |exact gC0
     |exact gCU
     |exact gCC
   refine cZ (anc:=[0,1,3,7,0,16,48,112,240,496,1008,2032,4095]) (ord:=[0,1,2,3,4,5,6,7,8,9,10,11,12]) [12] [12] mixed gC5 (cQ _) (zz12 ?_);refine eQ Y (.none Y) Y Y Y (m5 tb s r2 4 (rW s r2) hr2 aH _) bS Y ?_;rintro _ K _ ⟨rfl,rfl,rfl⟩ -;refine zz2 ?_
   first
    |exact gC0
    |exact gCU
    |exact gCC
  intro _ _;obtain⟨r3,h3⟩:∃r3,r3=(if (ovr r2||und r2)=true then r2 else rf (4,rW s r2) r2):=⟨_,rfl⟩;have hr3:ROk s r3:=(by rw[h3];exact bFG hr2 (show (4:Int)≠0 by decide));rw[←h3];have hq2:=hsz r3 h3;refine zz6 ?_;refine bA Y Y (gF tb s r3 hr3 aH _) bS Y ?_;rintro _ K _ ⟨rfl,rfl,rfl⟩ -;have hr4:=lE hr3;refine zz15 ?_;refine uAb ?_;rintro _ K _ ⟨rfl,rfl⟩ -;refine zz4 ?_;refine bA Y Y (mB rb tb s nv (nx s r3) 48 hr4 aH _) bS Y ?_;rintro _ K _ ⟨rfl,rfl,rfl⟩ -;refine zz10 ?_;refine uAx ?_;refine fB fun K8 leP hP=>?_;refine bI Y Y leP ?_;exact pM (aKL hq hq2) (r9 hr4) (bJM h3 (by rw[←hc];exact hP))
 have hq:=aRA (s:=s) (needs:=needs) (n:=m) hk hws h1 h91 h3 h4 h164 h176;refine cZ (anc:=[0,1,3,7,0,16,48,112,240,496,1008,2032,4095]) (ord:=[0,1,2,3,4,5,6,7,8,9,10,11,12]) [12] [12] mixed gC5 (cQ _) (zz12 ?_);refine eQ Y (.none Y) Y Y Y (m5 tb s (.ok st) 4 (rW s (.ok st)) hr aH _) bS Y ?_;rintro _ K _ ⟨rfl,rfl,rfl⟩ -;refine zz10 ?_;refine uAv ?_;refine fB fun K8 leP hP=>?_;refine bI Y Y leP ?_;exact pM (t:=.const true) (bFT hq Y) (t6 (by decide)) trivial
def aT1(rb tb:Nat)(s:aP)(nv:Value)(needs:List aP)(hs:s.length≤600)(hn:needs.length≤10000000):∀n:Nat,n≤7→∀K,Ksl (a7 9) K nv needs→∀(d:Int) (r:Res St),d=7 - (n:Int)→ROk s r→
  Sp x3 186 [ptr rb,i64 d] K [rdb rb tb nv,rtx tb s r] (RTe rb tb s nv (bd r (test s needs n))):=by
 intro n;induction n with
 |zero=>intro h7 K hv d r hd hr;exact aH4 rb tb s nv needs hs hn 0 h7 K hv d hd r hr (fun m h=>by omega)
 |succ n ih=>
  intro h7 K hv d r hd hr;refine aH4 rb tb s nv needs hs hn (n+1) h7 K hv d hd r hr ?_;intro m h K' le d r hd hr;obtain rfl:n=m:=by omega
  exact ih aH K' (hv.mono le) d r hd hr
end Go.Proofs
end
section
namespace Go.Syn
open Go Go.SL Go.Proofs
section
variable{s:aP}{needs:List aP}
def cmdO(s:aP)(needs:List aP):Nat→St→Option (Res (Tree×St))
 |0,st=>some (.error (5,st.2.at_))
 |n+1,st=>cmdD s needs (test s needs n) (block s needs n) st
def cmdX(s:aP)(needs:List aP)(n:Nat)(st:St):Res (Tree×St):=match cmdO s needs n st with
 |some r=>r
 |none=>.error (4,st.2.at_)
def aW7(n:Nat)(st:St):block s needs n st=kQ s (cmdO s needs n) (mu s st+1) .cnil st:=by
 cases n with
 |zero=>
  unfold block kQ
  by_cases h:st.2.kind=1
  ·rw[x7 h,x7 h];rfl
  rw[x5 h,x5 h]
 |succ n=>rfl
def bCA{n:Nat}{st:St}{r:Tree×St}(hok:Ok s st)(hk:st.2.kind≠0)(e:cmdO s needs n st=some (.ok r)):Ok s r.2∧mu s r.2 < mu s st:=by
 cases n with
 |zero=>cases e
 |succ n=>exact aBI (nI n) (sF n) hok hk e
def BInv(s:aP)(C:St→Option (Res (Tree×St)))(W:Res (Tree×St))(r:Res St)(acc:Tree):Prop:=match r with
 | .ok st=>∃f,mu s st≤f∧W=kQ s C (f+1) acc st
 | .error e=>W=.error e
def aRU{n:Nat}{r:Res St}:BInv s (cmdO s needs n) (bd r (block s needs n)) r .cnil:=by
 cases r with
 |error e=>rfl
 |ok st=>exact⟨mu s st,xAA _,aW7 n st⟩
def aW5{n:Nat}{W:Res (Tree×St)}{st:St}{acc t:Tree}{r2:Res St}(hok:Ok s st)(hk:st.2.kind=1)(hi:BInv s (cmdO s needs n) W (.ok st) acc)(h:RV (cmdX s needs n st) t r2):BInv s (cmdO s needs n) W r2 (acc.snocC t)∧muR s r2 < muR s (.ok st):=by
 obtain⟨f,hf,hW⟩:=hi;simp only[kQ]at hW;rw[x7 hk]at hW;unfold cmdX at h;cases hc:cmdO s needs n st with
 |none=>rw[hc]at hW h;cases (show r2=.error _ from h);exact⟨hW,Nat.succ_pos _⟩
 |some x=>
  rw[hc]at hW h;cases x with
  |error e=>cases (show r2=.error _ from h);exact⟨hW,Nat.succ_pos _⟩
  |ok c=>
   obtain⟨rfl,rfl⟩:=RV.ok h;have hm:=(bCA hok aH hc).2;obtain⟨g,rfl⟩:∃g,f=g+1:=⟨f - 1,by omega⟩;exact⟨⟨g,by omega,hW⟩,by show mu s c.2+1 < mu s st+1;omega⟩
def bBY{C:St→Option (Res (Tree×St))}{W:Res (Tree×St)}{r:Res St}{acc:Tree}(hr:ROk s r)(hi:BInv s C W r acc)(hk:rK r≠119):RV W acc r:=by
 cases r with
 |error e=>rw[show W=.error e from hi];rfl
 |ok st=>
  obtain⟨f,hf,hW⟩:=hi;simp only[kQ]at hW;rw[x5 (fun h=>hk ((qQ hr.2).2 h))]at hW;rw[hW];exact⟨Y,Y⟩
def bJJ{B:St→Res (Tree×St)}{r r2:Res St}{t:Tree}(hr:ROk s r)(hr2:ROk s r2)(h:RV (bd (rsig s 123 r) B) t r2):RV (bd r (kV s B)) t (rsig s 125 r2):=by
 rw[aRS (s:=s) (c:=123) (F:=kV s B) (G:=fun q=>match B q with| .error e=>.error e| .ok b=>match sign s b.2 [125]with| .error e=>.error e| .ok r=>.ok (b.1,r)) (by decide) hr fun st=>rfl];rw[show (123:UInt8).toNat=123 from rfl]
 generalize rsig s 123 r=q at*
 cases q with
 |error e=>cases (show r2=.error _ from h);exact kO (by decide)
 |ok st=>
  show RV (match B st with| .error e=>_| .ok b=>match sign s b.2 [125]with| .error e=>_| .ok r=>_) t _
  have h2:RV (B st) t r2:=h;cases hb:B st with
  |error e=>rw[hb]at h2;cases (show r2=.error _ from h2);exact kO (by decide)
  |ok b=>
   rw[hb]at h2;obtain⟨rfl,rfl⟩:=h2.ok;have:=qG (s:=s) (c:=125) (by decide) hr2;rw[show (125:UInt8).toNat=125 from rfl]at this;rw[this]
   show RV (match sign s b.2 [125]with| .error e=>_| .ok r=>_) _ (sign s b.2 [125])
   cases sign s b.2 [125]with
   |error e=>rfl
   |ok q=>exact⟨Y,Y⟩
def FInv(s:aP)(T B:St→Res (Tree×St))(W:Res (Tree×St))(r:Res St)(acc:Tree):Prop:=match bd r T with
 | .error e=>W=.error e
 | .ok t=>match kV s B t.2 with
  | .error e=>W=.error e
  | .ok b=>∃f,mu s b.2≤f∧W=hO s T B (f+1) (acc.snocB (some t.1) b.1) b.2
def EInv(s:aP)(T B:St→Res (Tree×St))(W:Res (Tree×St))(r:Res St)(acc:Tree):Prop:=match r with
 | .ok st=>∃f,mu s st≤f∧W=hO s T B (f+1) acc st
 | .error e=>W=.error e
def aST{T B:St→Res (Tree×St)}{r:Res St}:FInv s T B (bd r (ifC s T B)) (nx s r) .bnil:=by
 rw[aGC (s:=s) (F:=ifC s T B) (G:=fun q=>match T q with| .error e=>.error e| .ok t=>match kV s B t.2 with| .error e=>.error e| .ok b=>hO s T B (mu s b.2+1) (.bcons t.1 b.1 .bnil) b.2) fun st=>rfl]
 generalize nx s r=q
 unfold FInv;cases q with
 |error e=>rfl
 |ok st=>
  show match T st with| .error e=>_| .ok t=>_
  simp only[bd];cases T st with
  |error e=>rfl
  |ok t=>
   simp only[];cases kV s B t.2 with
   |error e=>rfl
   |ok b=>exact⟨_,xAA _,Y⟩
def aX2{T B:St→Res (Tree×St)}(hT:Adv s T)(hB:AdvE s B){W:Res (Tree×St)}{r r2 r3:Res St}{acc t b:Tree}(hr:ROk s r)(hi:FInv s T B W r acc)(h:RV (bd r T) t r2)(h3:RV (bd r2 (kV s B)) b r3):EInv s T B W r3 (acc.snocB (some t) b)∧muR s r3≤muR s r:=by
 unfold FInv at hi;cases hx:bd r T with
 |error e=>
  rw[hx]at hi h;cases (show r2=.error e from h)
  cases (show r3=.error e from h3)
  exact⟨hi,x9 _⟩
 |ok p=>
  rw[hx]at hi h;obtain⟨rfl,rfl⟩:=h.ok;cases r with
  |error e=>cases hx
  |ok st=>
   have hm:=hT st p hr.1 hx;have h3':RV (kV s B p.2) b r3:=h3;simp only[]at hi;cases hb:kV s B p.2 with
   |error e=>rw[hb]at hi h3';cases (show r3=.error e from h3');exact⟨hi,x9 _⟩
   |ok q=>
    rw[hb]at hi h3';obtain⟨rfl,rfl⟩:=h3'.ok;have hm2:=(mX hB p.2 q hm.1 hb).2;exact⟨hi,by show mu s q.2+1≤mu s st+1;omega⟩
def aXS{T B:St→Res (Tree×St)}(hT:Adv s T)(hB:AdvE s B){W:Res (Tree×St)}{r:Res St}{acc:Tree}(h:ROk s r)(hi:EInv s T B W r acc)(hk:rK r=119)(hw:rS r=sE):FInv s T B W (nx s r) acc∧muR s (nx s r) < muR s r:=by
 obtain⟨st,rfl⟩:=zW (r:=r) aH;obtain⟨f,hf,hW⟩:=hi;have h1:=(qQ h.2).1 hk;have hs:st.2.s=sE:=by have e:rs st.2=st.2.s:=(by unfold rs;rw[x5 aH]);rw[←e];exact hw
 simp only[hO]at hW;rw[x7 ⟨h1,hs⟩]at hW
 show FInv s T B W (next s st.1) acc∧muR s (next s st.1) < _
 cases hn:next s st.1 with
 |error e=>rw[hn]at hW;exact⟨hW,Nat.succ_pos _⟩
 |ok q=>
  rw[hn]at hW;have hm:=(gY h.1.1 aH hn).1;have hqo:=fX h.1.1 hn;refine⟨?_,by show mu s q+1 < mu s st+1;omega⟩
  simp only[]at hW;unfold FInv;simp only[bd];cases hx:T q with
  |error e=>rw[hx]at hW;exact hW
  |ok t=>
   rw[hx]at hW;have hm2:=hT q t hqo hx;simp only[]at hW ⊢;cases hb:kV s B t.2 with
   |error e=>rw[hb]at hW;exact hW
   |ok b=>
    rw[hb]at hW;have hm3:=(mX hB t.2 b hm2.1 hb).2;obtain⟨g,rfl⟩:∃g,f=g+1:=⟨f - 1,by omega⟩;exact⟨g,by omega,hW⟩
def aOL{T B:St→Res (Tree×St)}{W:Res (Tree×St)}{st:St}{acc:Tree}(h:ROk s (.ok st))(hi:EInv s T B W (.ok st) acc)(hk:¬(rK (.ok st)=119∧rS (.ok st)=sE)):W=lC s B acc st:=by
 obtain⟨f,hf,hW⟩:=hi;simp only[hO]at hW;rw[x5]at hW
 ·exact hW
 rintro⟨h1,h2⟩;exact hk ⟨(qQ h.2).2 h1,by show rs st.2=_;unfold rs;rw[x5 aH];exact h2⟩
def aXR{T B:St→Res (Tree×St)}{W:Res (Tree×St)}{r r2:Res St}{acc b:Tree}(h:ROk s r)(hi:EInv s T B W r acc)(hk:rK r=119)(hw:rS r=tK)(h2:RV (bd (nx s r) (kV s B)) b r2):RV W (.iff (acc.snocB none b)) r2:=by
 obtain⟨st,rfl⟩:=zW (r:=r) aH;have h1:=(qQ h.2).1 hk;have hs:st.2.s=tK:=by have e:rs st.2=st.2.s:=(by unfold rs;rw[x5 aH]);rw[←e];exact hw
 rw[aOL h hi (fun hh=>by have:=hh.2;rw[hw]at this;cases this)];unfold lC;rw[x7 ⟨h1,hs⟩];have h2':RV (bd (next s st.1) (kV s B)) b r2:=h2;cases hn:next s st.1 with
 |error e=>rw[hn]at h2';exact h2'
 |ok q=>
  rw[hn]at h2';exact RV.map (x:=kV s B q) (f:=fun b=>Tree.iff (acc.snocB none b)) h2' (fun e he=>by simp only[he]) (fun e he=>by simp only[he])
def bC2{T B:St→Res (Tree×St)}{W:Res (Tree×St)}{r:Res St}{acc:Tree}(h:ROk s r)(hi:EInv s T B W r acc)(h1:¬(rK r=119∧rS r=sE))(h2:¬(rK r=119∧rS r=tK)):RV W (.iff acc) r:=by
 cases r with
 |error e=>rw[show W=.error e from hi];rfl
 |ok st=>
  rw[aOL h hi h1];unfold lC;rw[x5]
  ·exact⟨Y,Y⟩
  rintro⟨h3,h4⟩;exact h2 ⟨(qQ h.2).2 h3,by show rs st.2=_;unfold rs;rw[x5 aH];exact h4⟩
def simR(s:aP)(c:Tree)(r:St):Res (Tree×St):=match sign s r [59]with| .error e=>.error e| .ok q=>.ok (c,q)
def aDW{c:Tree}{r:Res St}(hr:ROk s r):RV (bd r (lJ s c)) c (rsig s 59 (nx s r)):=by
 rw[aGC (s:=s) (F:=lJ s c) (G:=simR s c) fun st=>rfl];rw[aRS (s:=s) (c:=59) (F:=simR s c) (G:=fun q=>.ok (c,q)) (by decide) (lE hr) fun st=>rfl];exact bK6
def bA7{r:St}:text s r (fun _=>0)=match take s r 3 []with| .error e=>.error e| .ok q=>.ok (q.1.s,q.2):=by
 unfold text;rw[x5 (fun h=>h.2 rfl)] <;> cases take s r 3 [] <;> rfl
def actR(s:aP)(k p:Int)(r:St):Res (Tree×St):=match text s r (fun _=>0)with| .error e=>.error e| .ok x=>match sign s x.2 [59]with| .error e=>.error e| .ok q=>.ok (.act k x.1 p,q)
def bMW{k p:Int}{ext:aP}{r:Res St}(hr:ROk s r)(hp:∀st,r=.ok st→True):RV (bd r (actC s needs k ext p)) (.act k (rone s (ffit 0) (nx s (reqx s needs ext r))).1 p) (rsig s 59 (rone s (ffit 0) (nx s (reqx s needs ext r))).2):=by
 have hq:=zD (needs:=needs) (ext:=ext) hr;have e:bd r (actC s needs k ext p)=bd (nx s (reqx s needs ext r)) (actR s k p):=by
  cases r with
  |error e=>unfold reqx;split <;> rfl
  |ok st=>
   show actC s needs k ext p st=_
   unfold actC reqx
   by_cases h:ext=[]∨ext∈needs
   ·rw[x7 h,x5 (by rintro⟨h1,h2⟩;rcases h with h|h;exact h1 h;exact h2 h)]
    show _=bd (next s st.1) _
    cases next s st.1 with
    |error e=>rfl
    |ok q=>
     show (match take s q 3 []with| .error e=>_| .ok x=>_)=actR s k p q
     unfold actR;rw[bA7];cases take s q 3 []with
     |error e=>rfl
     |ok x=>rfl
   rw[x5 h,x7 ⟨fun e=>h (.inl e),fun e=>h (.inr e)⟩];rfl
 rw[e];have hn:=lE hq
 generalize nx s (reqx s needs ext r)=q at*
 have hv:=zE (ff:=ffit 0) hn;have ho:=(pF (ff:=ffit 0) hn).1
 generalize (rone s (ffit 0) q).1=a at*
 generalize (rone s (ffit 0) q).2=r3 at*
 cases q with
 |error e2=>cases (show r3=.error e2 from hv);exact kO (by decide)
 |ok st=>
  have hv2:RV (text s st (fun _=>0)) a r3:=hv
  show RV (actR s k p st) _ _
  unfold actR;cases hx:text s st (fun _=>0)with
  |error e=>rw[hx]at hv2;cases (show r3=.error e from hv2);exact kO (by decide)
  |ok x=>
   rw[hx]at hv2;obtain⟨rfl,rfl⟩:=hv2.ok;have:=qG (s:=s) (c:=59) (by decide) ho;rw[show (59:UInt8).toNat=59 from rfl]at this;rw[this]
   show RV (match sign s x.2 [59]with| .error e=>_| .ok r=>_) _ (sign s x.2 [59])
   cases sign s x.2 [59]with
   |error e=>rfl
   |ok q=>exact⟨Y,Y⟩
def tagR(s:aP)(r:Res St):Res St:=if rK r=58 then nx s (if 1+dW [fU,gH,gE] (rS r)=0 then rf (4,rW s r) r else r)else r
def tagV(r:Res St):Int:=if rK r=58 then 1+dW [fU,gH,gE] (rS r)else 0
def aWN{r:Res St}(h:ROk s r):ROk s (tagR s r):=by
 unfold tagR;split
 ·exact lE (by split;exact aKI h (show (4:Int)≠0 by decide);exact h)
 exact h
def bMZ{r:Res St}(h:ROk s r):RV (bd r (lF s)) (tagV r) (tagR s r):=by
 cases r with
 |error e=>rfl
 |ok st=>
  have hk:=aM1 h.2
  show RV (lF s st) _ _
  unfold lF tagV tagR
  by_cases h2:st.2.kind=2
  ·have hs:rS (.ok st)=st.2.s:=by show rs st.2=_;unfold rs;rw[x5 aH]
   have hK:rK (.ok st)=58:=hk.2 h2;rw[x7 h2,x7 hK,x7 hK,hs]
   by_cases hx:dW [fU,gH,gE] st.2.s= -1
   ·rw[x7 hx,x7 aH];rfl
   rw[x5 hx,x5 aH]
   show RV _ _ (next s st.1)
   cases next s st.1 with
   |error e=>rfl
   |ok q=>exact⟨Y,Y⟩
  have hK:¬rK (.ok st)=58:=fun hh=>h2 (hk.1 hh)
  rw[x5 h2,x5 hK,x5 hK];exact⟨Y,Y⟩
def bMY{r:Res St}(hr:ROk s r){r1:Res St}(h1:r1=nx s (reqx s needs eB r)):
  RV (bd r (rC s needs)) (.set_ (eD (rone s (ffit 4) (tagR s r1)).1) (rone s (ffit 0) (rone s (ffit 4) (tagR s r1)).2).1 (tagV r1)) (rsig s 59 (rone s (ffit 0) (rone s (ffit 4) (tagR s r1)).2).2):=by
 have hq:=zD (needs:=needs) (ext:=eB) hr;have e:bd r (setC s needs)=bd r1 (fun q=>match lF s q with| .error e=>.error e| .ok t=>nW s t):=by
  subst h1;cases r with
  |error e=>unfold reqx;split <;> rfl
  |ok st=>
   show setC s needs st=_
   unfold setC reqx
   by_cases h:eB∈needs
   ·rw[x7 h,x7 (.inr h)]
    show _=bd (next s st.1) _
    cases next s st.1 <;> rfl
   rw[x5 h,x5 (by rintro(h2|h2);cases h2;exact h h2)];rfl
 have hn:ROk s r1:=h1▸lE hq;clear h1;have hv1:=bMZ hn;have ho1:=aWN hn
 generalize tagR s r1=r2 at*
 generalize tagV r1=tg at*
 have hv2:=zE (ff:=ffit 4) ho1;have ho2:=(pF (ff:=ffit 4) ho1).1
 generalize (rone s (ffit 4) r2).1=x at*
 generalize (rone s (ffit 4) r2).2=r3 at*
 have hv3:=zE (ff:=ffit 0) ho2;have ho3:=(pF (ff:=ffit 0) ho2).1
 generalize (rone s (ffit 0) r3).1=v at*
 generalize (rone s (ffit 0) r3).2=r4 at*
 have key:RV (bd r (setC s needs)) ⟨eD x,v,tg⟩ (rsig s 59 r4):=by
  rw[e];have dead:∀e,r3=.error e→rsig s 59 r4=.error e:=fun e h=>by subst h;cases (show r4=.error e from hv3);exact kO (by decide)
  have dead2:∀e,r2=.error e→rsig s 59 r4=.error e:=fun e h=>by subst h;exact dead e hv2
  cases r1 with
  |error e2=>exact dead2 e2 hv1
  |ok st=>
   show RV (match lF s st with| .error e=>_| .ok t=>nW s t) _ _
   have hv1':RV (lF s st) tg r2:=hv1;cases hx:lF s st with
   |error e=>rw[hx]at hv1';exact dead2 e hv1'
   |ok t=>
    rw[hx]at hv1';obtain⟨rfl,rfl⟩:=hv1'.ok
    show RV (nW s t) _ _
    unfold nW;have hv2':RV (text s t.2 (fun x=>if named x=true then 0 else 7)) x r3:=hv2;cases hy:text s t.2 (fun x=>if named x=true then 0 else 7)with
    |error e=>rw[hy]at hv2';exact dead e hv2'
    |ok n=>
     rw[hy]at hv2';obtain⟨rfl,rfl⟩:=hv2'.ok;have hv3':RV (text s n.2 (fun _=>0)) v r4:=hv3;simp only[];cases hz:text s n.2 (fun _=>0)with
     |error e=>rw[hz]at hv3';cases (show r4=.error e from hv3');exact kO (by decide)
     |ok w=>
      rw[hz]at hv3';obtain⟨rfl,rfl⟩:=hv3'.ok;have:=qG (s:=s) (c:=59) (by decide) ho3;rw[show (59:UInt8).toNat=59 from rfl]at this;rw[this]
      show RV (match sign s w.2 [59]with| .error e=>_| .ok r=>_) _ (sign s w.2 [59])
      cases sign s w.2 [59]with
      |error e=>rfl
      |ok q=>exact⟨Y,Y⟩
 refine RV.map (y:=bd r (rC s needs)) (f:=fun c:SetC=>Tree.set_ c.name c.value c.tag) key (fun e he=>?_) (fun p hp=>?_)
 ·cases r with
  |error e2=>cases he;rfl
  |ok st=>show rC s needs st=_;unfold rC;rw[show setC s needs st=_ from he]
 cases r with
 |error e2=>cases hp
 |ok st=>show rC s needs st=_;unfold rC;rw[show setC s needs st=_ from hp]
def bCB{st:St}:cmdX s needs 0 st=.error (5,st.2.at_):=rfl
section
variable{n:Nat}{st:St}
def uT:cmdX s needs (n+1) st=match cmdD s needs (test s needs n) (block s needs n) st with|some r=>r|none=>.error (4,st.2.at_):=rfl
def aR6(w:st.2.s=qL∨st.2.s=jV∨st.2.s=mQ):∃c,cmdX s needs (n+1) st=lJ s c st∧∀(K:Hl) (b:Nat),K b=some (cmO st.2.s nilS 0 nilS nilS st.2.at_)→RR K c [pcl b] []:=by
 rw[uT];unfold cmdD
 rcases w with w|w|w
 ·exact⟨.act 1 [] st.2.at_,by rw[w];rfl,fun K b h=>by rw[w]at h;exact⟨Y,b,nilS,Y,.inl ⟨none,0,Y,Y⟩,h⟩⟩
 ·exact⟨.plain 13,by rw[w];rfl,fun K b h=>by rw[w]at h;exact⟨Y,b,_,Y,h⟩⟩
 exact⟨.plain 14,by rw[w];rfl,fun K b h=>by rw[w]at h;exact⟨Y,b,_,Y,h⟩⟩
def extA(w:aP):aP:=if w=gR then []else w
def bDS(w:aP):Int:=if w=fV then 2 else if w=gR then 3 else 4
def bH1(w:st.2.s=fV∨st.2.s=gR∨st.2.s=iO):cmdX s needs (n+1) st=actC s needs (bDS st.2.s) (extA st.2.s) st.2.at_ st:=by
 rw[uT];unfold cmdD
 rcases w with w|w|w <;> rw[w] <;> rfl
def bH2(w:st.2.s=tM):cmdX s needs (n+1) st=rC s needs st:=by
 rw[uT];unfold cmdD;rw[w];rfl
def bL4(w:st.2.s=txIf):cmdX s needs (n+1) st=ifC s (test s needs n) (block s needs n) st:=by
 rw[uT];unfold cmdD;rw[w];rfl
def aXG(h1:¬st.2.s=qL∧¬st.2.s=jV∧¬st.2.s=mQ)(h2:¬st.2.s=fV∧¬st.2.s=gR∧¬st.2.s=iO)(h3:¬st.2.s=tM)(h4:¬st.2.s=txIf):cmdX s needs (n+1) st=.error (4,st.2.at_):=by
 rw[uT];unfold cmdD
 simp only[if_neg h1.1,if_neg h1.2.1,if_neg h1.2.2,if_neg h2.1,if_neg h2.2.1,if_neg h2.2.2,if_neg h3,if_neg h4]
end
end
end Go.Syn
end
section
attribute [local irreducible] Go.SL.T Go.SL.OL Go.SL.D Go.SL.DL Go.SL.Ev Go.SL.Ef Go.SL.EfS
namespace Go.Proofs
open Go Go.SL Go.Syn Go.Mach
set_option maxRecDepth 100000 in
def bO3:fT x3 156=some ([(str []),.slice none 0 0,.int .i64 0,.slice none 0 0,.slice none 0 0,.int .i64 0],[(0,1),(1,1),(2,1),(3,1),(4,1),(5,1)]):=cY
set_option maxRecDepth 100000 in
def aJH:elOk x3 103 152 1 8=true:=cY
set_option maxRecDepth 100000 in
def yH:elOk x3 154 103 1 24=true:=cY
set_option maxRecDepth 100000 in
def yI:i8 x3 103 152 1=true:=cY
set_option maxRecDepth 100000 in
def rH:i8 x3 154 103 1=true:=cY
abbrev cmb(bc:Nat)(w:aP)(av:Value)(tag:Int)(tv bv:Value)(p:Int):Asn:=pt bc (cmO w av tag tv bv p)
def aV4{p q r:Prop}[Decidable p][Decidable q][Decidable r](h:(decide p||(decide q||decide r))=true):p∨q∨r:=by simpa using h
def bJA{s:aP}{p:Prop}[Decidable p]{e:Int×Int}{r:Res St}(h:ROk s r)(he:e.1≠0):ROk s (if p then rf e r else r):=by
 split
 ·exact aKI h he
 exact h
section
variable{s:aP}{needs:List aP}{n:Nat}{st:St}{r:Res St}
def aP5{w:aP}(hw:w=fV∨w=gR∨w=iO)(h:¬w=gR):reqx s needs (extA w) r=if w∈needs then r else rf (6,rW s r) r:=by
 have e:extA w=w:=x5 h;rw[e];exact aFV (by rcases hw with rfl|rfl|rfl <;> decide)
def aV9{w:aP}(h:¬ ¬w=gR):reqx s needs (extA w) r=r:=by
 have e:extA w=[]:=x7 (xBD.1 h);rw[e];exact xU
def aQ3(h:rK r=58):tagV r=1+dW [fU,gH,gE] (rS r):=x7 h
def aWO(h:¬rK r=58):tagV r=0:=x5 h
def aQ2(h:rK r=58):tagR s r=nx s (if 1+dW [fU,gH,gE] (rS r)=0 then rf (4,rW s r) r else r):=x7 h
def aWM(h:¬rK r=58):tagR s r=r:=x5 h
def aR5(hw:rS (.ok st)=st.2.s)(h1:¬rS (.ok st)=qL∧¬rS (.ok st)=jV∧¬rS (.ok st)=mQ)(h2:¬rS (.ok st)=fV∧¬rS (.ok st)=gR∧¬rS (.ok st)=iO)(h3:¬rS (.ok st)=tM)(h4:¬rS (.ok st)=txIf):cmdX s needs (n+1) st=.error (4,st.2.at_):=by
 rw[hw]at*;exact aXG h1 h2 h3 h4
def aTZ{K:Hl}{w a:aP}{p:Int}{b:Nat}{av:Value}(hw:w=fV∨w=gR∨w=iO)(h:Ksl (a7 9) K av [a])(hk:K b=some (cmO w av 0 nilS nilS p)):RR K (.act (bDS w) a p) [pcl b] []:=by
 refine⟨Y,b,av,Y,?_,?_⟩
 ·rcases hw with rfl|rfl|rfl <;> exact h
 rcases hw with rfl|rfl|rfl <;> exact hk
def aT0{K:Hl}{x v:aP}{t p:Int}{b:Nat}{av:Value}(h:Ksl (a7 9) K av [x,v])(hk:K b=some (cmO tM av t nilS nilS p)):RR K (.set_ x v t) [pcl b] []:=⟨rfl,b,av,p,rfl,h,hk⟩
def bM3{K:Hl}{c:Nat}{t:Tree}{us ws:List Cell}(hc:c≠0)(h:RX K r t us ws):RX K (rsig s c r) t us ws:=by
 cases r with
 |ok q=>exact xW h
 |error e=>rw[kO hc];trivial
def aQQ{t:Tree}:∀ {l:Tree},isCL l=true→isCL (l.snocC t)=true
 | .cnil,_=>rfl
 | .ccons x l,h=>aQQ (l:=l) h
def bFV{K:Hl}{r2:Res St}{t acc:Tree}{us:List Cell}{v:Cell}(hL:isCL acc=true)(h1:RX K (.ok st) acc us [])(h2:RX K r2 t [v] []):RX K r2 (acc.snocC t) (us++[v]) []:=by
 cases r2 with
 |error e=>trivial
 |ok q=>exact(bFK h2 hL h1).1
def aQM{t b:Tree}:∀ {l:Tree},isOB l=true→isOB (l.snocB (some t) b)=true
 | .bnil,_=>rfl
 | .bcons x y l,h=>aQM (l:=l) h
def aT3{α:Type}{F:St→Res (α×St)}{t:α}{q:St}(h:RV (bd r F) t (.ok q)):∃st,r=.ok st:=by
 cases r with
 |error e=>cases (show Except.ok q=.error e from h)
 |ok st=>exact⟨st,Y⟩
def bFU{K:Hl}{r2 r3:Res St}{F G:St→Res (Tree×St)}{t b acc:Tree}{us ws zs:List Cell}{v sv:Cell}(hv:RV (bd r F) t r2)(hv2:RV (bd r2 G) b r3)(hL:isOB acc=true)(h1:RX K r acc us ws)(h2:RX K r2 t [v] [])(h3:RX K r3 b zs [])(hk:Ksl (cC 152) K sv.1 zs):RX K r3 (acc.snocB (some t) b) (us++[v]) (ws++[sv]):=by
 cases r3 with
 |error e=>trivial
 |ok q=>
  obtain⟨s2,rfl⟩:=aT3 hv2;obtain⟨s1,rfl⟩:=aT3 hv;exact(bFJ h2 h3 hk hL h1).1
def bFW{K:Hl}{r3:Res St}{G:St→Res (Tree×St)}{b acc:Tree}{us ws zs:List Cell}{sv:Cell}(hv2:RV (bd (nx s r) G) b r3)(hL:isOB acc=true)(h1:RX K r acc us ws)(h3:RX K r3 b zs [])(hk:Ksl (cC 152) K sv.1 zs):RX K r3 (acc.snocB none b) us (ws++[sv]):=by
 cases r3 with
 |error e=>trivial
 |ok q=>
  obtain⟨s2,h2⟩:=aT3 hv2;cases r with
  |error e=>cases h2
  |ok s1=>exact bFL h3 hk hL h1
def RXI(K:Hl)(r:Res St)(t:Tree)(us ws:List Cell):Prop:=match r with| .ok _=>∃bs,t=.iff bs∧RR K bs us ws| .error _=>True
def RX.iff{K:Hl}{t:Tree}{us ws:List Cell}(h:RX K r t us ws):RXI K r (.iff t) us ws:=by
 cases r with
 |ok q=>exact⟨t,Y,h⟩
 |error e=>trivial
def RXI.mono{K K':Hl}{t:Tree}{us ws:List Cell}(h:RXI K r t us ws)(le:K.le K'):RXI K' r t us ws:=by
 cases r with
 |ok q=>obtain⟨bs,e,h⟩:=h;exact⟨bs,e,h.mono le⟩
 |error e=>trivial
def bM1{K:Hl}{t:Tree}{us ws:List Cell}{tv bv:Value}{b:Nat}{p:Int}(h:RXI K r t us ws)(h1:Ksl (cC 159) K tv us)(h2:Ksl (cC 103) K bv ws)(hk:K b=some (cmO txIf nilS 0 tv bv p)):RX K r t [pcl b] []:=by
 cases r with
 |ok q=>obtain⟨bs,rfl,h⟩:=h;exact⟨Y,b,us,ws,tv,bv,p,Y,h,h1,h2,hk⟩
 |error e=>trivial
end
def RCs(rb tb:Nat)(s:aP)(nv:Value)(x:Res (Tree×St)):Ending→Hl→List Asn→Prop:=Ret fun v K' L'=>∃us t r',RV x t r'∧ROk s r'∧RX K' r' t us []∧us.length≤2000∧L'=[sl false (cC 152) v us,rdb rb tb nv,rtx tb s r']
def IHc(rb tb:Nat)(s:aP)(nv:Value)(needs:List aP)(m:Nat)(K:Hl):Prop:=∀K',K.le K'→∀(d:Int) (r:Res St),d=7 - (m:Int)→ROk s r→Sp x3 53 [ptr rb,i64 d] K' [rdb rb tb nv,rtx tb s r] (RCs rb tb s nv (bd r (block s needs m)))
def aEY(rb tb:Nat)(s:aP)(nv:Value)(needs:List aP)(hs:s.length≤600)(hn:needs.length≤10000000)(m:Nat)(hm:m+1≤7)(K:Hl)(d:Int)(hd:d=7 - ((m+1:Nat):Int))(r:Res St)(hr:ROk s r)(ihc:IHc rb tb s nv needs m K):
  Sp x3 187 [ptr rb,i64 d] K [rdb rb tb nv,rtx tb s r] (RCs rb tb s nv (bd r (kV s (block s needs m)))):=by
 refine bN Tryz.func187 Y Tryz.ntmps187 Y Y fun F w=>?_;refine zz8 ?_;refine bA Y Y (mB rb tb s nv r 123 hr aH _) bS Y ?_;rintro _ K _ ⟨rfl,rfl,rfl⟩ -;have hr2:=r9 (c:=123) hr;rw[show (123:UInt8).toNat=123 from rfl];refine zz7 ?_;refine bA Y Y (ihc _ (xAB _) _ _ aH hr2) bS Y ?_;rintro v11 K1 _ ⟨us,t,r2,hv1,ho1,hx1,hz1,rfl⟩ le1;refine zz6 ?_;refine bA Y Y (mB rb tb s nv r2 125 ho1 aH _) bS Y ?_;rintro _ K _ ⟨rfl,rfl,rfl⟩ -;refine zz9 ?_;refine uAx ?_;refine bI Y Y le1 ?_;exact⟨_,Y,us,t,_,bJJ hr ho1 hv1,r9 ho1,bM3 (by decide) hx1,hz1,Y⟩
def aHT(rb tb bc:Nat)(s:aP)(nv:Value)(needs:List aP)(hs:s.length≤600)(hn:needs.length≤10000000)(m:Nat)(hm:m+1≤7)(K:Hl)(hv:Ksl (a7 9) K nv needs)(d:Int)(hd:d=7 - ((m+1:Nat):Int))(p:Int)(r:Res St)(hr:ROk s r)(W:Res (Tree×St))(hF:FInv s (test s needs m) (block s needs m) W r .bnil)(ihm:IHc rb tb s nv needs m K):
  Sp x3 120 [ptr rb,ptr bc,i64 d] K [cmb bc txIf nilS 0 nilS nilS p,rdb rb tb nv,rtx tb s r] (Ret fun v K' L'=>v=.tuple #[]∧∃tv bv xs ys t r',RV W t r'∧ROk s r'∧RXI K' r' t xs ys∧Ksl (cC 159) K' tv xs∧Ksl (cC 103) K' bv ys∧L'=[cmb bc txIf nilS 0 tv bv p,rdb rb tb nv,rtx tb s r']):=by
 have hA:=nI (s:=s) (needs:=needs) m;have hAB:=sF (s:=s) (needs:=needs) m;refine bN Tryz.func120 Y Tryz.ntmps120 Y Y fun F w=>?_;refine zz2 ?_;refine nZ (fun(K3:Hl) (r4:Res St) (au:Tree×List Cell×List Cell) (x:Value×Value)=>K.le K3∧ROk s r4∧FInv s (test s needs m) (block s needs m) W r4 au.1∧RX K3 r4 au.1 au.2.1 au.2.2∧isOB au.1=true∧au.2.1.length+muR s r4≤2000∧au.2.2.length+muR s r4≤2000) (fun _ _ _ _=>[(0,ptr rb),(1,ptr bc),(2,i64 d)]) (fun K3 _ _ _=>K3) (fun _ r4 au x=>[sl false (cC 159) x.1 au.2.1,sl false (cC 103) x.2 au.2.2,cmb bc txIf nilS 0 x.1 x.2 p,rdb rb tb nv,rtx tb s r4]) (fun _ r4 _ _=>muR s r4) K r (.bnil,[],[]) (nilS,nilS) ⟨xAB _,hr,hF,xW ⟨Y,Y⟩,Y,by have:=aHK s r;simp;omega,by have:=aHK s r;simp;omega⟩ aS Y (fun h hh=>eL (cC 159) _ (eL (cC 103) _ (by simpa using Tks.sat (N:=[]) (aM bW (aM bW (aM bW bF))) h hh))) ?_;intro K3 r4 ⟨acc,us,ws⟩ ⟨tv,bv⟩ ⟨leK,hr4,hF4,hX4,hL4,hm4,hm5⟩;simp only at hF4 hX4 hL4 hm4 hm5;refine zz6 ?_;refine bA Y Y (aT1 rb tb s nv needs hs hn m aH _ (hv.mono leK) _ _ aH hr4) bS Y ?_;rintro _ K5 _ ⟨bt,t,r3,rfl,hv3,ho3,hx3,rfl⟩ le5;refine zz11 ?_;refine cJ (bM (z0:=[.pointer none]) iS tz159 Y Y Y Y dF) Y ?_;rintro _ K _ ⟨b19,rfl,rfl,rfl⟩ -;refine cJ (dQ (k:=(cC 159)) (ys:=[pcl bt]) aAC Y Y (.there (.there (.there .here))) (fun w j=>dJ Tryz.underlying153 (SeesSl.at (.blk aL Y Y) j)) gC7 gC9) Y ?_;rintro v20 K _ ⟨rfl,rfl,ho20⟩ -;refine zz2 ?_;refine cD (bX ts153 Y Y dA bR aZe Y) ?_;rintro _ K _ ⟨rfl,rfl⟩ -;refine zz6 ?_;refine bA Y Y (aEY rb tb s nv needs hs hn m aH _ d hd r3 ho3 (fun K2 le=>ihm K2 (x6 leK (x6 le5 le)))) bS Y ?_;rintro v25 K6 _ ⟨zs,b,r5,hv5,ho5,hx5,hz5,rfl⟩ le6;refine fZ fun K7 le7 hk7=>?_;obtain⟨sa,sn,sc,rfl⟩:=hk7.isSlice;have leE:=x6 le5 (x6 le6 le7);have hE:=aX2 hA hAB hr4 hF4 hv3 hv5;have hX5:=bFU (sv:=⟨.slice sa sn sc,rfl⟩) hv3 hv5 hL4 (hX4.mono leE) (hx3.mono (x6 le6 le7)) (hx5.mono le7) hk7;have hL5:=aQM (t:=t) (b:=b) hL4;refine zz11 ?_;refine cJ (bM (z0:=[.slice none 0 0]) rH tz103 Y Y Y Y dF) Y ?_;rintro _ K _ ⟨b32,rfl,rfl,rfl⟩ -;refine cJ (dQ (k:=(cC 103)) (ys:=[⟨.slice sa sn sc,Y⟩]) yH Y Y (.there (.there (.there (.there (.there .here))))) (fun w j=>dJ Tryz.underlying154 (SeesSl.at (.blk aL Y Y) j)) gC7 gC9) Y ?_;rintro v33 K _ ⟨rfl,rfl,ho33⟩ -;refine zz2 ?_;refine cD (bX ts154 Y Y dA bR aZe Y) ?_;rintro _ K _ ⟨rfl,rfl⟩ -;refine zz3 ?_;refine dX (fun(_:Unit)=>True) (fun _=>[(0,ptr rb),(1,ptr bc),(2,i64 d),(65,.bool (decide (¬(rK r5=119∧rS r5=sE))))]) (fun _=>K) (fun _=>[sl false (cC 159) v20 (us++[pcl bt]),sl false (cC 103) v33 (ws++[⟨.slice sa sn sc,Y⟩]),cmb bc txIf nilS 0 v20 v33 p,rdb rb tb nv,rtx tb s r5]) ?_ ?_
 ·refine zz10 ?_;refine bV 44 Y (fun g44=>?_) (fun g44=>?_)
  ·refine zz22 ?_;refine aQ (aM yY (aM bW (aM yY (aM cI (aM cI bF))))) ?_;exact a8 () trivial (.cons 0 Y (.cons 1 Y (.cons 2 Y (.cons 65 gDN .nil)))) Y (fun _ h=>h)
  refine zz20 ?_;refine bV 55 Y (fun g55=>?_) (fun g55=>?_)
  ·refine zz11 ?_;refine aQ (aM yY (aM bW (aM yY (aM cI (aM cI bF))))) ?_;exact a8 () trivial (.cons 0 Y (.cons 1 Y (.cons 2 Y (.cons 65 gDN .nil)))) Y (fun _ h=>h)
  refine zz20 ?_;refine aQ (aM yY (aM bW (aM yY (aM cI (aM cI bF))))) ?_;exact a8 () trivial (.cons 0 Y (.cons 1 Y (.cons 2 Y (.cons 65 gDN .nil)))) Y (fun _ h=>h)
 intro _ _;refine aY 65 Y (fun h65=>?_) (fun h65=>?_)
 ·refine zz6 ?_;refine dX (fun(_:Unit)=>True) (fun _=>[(0,ptr rb),(1,ptr bc),(2,i64 d),(100,.bool (decide (rK r5=119∧rS r5=tK)))]) (fun _=>K) (fun _=>[sl false (cC 159) v20 (us++[pcl bt]),sl false (cC 103) v33 (ws++[⟨.slice sa sn sc,Y⟩]),cmb bc txIf nilS 0 v20 v33 p,rdb rb tb nv,rtx tb s r5]) ?_ ?_
  ·refine zz10 ?_;refine bV 79 Y (fun g79=>?_) (fun g79=>?_)
   ·refine zz20 ?_;refine bV 90 Y (fun g90=>?_) (fun g90=>?_)
    ·refine zz20 ?_;exact a8 () trivial (.cons 0 Y (.cons 1 Y (.cons 2 Y (.cons 100 gDO .nil)))) Y (fun _ h=>h)
    refine zz11 ?_;exact a8 () trivial (.cons 0 Y (.cons 1 Y (.cons 2 Y (.cons 100 gDO .nil)))) Y (fun _ h=>h)
   refine zz22 ?_;exact a8 () trivial (.cons 0 Y (.cons 1 Y (.cons 2 Y (.cons 100 gDO .nil)))) Y (fun _ h=>h)
  intro _ _;refine aY 100 Y (fun h100=>?_) (fun h100=>?_)
  ·refine zz6 ?_;refine bA Y Y (gF tb s r5 ho5 aH _) bS Y ?_;rintro _ K _ ⟨rfl,rfl,rfl⟩ -;have hrE:=lE ho5;refine zz6 ?_;refine bA Y Y (aEY rb tb s nv needs hs hn m aH _ d hd (nx s r5) hrE (fun K2 le=>ihm K2 (x6 leK (x6 leE le)))) bS Y ?_;rintro v108 K8 _ ⟨qs,b2,r7,hv7,ho7,hx7,hz7,rfl⟩ le8;refine fZ fun K9 le9 hk9=>?_;obtain⟨ta,tn,tc,rfl⟩:=hk9.isSlice;have leF:=x6 leE (x6 le8 le9);have hX7:=bFW (sv:=⟨.slice ta tn tc,rfl⟩) hv7 hL5 (hX5.mono (x6 le8 le9)) (hx7.mono le9) hk9;refine zz10 ?_;refine cJ (bM (z0:=[.slice none 0 0]) rH tz103 Y Y Y Y dF) Y ?_;rintro _ K _ ⟨b115,rfl,rfl,rfl⟩ -;refine cJ (dQ (k:=(cC 103)) (ys:=[⟨.slice ta tn tc,Y⟩]) yH Y Y (.there (.there (.there (.there .here)))) (fun w j=>dJ Tryz.underlying154 (SeesSl.at (.blk aL Y Y) j)) gC7 gC9) Y ?_;rintro v116 K _ ⟨rfl,rfl,ho116⟩ -;refine zz2 ?_;refine cD (bX ts154 Y Y dA bR aZe Y) ?_;rintro _ K _ ⟨rfl,rfl⟩ -;refine aG ?_;refine aQ (aM yY (aM bW (aM nC (aM cI (aM cI bF))))) ?_;refine gW fun KA leA hkA=>?_;refine gW fun KB leB hkB=>?_;refine dK Y (x6 leK (x6 leF (x6 leA leB))) ?_;exact⟨_,Y,Y,_,_,_,_,_,_,aXR ho5 hE.1 h100.1 h100.2 hv7,ho7,RX.iff (hX7.mono (x6 leA leB)),hkA.mono leB,hkB,Y⟩
  refine aW ?_;refine gW fun KA leA hkA=>?_;refine gW fun KB leB hkB=>?_;refine dK Y (x6 leK (x6 leE (x6 leA leB))) ?_;exact⟨_,Y,Y,_,_,_,_,_,_,bC2 ho5 hE.1 h65 h100,ho5,RX.iff (hX5.mono (x6 leA leB)),hkA.mono leB,hkB,Y⟩
 have h65:=xBD.1 h65;refine zz7 ?_;refine bA Y Y (gF tb s r5 ho5 aH _) bS Y ?_;rintro _ K _ ⟨rfl,rfl,rfl⟩ -;refine zz2 ?_;have hn7:=aXS hA hAB ho5 hE.1 h65.1 h65.2;refine aQ (aM cI (aM cI (aM cI (aM cI (aM bW bF))))) ?_;refine fH K (nx s r5) (acc.snocB (some t) b,us++[pcl bt],ws++[⟨.slice sa sn sc,Y⟩]) (v20,v33) ⟨x6 leK leE,lE ho5,hn7.1,bK7 hX5,hL5,by simp only[List.length_append,List.length_singleton];omega,by simp only[List.length_append,List.length_singleton];omega⟩ aH aS Y (fun _ h=>h)
def aJD(rb tb:Nat)(s:aP)(nv:Value)(needs:List aP)(hs:s.length≤600)(hn:needs.length≤10000000)(n:Nat)(hn7:n≤7)(K:Hl)(hv:Ksl (a7 9) K nv needs)(d:Int)(hd:d=7 - (n:Int))(st:St)(hr:ROk s (.ok st))(hk:st.2.kind=1)(ih:∀m,n=m+1→IHc rb tb s nv needs m K):
  Sp x3 88 [ptr rb,i64 d] K [rdb rb tb nv,rtx tb s (.ok st)] (RTe rb tb s nv (cmdX s needs n st)):=by
 have hws:rS (.ok st)=st.2.s:=aFW hk;refine bN Tryz.func88 Y Tryz.ntmps88 Y Y fun F w=>?_;refine zz6 ?_;refine cZ (anc:=[0,1,3,7,15,31,63,127,0,256,768,1792,3840,7936,16128,32512,65535,131071,262143]) (ord:=[0,1,2,3,4,5,6,7,8,9,10,11,12,13,14,15,16,17,18]) [17] [17] mixed gC5 (cQ _) (zz16 ?_);refine aJ Y Y (.none Y) Y Y (dG bO3 tb156f dF) Y ?_;refine aXM Y Y (.none Y) Y (eZ Y Y) Y ?_;rintro _ K _ ⟨b26,rfl,rfl,rfl⟩ -;refine zz10 ?_;refine aY 28 Y (fun h28=>?_) (fun h28=>?_)
 ·obtain rfl:n=0:=by omega
  have hq:=bCB (s:=s) (needs:=needs) (st:=st);refine aI ?_;refine cZ (anc:=[0,1,3,7,0,16,48,112,255]) (ord:=[0,1,2,3,4,5,6,7,8]) [8] [8] mixed gC5 (cQ _) (zz8 ?_);refine eQ Y (.none Y) Y Y Y (m5 tb s (.ok st) 5 (rW s (.ok st)) hr aH _) bS Y ?_;rintro _ K _ ⟨rfl,rfl,rfl⟩ -;refine zz10 ?_;refine uAv ?_;refine fB fun K8 leP hP=>?_;refine bI Y Y leP ?_;exact pM (t:=.const true) (by rw[hq];rfl) (t6 (by decide)) trivial
 obtain⟨m,rfl⟩:∃m,n=m+1:=⟨n - 1,by omega⟩;have ihm:=ih m rfl;clear ih;refine zz2 ?_;refine dX (fun(x:Tree×Res St×Value×Int×Hl)=>K.le x.2.2.2.2∧RV (cmdX s needs (m+1) st) x.1 (rsig s 59 x.2.1)∧ROk s x.2.1∧∀K2 b,x.2.2.2.2.le K2→K2 b=some (cmO (rS (.ok st)) x.2.2.1 x.2.2.2.1 nilS nilS st.2.at_)→RR K2 x.1 [pcl b] []) (fun _=>[(0,ptr rb),(1,i64 d),(5,ptr b26)]) (fun x=>x.2.2.2.2) (fun x=>[cmb b26 (rS (.ok st)) x.2.2.1 x.2.2.2.1 nilS nilS st.2.at_,rdb rb tb nv,rtx tb s x.2.1]) ?_ ?_
 ·refine zz9 ?_;refine dX (fun(_:Unit)=>True) (fun _=>[(0,ptr rb),(1,i64 d),(5,ptr b26),(42,str (rS (.ok st))),(53,.bool (decide (rS (.ok st)=qL)||(decide (rS (.ok st)=jV)||decide (rS (.ok st)=mQ))))]) (fun _=>K) (fun _=>[cmb b26 (rS (.ok st)) nilS 0 nilS nilS st.2.at_,rdb rb tb nv,rtx tb s (.ok st)]) ?_ ?_
  ·refine zz6 ?_;refine aY 53 Y (fun h53=>?_) (fun h53=>?_)
   ·refine aW ?_;exact a8 () trivial (.cons 0 Y (.cons 1 Y (.cons 5 Y (.cons 42 Y (.cons 53 gDA .nil))))) Y (fun _ h=>h)
   refine zz6 ?_;refine aY 53 Y (fun h53=>?_) (fun h53=>?_)
   ·refine aW ?_;exact a8 () trivial (.cons 0 Y (.cons 1 Y (.cons 5 Y (.cons 42 Y (.cons 53 gDA .nil))))) Y (fun _ h=>h)
   refine zz4 ?_;exact a8 () trivial (.cons 0 Y (.cons 1 Y (.cons 5 Y (.cons 42 Y (.cons 53 gDA .nil))))) Y (fun _ h=>h)
  intro _ _;refine d9 53 Y (fun h53=>?_) (fun h53=>?_)
  ·have hc:=aV4 h53;obtain⟨c,hq,hcr⟩:=aR6 (s:=s) (needs:=needs) (n:=m) (hws▸hc);refine zz5 ?_;refine bA Y Y (gF tb s (.ok st) hr aH _) bS Y ?_;rintro _ K _ ⟨rfl,rfl,rfl⟩ -;have hr2:=lE hr;refine zz2 ?_
   first
    |exact gBP
    |exact gBK
    |exact gBB
  have h1:=aTG h53;refine dX (fun(_:Unit)=>True) (fun _=>[(0,ptr rb),(1,i64 d),(5,ptr b26),(42,str (rS (.ok st))),(62,.bool (decide (rS (.ok st)=fV)||(decide (rS (.ok st)=gR)||decide (rS (.ok st)=iO))))]) (fun _=>K) (fun _=>[cmb b26 (rS (.ok st)) nilS 0 nilS nilS st.2.at_,rdb rb tb nv,rtx tb s (.ok st)]) ?_ ?_
  ·refine zz6 ?_;refine aY 62 Y (fun h62=>?_) (fun h62=>?_)
   ·refine aW ?_;exact a8 () trivial (.cons 0 Y (.cons 1 Y (.cons 5 Y (.cons 42 Y (.cons 62 gDA .nil))))) Y (fun _ h=>h)
   refine zz6 ?_;refine aY 62 Y (fun h62=>?_) (fun h62=>?_)
   ·refine aW ?_;exact a8 () trivial (.cons 0 Y (.cons 1 Y (.cons 5 Y (.cons 42 Y (.cons 62 gDA .nil))))) Y (fun _ h=>h)
   refine zz4 ?_;exact a8 () trivial (.cons 0 Y (.cons 1 Y (.cons 5 Y (.cons 42 Y (.cons 62 gDA .nil))))) Y (fun _ h=>h)
  intro _ _;refine d9 62 Y (fun h62=>?_) (fun h62=>?_)
  ·have hc:=aV4 h62;have hq:=bH1 (s:=s) (needs:=needs) (n:=m) (hws▸hc);rw[←hws]at hq;refine dX (fun(_:Unit)=>True) (fun _=>[(0,ptr rb),(1,i64 d),(5,ptr b26)]) (fun _=>K) (fun _=>[cmb b26 (rS (.ok st)) nilS 0 nilS nilS st.2.at_,rdb rb tb nv,rtx tb s (reqx s needs (extA (rS (.ok st))) (.ok st))]) ?_ ?_
   ·refine zz9 ?_;refine aY 70 Y (fun h70=>?_) (fun h70=>?_)
    ·refine zz6 ?_;refine bA Y Y (wH rb tb s nv needs (rS (.ok st)) (.ok st) hr aH _ hv hn) bS Y ?_;rintro _ K _ ⟨rfl,rfl,rfl⟩ -;refine aG ?_
     first
      |exact gCX
      |(rw[aV9 h70];exact a8 () trivial aS Y (fun _ h=>h))
    refine aW ?_
    first
     |exact gCX
     |(rw[aV9 h70];exact a8 () trivial aS Y (fun _ h=>h))
   intro _ _;have hrq:=zD (needs:=needs) (ext:=extA (rS (.ok st))) hr;have hva:=bMW (needs:=needs) (k:=bDS (rS (.ok st))) (ext:=extA (rS (.ok st))) (p:=st.2.at_) hr (fun _ _=>trivial)
   generalize reqx s needs (extA (rS (.ok st))) (.ok st)=r1 at*
   refine zz6 ?_;refine bA Y Y (gF tb s r1 hrq aH _) bS Y ?_;rintro _ K _ ⟨rfl,rfl,rfl⟩ -;have hr2:=lE hrq
   generalize nx s r1=r2 at*
   refine zz5 ?_;refine bA Y Y (sK rb tb s nv 0 r2 (by decide) hr2 aH _) bS Y ?_;rintro _ K _ ⟨rfl,rfl,rfl⟩ -;have hr3:=(pF (ff:=ffit 0) hr2).1
   generalize (rone s (ffit 0) r2).2=r3 at*
   generalize (rone s (ffit 0) r2).1=xa at*
   refine zz6 ?_;refine cJ (bM (z0:=[(str [])]) cB tz9 Y Y Y Y dF) Y ?_;rintro _ K _ ⟨b86,rfl,rfl,rfl⟩ -;refine zz2 ?_;refine uAh ?_;rintro _ K _ ⟨rfl,rfl⟩ -;refine zz2 ?_
   first
    |exact gBP
    |exact gBK
    |exact gBB
  have h2:=aTG h62;refine zz6 ?_;refine aY 89 Y (fun h89=>?_) (fun h89=>?_)
  ·have hc:rS (.ok st)=tM:=h89;have hq:=bH2 (s:=s) (needs:=needs) (n:=m) (hws▸hc);refine zz3 ?_;refine bA Y Y (wH rb tb s nv needs eB (.ok st) hr aH _ hv hn) bS Y ?_;rintro _ K _ ⟨rfl,rfl,rfl⟩ -;have hrq:=zD (needs:=needs) (ext:=eB) hr;have hvs:=fun r1=>bMY (s:=s) (needs:=needs) hr (r1:=r1)
   rw[←aFV (by decide)]
   generalize reqx s needs eB (.ok st)=r0 at*
   refine zz8 ?_;refine bA Y Y (gF tb s r0 hrq aH _) bS Y ?_;rintro _ K _ ⟨rfl,rfl,rfl⟩ -;have hr1:=lE hrq;have hvs:=hvs _ rfl
   generalize nx s r0=r1 at*
   refine aTF (aM e7 (aM cI (aM bW bF))) (zz2 ?_);refine dX (fun(_:Unit)=>True) (fun _=>[(0,ptr rb),(1,i64 d),(5,ptr b26)]) (fun _=>K) (fun _=>[cmb b26 (rS (.ok st)) nilS (tagV r1) nilS nilS st.2.at_,rdb rb tb nv,rtx tb s (tagR s r1)]) ?_ ?_
   ·refine zz13 ?_;refine aY 106 Y (fun h106=>?_) (fun h106=>?_)
    ·refine zz11 ?_;refine cN Y Y (aT2 (rS r1) _) Y (zz2 ?_);refine uAb ?_;rintro _ K _ ⟨rfl,rfl⟩ -;refine zz2 ?_;refine dX (fun(_:Unit)=>True) (fun _=>[(0,ptr rb),(1,i64 d),(5,ptr b26)]) (fun _=>K) (fun _=>[cmb b26 (rS (.ok st)) nilS (tagV r1) nilS nilS st.2.at_,rdb rb tb nv,rtx tb s (if 1+dW [fU,gH,gE] (rS r1)=0 then rf (4,rW s r1) r1 else r1)]) ?_ ?_
     ·refine zz9 ?_;refine aY 123 Y (fun h123=>?_) (fun h123=>?_)
      ·refine cZ (anc:=[0,1,3,7,0,16,48,112,240,496,1008,2032,4095]) (ord:=[0,1,2,3,4,5,6,7,8,9,10,11,12]) [12] [12] mixed gC5 (cQ _) (zz12 ?_);refine eQ Y (.none Y) Y Y Y (m5 tb s r1 4 (rW s r1) hr1 aH _) bS Y ?_;rintro _ K _ ⟨rfl,rfl,rfl⟩ -;refine cL ?_;rw[aQ3 (show rK r1=58 by omega)]
       first
        |exact gCV
        |(rw[x5 h123];exact a8 () trivial aS Y (fun _ h=>h))
      refine aW ?_;rw[aQ3 (show rK r1=58 by omega)]
      first
       |exact gCV
       |(rw[x5 h123];exact a8 () trivial aS Y (fun _ h=>h))
     intro _ _;have hr1b:=bJA (s:=s) (p:=1+dW [fU,gH,gE] (rS r1)=0) (e:=(4,rW s r1)) hr1 (show (4:Int)≠0 by decide);refine zz5 ?_;refine bA Y Y (gF tb s _ hr1b aH _) bS Y ?_;rintro _ K _ ⟨rfl,rfl,rfl⟩ -;refine aG ?_
     first
      |exact gCO
      |exact gCR
    refine aW ?_
    first
     |exact gCO
     |exact gCR
   intro _ _;have hr2:=aWN hr1
   generalize tagV r1=tg at*
   generalize tagR s r1=r2 at*
   refine zz3 ?_;refine bA Y Y (sK rb tb s nv 4 r2 (by decide) hr2 aH _) bS Y ?_;rintro _ K _ ⟨rfl,rfl,rfl⟩ -;have hr3:=(pF (ff:=ffit 4) hr2).1;have hxl:=(pF (ff:=ffit 4) hr2).2
   generalize (rone s (ffit 4) r2).2=r3 at*
   generalize (rone s (ffit 4) r2).1=xa at*
   refine zz6 ?_;refine bA Y Y (sK rb tb s nv 0 r3 (by decide) hr3 aH _) bS Y ?_;rintro _ K _ ⟨rfl,rfl,rfl⟩ -;have hr4:=(pF (ff:=ffit 0) hr3).1
   generalize (rone s (ffit 0) r3).2=r4 at*
   generalize (rone s (ffit 0) r3).1=xb at*
   refine zz6 ?_;refine cN Y Y (kI xa _ aH) Y (zz1 ?_);refine cJ (bM (z0:=[(str []),(str [])]) cB tz9 Y Y Y Y dF) Y ?_;rintro _ K _ ⟨b150,rfl,rfl,rfl⟩ -;refine zz2 ?_;refine uAh ?_;rintro _ K _ ⟨rfl,rfl⟩ -;refine zz2 ?_
   first
    |exact gBP
    |exact gBK
    |exact gBB
  refine zz6 ?_;refine aY 153 Y (fun h153=>?_) (fun h153=>?_)
  ·have hc:rS (.ok st)=txIf:=h153;have hq:=bL4 (s:=s) (needs:=needs) (n:=m) (hws▸hc);refine zz6 ?_;refine bA Y Y (gF tb s (.ok st) hr aH _) bS Y ?_;rintro _ K _ ⟨rfl,rfl,rfl⟩ -;have hr2:=lE hr;have hF:=aST (s:=s) (T:=test s needs m) (B:=block s needs m) (r:=.ok st)
   generalize nx s (.ok st)=r2 at*
   refine aTF (aM cI (aM cI (aM bW bF))) (zz7 ?_);rw[hc];refine bA Y Y (aHT rb tb b26 s nv needs hs hn m aH _ hv d aH _ r2 hr2 _ hF ihm) bS Y ?_;rintro _ K1 _ ⟨rfl,tv,bv,xs,ys,t,r1,hv1,ho1,hx1,hk1,hk2,rfl⟩ le1;refine zz11 ?_;refine fB fun K8 leP hP=>?_;refine bI Y Y (x6 le1 leP) ?_;exact pM (by rw[hq];exact hv1) ho1 (bM1 (hx1.mono leP) (hk1.mono leP) (hk2.mono leP) hP)
  have hq:=aR5 (s:=s) (needs:=needs) (n:=m) hws h1 h2 h89 h153;refine aI ?_;refine cZ (anc:=[0,1,3,7,0,16,48,112,255]) (ord:=[0,1,2,3,4,5,6,7,8]) [8] [8] mixed gC5 (cQ _) (zz8 ?_);refine eQ Y (.none Y) Y Y Y (m5 tb s (.ok st) 4 (rW s (.ok st)) hr aH _) bS Y ?_;rintro _ K _ ⟨rfl,rfl,rfl⟩ -;refine zz11 ?_;refine uAv ?_;refine fB fun K8 leP hP=>?_;refine bI Y Y leP ?_;exact pM (t:=.const true) (by rw[hq];rfl) (t6 (by decide)) trivial
 intro ⟨c,r2,av,tg,K2⟩ ⟨leM,hv2,ho2,hR2⟩;simp only at leM hv2 ho2 hR2;refine zz3 ?_;refine bA Y Y (mB rb tb s nv r2 59 ho2 aH _) bS Y ?_;rintro _ K _ ⟨rfl,rfl,rfl⟩ -;refine zz9 ?_;refine uAx ?_;refine fB fun K8 leP hP=>?_;refine bI Y Y (x6 leM leP) ?_;exact pM hv2 (r9 ho2) (xW (hR2 _ _ leP hP))
def xT(rb tb:Nat)(s:aP)(nv:Value)(needs:List aP)(hs:s.length≤600)(hn:needs.length≤10000000)(n:Nat)(hn7:n≤7)(K:Hl)(hv:Ksl (a7 9) K nv needs)(d:Int)(hd:d=7 - (n:Int))(r:Res St)(hr:ROk s r)(ih:∀m,n=m+1→IHc rb tb s nv needs m K):
  Sp x3 53 [ptr rb,i64 d] K [rdb rb tb nv,rtx tb s r] (RCs rb tb s nv (bd r (block s needs n))):=by
 refine bN Tryz.func53 Y Tryz.ntmps53 Y Y fun F w=>?_;refine zz12 ?_;refine nZ (fun(K3:Hl) (r4:Res St) (au:Tree×List Cell) (v:Value)=>K.le K3∧ROk s r4∧BInv s (cmdO s needs n) (bd r (block s needs n)) r4 au.1∧RX K3 r4 au.1 au.2 []∧isCL au.1=true∧au.2.length+muR s r4≤2000) (fun _ _ _ v=>[(0,ptr rb),(1,i64 d),(5,v)]) (fun K3 _ _ _=>K3) (fun _ r4 au v=>[sl false (cC 152) v au.2,rdb rb tb nv,rtx tb s r4]) (fun _ r4 _ _=>muR s r4) K r (.cnil,[]) nilS ⟨xAB _,hr,aRU,xW ⟨Y,Y⟩,Y,by have:=aHK s r;simp;omega⟩ aS Y (eL (cC 152)) ?_;intro K3 r4 ⟨acc,us⟩ v ⟨leK,hr4,hB4,hX4,hL4,hm4⟩;simp only at hB4 hX4 hL4 hm4;refine aI ?_;refine dX (fun(_:Unit)=>True) (fun _=>[(0,ptr rb),(1,i64 d),(5,v),(25,.bool (decide (rK r4=119)))]) (fun _=>K3) (fun _=>[sl false (cC 152) v us,rdb rb tb nv,rtx tb s r4]) ?_ ?_
 ·refine zz10 ?_;refine bV 15 Y (fun g15=>?_) (fun g15=>?_)
  ·refine zz20 ?_;exact a8 () trivial (.cons 0 Y (.cons 1 Y (.cons 5 Y (.cons 25 gE5 .nil)))) Y (fun _ h=>h)
  refine zz11 ?_;exact a8 () trivial (.cons 0 Y (.cons 1 Y (.cons 5 Y (.cons 25 gE5 .nil)))) Y (fun _ h=>h)
 intro _ _;refine aY 25 Y (fun h25=>?_) (fun h25=>?_)
 ·obtain⟨st,rfl⟩:=zW (r:=r4) aH;have hk:=(qQ hr4.2).1 h25;refine zz7 ?_;refine bA Y Y (aJD rb tb s nv needs hs hn n hn7 _ (hv.mono leK) d hd st hr4 hk (fun m hm K2 le=>ih m hm K2 (x6 leK le))) bS Y ?_;rintro _ K5 _ ⟨bt,t,r5,rfl,hv5,ho5,hx5,rfl⟩ le5;have hB5:=aW5 hr4.1 hk hB4 hv5;have hX5:=bFV hL4 (hX4.mono le5) hx5;refine zz6 ?_;refine cJ (bM (z0:=[.pointer none]) yI tz152 Y Y Y Y dF) Y ?_;rintro _ K _ ⟨b31,rfl,rfl,rfl⟩ -;refine cJ (dQ (k:=(cC 152)) (ys:=[pcl bt]) aJH Y Y (.there (.there (.there .here))) (fun w j=>dJ Tryz.underlying103 (SeesSl.at (.blk aL Y Y) j)) gC7 gC9) Y ?_;rintro v32 K _ ⟨rfl,rfl,ho32⟩ -;refine zz3 ?_;refine uAy ?_;refine fH K r5 (acc.snocC t,us++[pcl bt]) _ ⟨x6 leK le5,ho5,hB5.1,hX5,aQQ hL4,by simp only[List.length_append,List.length_singleton];omega⟩ hB5.2 aS Y (fun _ h=>h)
 refine zz12 ?_;refine bI Y Y leK ?_;exact⟨_,Y,us,acc,r4,bBY hr4 hB4 h25,hr4,hX4,by omega,rfl⟩
def aHU(rb tb:Nat)(s:aP)(nv:Value)(needs:List aP)(hs:s.length≤600)(hn:needs.length≤10000000):∀n:Nat,n≤7→∀K,Ksl (a7 9) K nv needs→IHc rb tb s nv needs n K:=by
 intro n;induction n with
 |zero=>intro h7 K hv K' le d r hd hr;exact xT rb tb s nv needs hs hn 0 h7 K' (hv.mono le) d hd r hr (fun m h=>by omega)
 |succ n ih=>
  intro h7 K hv K' le d r hd hr;refine xT rb tb s nv needs hs hn (n+1) h7 K' (hv.mono le) d hd r hr ?_;intro m h;obtain rfl:n=m:=by omega
  exact ih aH K' (hv.mono le)
end Go.Proofs
end
section
namespace Go.Proofs
open Go Go.SL Go.Syn Go.Mach
open Go.Say (Co)
open Go.Cmp (cnt)
def uP(r:Res (Bool×Co))(d:Co)(en:Bool)(e p:Int):Prop:=match r with
 | .error y=>en=true∧e=y.1∧p=y.2
 | .ok q=>d=q.2∧en=q.1∧e=0∧p=0
def SOk(n:Nat)(r:Res (Bool×Co)):Prop:=∀q,r=.ok q→CInv q.2∧q.2.vars.length≤n
section
variable{nm:Bool}{m:Msg}{c:Co}
def qS{k p:Int}{a:aP}(h:CInv c):SOk (c.vars.length+1) (Say.cmd nm m (.act k a p) c):=by
 intro q hq;simp only[Say.cmd]at hq;cases ha:Say.act k (Say.actArg nm k a c) p c with
 |error e=>rw[ha]at hq;cases hq
 |ok d=>
  rw[ha]at hq;cases hq
  have hx:∀x,Say.addX x p c=.ok d→CInv d∧d.vars.length≤c.vars.length+1:=by
   intro x hx;unfold Say.addX at hx;split at hx
   ·cases hx;exact⟨⟨h.vn,h.vars,h.parts,h.acts,fun e=>by cases e⟩,Nat.le_succ _⟩
   split at hx
   ·cases hx
   split at hx
   ·cases hx
   cases hx;exact⟨⟨h.vn,h.vars,h.parts,by have:=h.acts;simp;omega,fun e=>by cases e⟩,Nat.le_succ _⟩
  unfold Say.act at ha;split at ha
  ·cases ha
  split at ha
  ·cases ha
  exact hx _ ha
def qT{n v:aP}{t:Int}(h:CInv c)(hn:c.vars.length+1≤1000000):SOk (c.vars.length+1) (Say.cmd nm m (.set_ n v t) c):=by
 intro q hq;simp only[Say.cmd]at hq;cases hq
 have hl:=aC0 c.vars n (Say.setV t (dH nm c.vars c.parts v));refine⟨⟨by simp only;omega,fun name=>?_,h.parts,h.acts,h.keep⟩,hl⟩
 simp only;rw[aEC];split
 ·unfold Say.setV;exact xAV (List.length_take_le _ _) aH
 exact h.vars name
end
end Go.Proofs
end
section
namespace Go.Syn
open Go Go.SL Go.Proofs
section
variable{s:aP}
def QInv(s:aP)(W:Res (List aP×Tree))(r:Res St)(ns:List aP):Prop:=match r with
 | .ok st=>∃f,mu s st≤f∧W=jP s (reqF s (f+1) ns st)
 | .error e=>W=.error e
def bDE:ROk s (next s 0):=lE (r:=.ok (0,⟨0,[],0,0⟩)) ⟨⟨x9 _,x9 _⟩,.inr (x9 _)⟩
def aTM:QInv s (gN s) (next s 0) []:=by
 unfold gN;cases next s 0 with
 |error e=>rfl
 |ok st=>exact⟨mu s st,xAA _,Y⟩
def aZR{W:Res (List aP×Tree)}{r r2:Res St}{ns l:List aP}(h:ROk s r)(hi:QInv s W r ns)(hk:rK r=119)(hw:rS r=o5)(hr2:ROk s r2)(hl:RV (bd (nx s r) fun st=>list s st (ffit 1)) l r2):QInv s W (rsig s 59 r2) (jK ns l)∧muR s (rsig s 59 r2) < muR s r:=by
 obtain⟨st,rfl⟩:=zW (r:=r) aH;obtain⟨f,hf,hW⟩:=hi;have h1:=(qQ h.2).1 hk;have hs:st.2.s=o5:=by rw[←aFW h1];exact hw
 simp only[reqF]at hW;rw[x7 ⟨h1,hs⟩]at hW;have hl2:RV (bd (next s st.1) fun st=>list s st (oneOf 6 tL)) l r2:=hl;have sg:=qG (s:=s) (c:=59) (by decide) hr2;rw[show (59:UInt8).toNat=59 from rfl]at sg;rw[sg];cases hn:next s st.1 with
 |error e=>rw[hn]at hW hl2;cases (show r2=.error e from hl2);exact⟨hW,Nat.succ_pos _⟩
 |ok q=>
  rw[hn]at hW hl2;have hm:=(gY h.1.1 aH hn).1;have hqo:=fX h.1.1 hn;have hl3:RV (list s q (oneOf 6 tL)) l r2:=hl2;simp only[]at hW;cases hx:list s q (oneOf 6 tL)with
  |error e=>rw[hx]at hW hl3;cases (show r2=.error e from hl3);exact⟨hW,Nat.succ_pos _⟩
  |ok p=>
   rw[hx]at hW hl3;obtain⟨rfl,rfl⟩:=hl3.ok;have hm2:=oK hqo hx
   show QInv s W (sign s p.2 [59]) _∧muR s (sign s p.2 [59]) < _
   simp only[]at hW;cases hy:sign s p.2 [59]with
   |error e=>rw[hy]at hW;exact⟨hW,Nat.succ_pos _⟩
   |ok y=>
    rw[hy]at hW;have hm3:=(aM7 hm2.1.1 hy).1;obtain⟨g,rfl⟩:∃g,f=g+1:=⟨f - 1,by omega⟩;exact⟨⟨g,by omega,hW⟩,by show mu s y+1 < mu s st+1;omega⟩
def PEnd(W:Res (List aP×Tree))(ns:List aP)(t:Tree)(r:Res St):Prop:=match r with
 | .ok _=>W=.ok (ns,t)
 | .error e=>W=.error e
def bE1{W:Res (List aP×Tree)}{r r2:Res St}{ns:List aP}{t:Tree}(h:ROk s r)(hi:QInv s W r ns)(hk:¬(rK r=119∧rS r=o5))(h2:ROk s r2)(hv:RV (bd r (block s ns 7)) t r2):PEnd W ns t (if rK r2=0 then r2 else rf (4,rW s r2) r2):=by
 cases r with
 |error e=>
  cases (show r2=.error e from hv)
  rw[x7 (show rK (.error e)=0 from rfl)];exact hi
 |ok st=>
  obtain ⟨f, hf, hW⟩ := hi;simp only [reqF] at hW;rw [x5 (by
   rintro⟨h1,h3⟩;exact hk ⟨(qQ h.2).2 h1,by rw[aFW h1];exact h3⟩)]at hW
  unfold jP at hW;have hv2:RV (block s ns 7 st) t r2:=hv;simp only[]at hW;cases hb:block s ns 7 st with
  |error e=>
   rw[hb]at hW hv2;cases (show r2=.error e from hv2)
   rw[x7 (show rK (.error e)=0 from rfl)];exact hW
  |ok b=>
   rw[hb]at hW hv2;obtain⟨rfl,rfl⟩:=hv2.ok;have hz:=bJD h2.2;simp only[]at hW
   by_cases h0:b.2.2.kind=0
   ·rw[x7 h0]at hW;rw[x7 (show rK (.ok b.2)=0 from hz.2 h0)];exact hW
   rw[x5 h0]at hW;rw[x5 (show ¬rK (.ok b.2)=0 from fun hh=>h0 (hz.1 hh))];exact hW
end
def tO(K:Hl)(b:Nat)(q:List aP×Tree):Prop:=∃nv bv us,K b=some (bL [nv,bv] 105)∧Ksl (a7 9) K nv q.1∧Ksl (cC 152) K bv us∧RR K q.2 us []
def tO.mono{K K':Hl}{b:Nat}{q:List aP×Tree}(h:tO K b q)(le:K.le K'):tO K' b q:=by
 obtain⟨nv,bv,us,h1,h2,h3,h4⟩:=h;exact⟨nv,bv,us,le _ _ h1,h2.mono le,h3.mono le,h4.mono le⟩
def aVG (s : aP) (p : Value) (e a : Int) (K : Hl) : Prop := (600 < s.length ∧ p = .pointer none ∧ e = 1 ∧ a = 0) ∨ (s.length ≤ 600 ∧ match gN s with
 | .error x=>p=.pointer none∧e=x.1∧a=x.2∧x.1≠0
 | .ok q=>e=0∧∃b,p=ptr b∧tO K b q)
def bMV{s:aP}{ns:List aP}{t:Tree}{r:Res St}{K:Hl}(hs:s.length≤600)(h:PEnd (gN s) ns t r)(ho:ROk s r)(he:¬rE r=0):aVG s (.pointer none) (rE r) (rP r) K:=by
 cases r with
 |ok st=>exact absurd Y he
 |error e=>refine .inr ⟨hs,?_⟩;rw[show gN s=.error e from h];exact⟨Y,Y,Y,ho⟩
def bOW{s:aP}{ns:List aP}{t:Tree}{r:Res St}{K:Hl}{b:Nat}{nv bv:Value}{us:List Cell}(hs:s.length≤600)(h:PEnd (gN s) ns t r)(ho:ROk s r)(he:¬ ¬rE r=0)(hb:K b=some (bL [nv,bv] 105))(hn:Ksl (a7 9) K nv ns)(hv:Ksl (cC 152) K bv us)(hx:RX K r t us []):aVG s (ptr b) 0 0 K:=by
 obtain⟨st,rfl⟩:=bK4 ho (xBD.1 he);refine .inr ⟨hs,?_⟩
 rw[show gN s=.ok (ns,t)from h];exact⟨Y,b,Y,nv,bv,us,hb,hn,hv,hx⟩
def bM0{s:aP}{K:Hl}{r:Res St}{t:Tree}{us ws:List Cell}(h:RX K r t us ws):RX K (if rK r=0 then r else rf (4,rW s r) r) t us ws:=by
 split
 ·exact h
 cases r with
 |ok st=>trivial
 |error e=>trivial
end Go.Syn
end
section
namespace Go.Proofs
open Go Go.SL Go.Syn Go.Mach
open Go.Say (Co)
open Go.Cmp (cnt)
def Bad(r:Res (Bool×Co)):Prop:=∀y,r=.error y→y.1≠0
section
variable{nm:Bool}{m:Msg}
def aEJ{k p:Int}{a:aP}{c:Co}:Bad (Say.cmd nm m (.act k a p) c):=by
 intro y hy;simp only[Say.cmd]at hy;cases ha:Say.act k (Say.actArg nm k a c) p c with
 |ok d=>rw[ha]at hy;cases hy
 |error e2=>
  rw[ha]at hy;cases hy
  unfold Say.act at ha;split at ha
  ·cases ha;exact fun h=>(by cases h)
  split at ha
  ·cases ha;exact fun h=>(by cases h)
  unfold Say.addX at ha;split at ha
  ·cases ha
  split at ha
  ·cases ha;exact fun h=>(by cases h)
  split at ha
  ·cases ha;exact fun h=>(by cases h)
  cases ha
end
end Go.Proofs
end
section
namespace Go.Say
open Go.Syn Go.Mach Go.Cmp
def Co.mx(c:Co)(stk:List Bool)(pc:Nat):MS:=⟨c.acts,c.keep,c.vars,c.parts,stk,pc⟩
section
variable{nm:Bool}{m:Msg}{o:Ins}{c:Co}{stk:List Bool}{pc n:Nat}
def bGI(h:o.op=11)(ht:o.tag=1∨(2≤o.tag∧o.tag≤4)∧0 < o.a.length):Mach.step nm m n o (c.mx stk pc)=match act o.tag (actArg nm o.tag ((o.a[0]?).getD []) c) o.at_ c with| .error e=>.error e| .ok d=>.ok (d.mx stk pc):=by
 unfold Mach.step;rw[x5 aH,x5 aH,x5 aH,x5 aH,x5 aH,x5 aH,x5 aH,x5 aH,x7 h]
 unfold actI act addX;rw[x7 (ht.imp id fun q=>⟨q.1.1,q.1.2,List.length_pos_iff.1 q.2⟩)];have e1:actA nm o (c.mx stk pc)=actArg nm o.tag ((o.a[0]?).getD []) c:=rfl;simp only[e1]
 generalize actArg nm o.tag ((o.a[0]?).getD []) c=x
 have e2:actV o x=actX o.tag x:=rfl;rw[e2]
 generalize actX o.tag x=X
 have ea:(c.mx stk pc).acts=c.acts:=rfl;rw[ea]
 by_cases h1:o.tag=2∧sT x=false
 ·rw[x7 h1,x7 h1] <;> rfl
 rw[x5 h1,x5 h1]
 by_cases h2:o.tag=3∧fM x=false
 ·rw[x7 h2,x7 h2] <;> rfl
 rw[x5 h2,x5 h2]
 by_cases h3:X∈c.acts
 ·rw[x7 h3,x7 h3] <;> rfl
 rw[x5 h3,x5 h3]
 by_cases h4:∃b∈c.acts,X.1=4∨b.1=4
 ·rw[x7 h4,x7 h4] <;> rfl
 rw[x5 h4,x5 h4]
 by_cases h5:c.acts.length=6
 ·rw[x7 h5,x7 h5] <;> rfl
 rw[x5 h5,x5 h5] <;> rfl
def bGL{x v:aP}{as_ bs:List aP}(h:o.op=12)(ht:0≤o.tag∧o.tag≤3)(ha:o.a=x::as_)(hb:o.b=v::bs):Mach.step nm m n o (c.mx stk pc)=.ok (({c with vars:=vput c.vars x (setV o.tag (dH nm c.vars c.parts v))}:Co).mx stk pc):=by
 unfold Mach.step;rw[x5 aH,x5 aH,x5 aH,x5 aH,x5 aH,x5 aH,x5 aH,x5 aH,x5 aH,x7 h]
 unfold setI;rw[x7 ht,ha,hb];rfl
end
structure ExI where
 c:Co
 stk:List Bool
 pc:Nat
 st:Nat
 en:Bool
 e:Int
 p:Int
section
open Go.Proofs
def XEnd(nm:Bool)(m:Msg)(code:List Ins)(c:Co)(st:Nat)(en:Bool)(e p:Int):Prop:=∃r,uP r c en e p∧Bad r∧(∀x,r=.ok x→CInv x.2)∧Mach.run nm code m=⟨(out r).1,st,(out r).2⟩
def XInv(nm:Bool)(m:Msg)(code:List Ins)(q:ExI):Prop:=q.stk.length≤8∧q.st≤q.pc∧q.pc≤code.length∧((q.en=false∧q.e=0∧q.p=0∧CInv q.c∧q.c.vars.length≤q.st∧∃f,code.length≤f+q.pc∧Mach.run nm code m=Mach.loop nm m code (f+1) q.st (q.c.mx q.stk q.pc))∨(q.en=true∧XEnd nm m code q.c q.st true q.e q.p))
variable{nm:Bool}{m:Msg}{code:List Ins}{o:Ins}{c d:Co}{stk stk':List Bool}{pc pc' st:Nat}{q:ExI}
def XNext(nm:Bool)(m:Msg)(code:List Ins)(pc st:Nat)(q:ExI):Prop:=XInv nm m code q∧q.st=st+1∧(q.en=true∨pc < q.pc)
structure XAt (nm:Bool) (m:Msg) (code:List Ins) (c:Co) (stk:List Bool) (pc st:Nat) (o:Ins):Prop where
 inv:CInv c
 vn:c.vars.length≤st
 s8:stk.length≤8
 sp:st≤pc
 at_:code[pc]?=some o
 run:∃f,code.length≤f+pc∧Mach.run nm code m=Mach.loop nm m code (f+1) st (c.mx stk pc)
def XAt.lt(h:XAt nm m code c stk pc st o):pc < code.length:=(xAG.1 h.at_).1
def XAt.ok(h:XAt nm m code c stk pc st o)(h14:o.op≠14)(hs:Mach.step nm m code.length o (c.mx stk pc)=.ok (d.mx stk' pc'))(hd:CInv d)(hv:d.vars.length≤st+1)(h8:stk'.length≤8):XInv nm m code ⟨d,stk',pc'+1,st+1,false,0,0⟩∧pc < pc'+1:=by
 have hp:=aCS hs h.lt;have hp:pc≤pc'∧pc' < code.length:=hp;have hst:=h.sp;obtain⟨f,hf,hr⟩:=h.run;refine⟨⟨h8,by show st+1≤pc'+1;omega,hp.2,.inl ⟨rfl,rfl,rfl,hd,hv,?_⟩⟩,by omega⟩
 obtain⟨g,rfl⟩:∃g,f=g+1:=⟨f - 1,by have:=h.lt;omega⟩;refine⟨g,by show _≤g+(pc'+1);omega,?_⟩
 rw[hr,Mach.loop];rw[show (c.mx stk pc).pc=pc from rfl,h.at_];simp only[if_neg h14,hs]
 rfl
def XAt.err(h:XAt nm m code c stk pc st o){y:Int×Int}(h14:o.op≠14)(hs:Mach.step nm m code.length o (c.mx stk pc)=.error y)(h0:y.1≠0):XEnd nm m code d (st+1) true y.1 y.2:=by
 refine⟨.error y,⟨Y,Y,Y⟩,(fun z hz=>by cases hz;exact h0),(fun x hx=>by cases hx),?_⟩
 obtain⟨f,hf,hr⟩:=h.run;rw[hr,Mach.loop,show (c.mx stk pc).pc=pc from rfl,h.at_];simp only[if_neg h14,hs]
 rfl
def XAt.next(h:XAt nm m code c stk pc st o)(h14:o.op≠14)(hs:Mach.step nm m code.length o (c.mx stk pc)=.ok (d.mx stk' pc'))(hd:CInv d)(hv:d.vars=c.vars)(h8:stk'.length≤8):XNext nm m code pc st ⟨d,stk',pc'+1,st+1,false,0,0⟩:=
 let q:=h.ok h14 hs hd (by rw[hv];have:=h.vn;omega) h8
 ⟨q.1,rfl,.inr q.2⟩
def XAt.act(h:XAt nm m code c stk pc st o)(h11:o.op=11)(ht:o.tag=1∨(2≤o.tag∧o.tag≤4)∧0 < o.a.length){en:Bool}{e p:Int}(hs:uP (cmd nm m (.act o.tag ((o.a[0]?).getD []) o.at_) c) d en e p):XInv nm m code ⟨d,stk,pc+1,st+1,en,e,p⟩:=by
 have hst:=bGI (nm:=nm) (m:=m) (c:=c) (stk:=stk) (pc:=pc) (n:=code.length) h11 ht;have hk:=qS (nm:=nm) (m:=m) (k:=o.tag) (p:=o.at_) (a:=(o.a[0]?).getD []) h.inv;have hb:=aEJ (nm:=nm) (m:=m) (k:=o.tag) (p:=o.at_) (a:=(o.a[0]?).getD []) (c:=c);have hl:=h.lt;have h1:=h.sp;have h2:=h.vn;simp only[cmd]at hs hk hb;cases ha:Say.act o.tag (actArg nm o.tag ((o.a[0]?).getD []) c) o.at_ c with
 |error y=>
  rw[ha]at hst hs hb;obtain⟨rfl,rfl,rfl⟩:=hs;exact⟨h.s8,by show st+1≤pc+1;omega,hl,.inr ⟨rfl,h.err aH hst (hb y rfl)⟩⟩
 |ok d2=>
  rw[ha]at hst hs hk;obtain⟨rfl,rfl,rfl,rfl⟩:d=d2∧en=false∧e=0∧p=0:=hs;obtain⟨g1,g2⟩:=hk _ rfl;refine(h.ok aH hst g1 ?_ h.s8).1
  have:(false,d).2.vars=c.vars:=by
   unfold Say.act at ha;split at ha
   ·cases ha
   split at ha
   ·cases ha
   unfold addX at ha;split at ha
   ·cases ha;rfl
   split at ha
   ·cases ha
   split at ha
   ·cases ha
   cases ha;rfl
  rw[show d.vars=c.vars from this];omega
def aC0(k v:aP):∀vars:List (aP×aP),(vput vars k v).length≤vars.length+1
 | []=>by simp[vput]
 |(j,u)::r=>by
  unfold vput;split
  ·simp
  have:=aC0 k v r;simp;omega
def XAt.set(h:XAt nm m code c stk pc st o){x v:aP}{as_ bs:List aP}(h12:o.op=12)(ht:0≤o.tag∧o.tag≤3)(ha:o.a=x::as_)(hb:o.b=v::bs)(hpc:code.length≤100000){en:Bool}{e p:Int}(hs:uP (cmd nm m (.set_ x v o.tag) c) d en e p):XInv nm m code ⟨d,stk,pc+1,st+1,en,e,p⟩:=by
 have hd:=(qT (nm:=nm) (m:=m) (n:=x) (v:=v) (t:=o.tag) h.inv (by have:=h.vn;have:=h.sp;have:=h.lt;omega) _ rfl).1;obtain⟨rfl,rfl,rfl,rfl⟩:d={c with vars:=vput c.vars x (setV o.tag (dH nm c.vars c.parts v))}∧en=false∧e=0∧p=0:=hs;exact(h.ok aH (bGL h12 ht ha hb) hd (by have:=aC0 x (setV o.tag (dH nm c.vars c.parts v)) c.vars;have:=h.vn;show (vput _ _ _).length≤_;omega) h.s8).1
end
end Go.Say
end
section
attribute [local irreducible] Go.SL.T Go.SL.OL Go.SL.D Go.SL.DL Go.SL.Ev Go.SL.Ef Go.SL.EfS
namespace Go.Proofs
open Go Go.SL Go.Syn Go.Mach
set_option maxRecDepth 100000 in
def bO2:fT x3 120=some ([(str []),.int .i64 0,.int .i64 0,.int .i64 0,.int .u8 0,(str []),.int .i64 0,.int .i64 0],[(0,1),(1,1),(2,1),(3,1),(4,4)]):=cY
def aQD(s:aP)(K:Hl):Sp x3 29 [str s] K [] (Ret fun v K' L'=>∃p e x,v=.tuple #[p,i64 e,i64 x]∧aVG s p e x K'∧L'=[]):=by
 refine bN Tryz.func29 Y Tryz.ntmps29 Y Y fun F w=>?_;refine zz15 ?_;refine aY 12 Y (fun h12=>?_) (fun h12=>?_)
 ·refine zz9 ?_;refine uAf ?_;refine vS Y Y Y Y gFZ ?_;exact⟨_,Y,_,_,_,Y,.inl ⟨by omega,rfl,rfl,rfl⟩,Y⟩
 have hs:s.length≤600:=by omega
 refine zz5 ?_;refine aA (dG bO2 tb120f dF) Y (zz1 ?_);rintro _ K _ ⟨b15,rfl,rfl,rfl⟩ -;refine aA (dG tb122 tb122f dF) Y (zz1 ?_);rintro _ K _ ⟨b17,rfl,rfl,rfl⟩ -;refine zz9 ?_;refine bA Y Y (aH1 b15 s 0 _ _ _ _ aH (x9 _) _) bS Y ?_;rintro _ K _ ⟨rfl,rfl,rfl⟩ -;have hr0:=bDE (s:=s);refine zz4 ?_;refine nZ (fun(K3:Hl) (r1:Res St) (ns:List (List UInt8)) (sv:Value)=>K.le K3∧ROk s r1∧QInv s (gN s) r1 ns∧ns.length+1400*muR s r1≤2000000) (fun _ _ _ _=>[(5,ptr b17)]) (fun K3 _ _ _=>K3) (fun _ r1 ns sv=>[sl false (a7 9) sv ns,rdb b17 b15 sv,rtx b15 s r1]) (fun _ r1 _ _=>muR s r1) K (Syn.next s 0) [] nilS ⟨xAB _,hr0,aTM,by have:=aHK s (Syn.next s 0);simp;omega⟩ aS Y (fun h hh=>eL (a7 9) _ (by simpa using Tks.sat (N:=[]) (aM cI (aM bW bF)) h hh)) ?_;intro K3 r1 ns sv ⟨leK,hr1,hQ,hnl⟩;refine aI ?_;refine dX (fun(_:Unit)=>True) (fun _=>[(5,ptr b17),(52,.bool (decide (rK r1=119∧rS r1=o5)))]) (fun _=>K3) (fun _=>[sl false (a7 9) sv ns,rdb b17 b15 sv,rtx b15 s r1]) ?_ ?_
 ·refine zz10 ?_;refine bV 31 Y (fun g31=>?_) (fun g31=>?_)
  ·refine zz20 ?_;refine bV 42 Y (fun g42=>?_) (fun g42=>?_)
   ·refine zz20 ?_;exact a8 () trivial (.cons 5 Y (.cons 52 gDP .nil)) Y (fun _ h=>h)
   refine zz11 ?_;exact a8 () trivial (.cons 5 Y (.cons 52 gDP .nil)) Y (fun _ h=>h)
  refine zz22 ?_;exact a8 () trivial (.cons 5 Y (.cons 52 gDP .nil)) Y (fun _ h=>h)
 intro _ _;refine aY 52 Y (fun h52=>?_) (fun h52=>?_)
 ·refine zz9 ?_;refine bA Y Y (gF b15 s r1 hr1 aH _) bS Y ?_;rintro _ K _ ⟨rfl,rfl,rfl⟩ -;have hr2:=lE hr1;refine zz5 ?_;refine bA Y Y (qR b17 b15 s sv 1 (nx s r1) (by decide) hr2 hs _) bS Y ?_;rintro v59 K4 _ ⟨xs,r3,hv3,hr3,hx3,hx3b,rfl⟩ le3;refine fZ fun K5 leS hS=>?_;refine zz10 ?_;refine lK (fun(i:Nat) (ms:List (List UInt8)) (sw:Value)=>i≤xs.length∧ms=jK ns (xs.take i)∧ms.length≤ns.length+i) (fun i _ _=>[(5,ptr b17),(6,v59),(7,i64 i)]) (fun _ _ _=>K5) (fun i ms sw=>[sl false (a7 9) sw ms,rdb b17 b15 sw,rtx b15 s r3]) (fun i _ _=>xs.length - i) 0 ns sv ⟨x9 _,Y,xAA _⟩ aS Y (fun h hh=>by simpa using Tks.sat (N:=[]) (aM e7 (aM bW (aM bW bF))) h hh) ?_;intro i ms sw ⟨hi0,hms,hml⟩;refine zz5 ?_;refine aA (bU (k:=a7 9) Y Tryz.underlying43 Y (.known hS)) Y (zz3 ?_);refine aY 63 Y (fun h63=>?_) (fun h63=>?_)
  ·have hilt:i < xs.length:=by omega
   obtain⟨e,he⟩:∃e,xs[i]?=some e:=⟨xs[i]'hilt,x4 hilt⟩;refine zz5 ?_;refine cZ (anc:=[0,1,3,7,0,0,48,112,255,511]) (ord:=[0,1,2,3,4,5,6,7,8,9]) [8] [8] mixed gC5 (cQ _) (zz6 ?_);refine aJ Y Y (.none Y) Y Y (aX (k:=a7 9) (j:=i) cB Y (.known hS) Y Y hilt) Y ?_;refine aJ Y Y (.none Y) Y Y (cE (o:=0) (k:=a7 9) ts9 Y (.known hS) he Y) Y ?_;refine eQ Y (.none Y) Y Y Y (q8 sw e ms _ [sl false (a7 9) sw ms] aL aH) bS Y ?_;rintro _ K _ ⟨rfl,rfl,rfl⟩ -;refine zz6 ?_;refine aA gC3 Y (zz2 ?_)
   first|refine aY 76 Y (fun h76=>?_) (fun h76=>?_)|refine d9 76 Y (fun h76=>?_) (fun h76=>?_)
   ·refine cZ (anc:=[0,0,2,6,14,0,0,96,224,480,1022,2047,4095,8191]) (ord:=[0,1,2,3,4,5,6,7,8,9,10,11,12,13]) [9,10,13] [13] mixed gC5 (aM cI bF) (zz7 ?_);refine aJ Y Y (.none Y) Y Y (aX (k:=a7 9) (j:=i) cB Y (.known hS) Y Y hilt) Y ?_;refine aJ Y Y (.none Y) Y Y (cE (o:=0) (k:=a7 9) ts9 Y (.known hS) he Y) Y ?_;refine uK Y Y (.none Y) Y Y (bM (z0:=[(str [])]) cB tz9 Y Y Y Y dF) Y ?_;rintro _ K _ ⟨b86,rfl,rfl,rfl⟩ -;refine⟨_,(show Tks _ _ _ from (aM cI bF)).sat,?_⟩
    refine uK Y Y (.none Y) Y Y (dQ (k:=(a7 9)) (ys:=[e]) eI Y Y (.there (.there .here)) (fun w j=>dJ Tryz.underlying43 (SeesSl.at (.blk aL Y Y) j)) gC7 gC9) Y ?_;rintro v87 K _ ⟨rfl,rfl,ho87⟩ -;refine⟨_,(show Tks _ _ _ from (aM cI bF)).sat,?_⟩
    refine zz2 ?_;refine mT Y Y (.none Y) Y (bX eP Y Y dA bR aZe Y) ?_;rintro _ K _ ⟨rfl,rfl⟩ -;refine zz8 ?_
    first
     |exact gCE
     |exact eF (i+1) ms _ ⟨by omega,by rw[kU he,←hms];unfold addN;rw[x7 (by simpa using h76)],by omega⟩ aH aS Y cV
   refine zz8 ?_
   first
    |exact gCE
    |exact eF (i+1) ms _ ⟨by omega,by rw[kU he,←hms];unfold addN;rw[x7 (by simpa using h76)],by omega⟩ aH aS Y cV
  have hms2:ms=jK ns xs:=(by rw[hms,aBB aH]);subst hms2;refine zz7 ?_;refine bA Y Y (mB b17 b15 s sw r3 59 hr3 aH _) bS Y ?_;rintro _ K _ ⟨rfl,rfl,rfl⟩ -;refine zz2 ?_;have hq7:=aZR hr1 hQ h52.1 h52.2 hr3 hv3;refine uAx ?_;refine fH _ (rsig s 59 r3) (jK ns xs) _ ⟨x6 leK (x6 le3 leS),r9 hr3,hq7.1,by omega⟩ hq7.2 aS Y (fun _ h=>h)
 refine zz8 ?_;refine fZ fun K6 leN hN=>?_;obtain⟨na,nn,nc,rfl⟩:=hN.isSlice;refine bA Y Y (aHU b17 b15 s _ ns hs aH 7 (xAA _) _ hN _ (xAB _) _ r1 aH hr1) bS Y ?_;rintro v93 K7 _ ⟨us,t,r2,hv2,hr2,hx2,hz2,rfl⟩ le7;have hP:=bE1 hr1 hQ h52 hr2 hv2;refine fZ fun K8 le8 h8=>?_;obtain⟨sa,sn,sc,rfl⟩:=h8.isSlice;have hX:=bM0 (s:=s) (hx2.mono le8);refine zz3 ?_;refine dX (fun(_:Unit)=>True) (fun _=>[(5,ptr b17),(9,.slice sa sn sc)]) (fun _=>K8) (fun _=>[rdb b17 b15 (.slice na nn nc),rtx b15 s (if rK r2=0 then r2 else rf (4,rW s r2) r2)]) ?_ ?_
 ·refine zz13 ?_;refine aY 102 Y (fun h102=>?_) (fun h102=>?_)
  ·refine cZ (anc:=[0,1,3,7,0,16,48,112,240,496,1008,2032,4095]) (ord:=[0,1,2,3,4,5,6,7,8,9,10,11,12]) [12] [12] mixed gC5 (cQ _) (zz12 ?_);refine eQ Y (.none Y) Y Y Y (m5 b15 s r2 4 (rW s r2) hr2 aH _) bS Y ?_;rintro _ K _ ⟨rfl,rfl,rfl⟩ -;refine cL ?_
   first
    |exact gCQ
    |(rw[x7 (show rK r2=0 by omega)];exact a8 () trivial aS Y (fun _ h=>h))
  refine aW ?_
  first
   |exact gCQ
   |(rw[x7 (show rK r2=0 by omega)];exact a8 () trivial aS Y (fun _ h=>h))
 intro _ _;have hr3:ROk s (if rK r2=0 then r2 else rf (4,rW s r2) r2):=bFG hr2 (show (4:Int)≠0 by decide)
 generalize (if rK r2=0 then r2 else rf (4,rW s r2) r2)=r3 at*
 refine zz13 ?_;refine aY 123 Y (fun h123=>?_) (fun h123=>?_)
 ·refine aI ?_;refine cZ (anc:=[0,1,3,7,15,31,63,0,128,384,896,1920,3968,8064,0,16511,65535]) (ord:=[0,1,2,3,4,5,6,7,8,9,10,11,12,13,14,15,16]) [] [] mixed gC5 (cQ _) (zz21 ?_);refine uAf ?_;refine vS Y Y Y Y gFZ ?_;exact⟨_,Y,_,_,_,Y,bMV hs hP hr3 h123,Y⟩
 refine zz9 ?_;refine aA (dG tb105 tb105f dF) Y (zz1 ?_);rintro _ K _ ⟨b144,rfl,rfl,rfl⟩ -;refine zz6 ?_;refine fB fun K9 le9 h9=>?_;refine uAf ?_;refine vS Y Y Y Y (x6 leK (x6 leN (x6 le7 (x6 le8 le9)))) ?_;exact⟨_,Y,_,_,_,Y,bOW hs hP hr3 h123 h9 (hN.mono (x6 le7 (x6 le8 le9))) (h8.mono le9) (hX.mono le9),Y⟩
end Go.Proofs
end
