/- Part 14 of what the proof stands on: walks and plain laws. Conditions: as each theorem says. -/
import Derived.Test.YthopmddkpdehiaaGreatDoorA13
set_option linter.unusedVariables false
set_option linter.unusedSimpArgs false
set_option linter.defProp false
set_option maxRecDepth 4000
set_option maxHeartbeats 1000000
section
attribute [local irreducible] Go.SL.T Go.SL.OL Go.SL.D Go.SL.DL Go.SL.Ev Go.SL.Ef Go.SL.EfS
section
namespace Go.Proofs
open Go Go.SL Go.Syn Go.Mach Tryz
section
variable{oct:Bool}{key v:aP}{tag:Int}
section
variable{w a b:aP}{i k:Nat}{c:UInt8}{rest:List aP}
def US(d:b[k]?=some c)(F:¬c.toNat=42)(h:iV w a b i k=some rest):∃x,a[i]?=some x:=by
 cases s:a[i]? with
 |some x=>exact⟨x,Y⟩
 |none=>rw[vM d F s]at h;cases h
def X0(d:b[k]?=some c)(L:c.toNat=63)(h:iV w a b i k=some rest):∃C,i<a.length/\rest=(w.take (i+1)).drop i::C/\iV w a b (i+1) (k+1)=some C:=by
 obtain⟨x,e⟩:=US d aH h;rw[Bg d L e]at h;cases H:iV w a b (i+1) (k+1)with
 |none=>rw[H]at h;cases h
 |some C=>rw[H]at h;exact⟨C,(xAI.1 e).1,(xA0 h).symm,Y⟩
def KJ{n:Nat}{d:UInt8}(j:u4 b k n d)(h:iV w a b i k=some rest):i<a.length/\iV w a b (i+1) (k+n)=some rest:=by
 cases c:a[i]? with
 |none=>rw[Dp j c]at h;cases h
 |some x=>
  rw[Fv j c]at h;split at h
  ·exact⟨(xAI.1 c).1,h⟩
  cases h
def KH:Mach.glob v key oct=iV v (gZ oct v) (gZ oct key) 0 0:=by
 unfold Mach.glob iV;rw[show (gZ oct key).length=key.length by unfold gZ;split;rfl;exact pB _];rfl
end
def mvk(tag:Int)(a b v:aP):Option (List aP):=if tag=1 then (if a=b then some []else none)else if tag=2 then (if 0<=Lib.index a b then some []else none)else iV v a b 0 0
def BV:gN (Say.matO tag oct 0 [] []) v key=mvk tag (gZ oct v) (gZ oct key) v:=by
 unfold gN mvk;simp only[Say.matO];rw[KH]<;>rfl
def YY{a b:aP}(h:tag=1):(mvk tag a b v).isSome=decide (a=b):=by
 unfold mvk;rw[x7 h];by_cases e:a=b<;>simp[e]
def W6{a b:aP}(c:¬tag=1)(h:tag=2):(mvk tag a b v).isSome=decide (0<=Lib.index a b):=by
 unfold mvk;rw[x6 c,x7 h];by_cases e:0<=Lib.index a b<;>simp[e]
def W7{a b:aP}(h:¬tag=1)(c:¬tag=2):mvk tag a b v=iV v a b 0 0:=by unfold mvk;rw[x6 h,x6 c]
attribute [local semireducible] Go.SL.T Go.SL.OL Go.SL.D Go.SL.DL Go.SL.Ev Go.SL.Ef Go.SL.EfS in
def QM{α:Type}{z:Bool}{k:El α}{E:Env}{x0:Exit}{g:Fr}{K:Hl}{L:List Asn}{Q:Post}{v:Value}{xs:List α}(h:(∃a n c,v=.slice a n c)->D E x0 g K (sl z k v xs::L) Q):D E x0 g K (sl z k v xs::L) Q:=fun a w f i=>h (by obtain⟨y,b,_⟩:=i.rep;exact Cc b) a w f i
def IV(v key:aP)(tag:Int)(oct:Bool)(hv:v.length<=100000)(hk:key.length<=100000)(K:Hl):Sp x3 285 [str v,str key,i64 tag,.bool oct] K []
  (Ret fun r K' L'=>K'=K/\∃u xs,(∃x n c,u=.slice x n c)/\r=.tuple #[u,.bool (gN (Say.matO tag oct 0 [] []) v key).isSome]/\L'=[sl false (aZ 9) u xs]/\(tag≠1->tag≠2->∀ps,Mach.glob v key oct=some ps->xs=(v::ps).take 10)):=by
 refine bL func285 Y ntmps285 Y Y fun F w=>?_;refine ZI ?_;refine dU (fun(_:Unit)=>True) (fun _=>[(0,str v),(2,i64 tag),(10,str (gZ oct v)),(11,str (gZ oct key))]) (fun _=>K) (fun _=>[]) ?_ ?_
 ·refine Z3 ?_;refine aA gAB Y ?_;refine Z2 ?_
  first|refine aX 21 Y (fun l=>?_) (fun l=>?_)|refine dZ 21 Y (fun l=>?_) (fun l=>?_)
  ·refine Z3 ?_;refine cH Y Y (kB v _ aH) Y ?_;refine Z5 ?_;refine cH Y Y (kB key _ aH) Y ?_;refine Z2 ?_
   (have ho:oct=false:=(by revert l;cases oct<;>simp);subst ho;exact cB () trivial (.cons 0 Y (.cons 2 Y (.cons 10 Y (.cons 11 Y .nil)))) Y a7)
  refine aU ?_
  (have ho:oct=true:=(by revert l;cases oct<;>simp);subst ho;exact cB () trivial (.cons 0 Y (.cons 2 Y (.cons 10 Y (.cons 11 Y .nil)))) Y a7)
 intro _ _;have A:Mach.glob v key oct=iV v (gZ oct v) (gZ oct key) 0 0:=KH;have jp:=q7 oct v;have jq:=q7 oct key;have S:=BV (tag:=tag) (oct:=oct) (v:=v) (key:=key)
 generalize gZ oct v=a at A jp S ⊢
 generalize gZ oct key=b at A jq S ⊢
 refine ZD ?_;refine aX 27 Y (fun jg=>ZC ?_) (fun jg=>Z6 ?_)
 ·refine d8 (eO (aZ 9)) ?_;refine jK Y Y Y (xAB _) ?_;exact⟨_,Y,Y,_,[],⟨none,0,0,Y⟩,by rw[S,YY aH],rfl,fun h=>by omega⟩
 refine aX 32 Y (fun jh=>Z7 ?_) (fun jh=>Z7 ?_)
 ·refine eD (fun(i:Nat)=>i<=a.length+1/\∀j,j<i->¬(a.take (j+b.length)).drop j=b) (fun i=>[(10,str a),(11,str b),(12,i64 i)]) (fun _=>K) (fun _=>[]) (fun i=>a.length+1-i) 0 ⟨xAA _,fun j h=>by omega⟩ (.cons 10 Y (.cons 11 Y (.cons 12 Y .nil))) Y a7 ?_;intro i ⟨ju,jc⟩;refine ZC ?_;refine aX 40 Y (fun ji=>ZC ?_) (fun ji=>ZE ?_)
  ·refine aA (fP (m:=i) (n:=i+b.length) x9 Y Y Y Y aH aH aH) Y ?_;refine Z4 ?_;refine aX 51 Y (fun C=>ZE ?_) (fun C=>Z8 ?_)
   ·refine d8 (eO (aZ 9)) ?_;refine jK Y Y Y (xAB _) ?_;have hq:=Gx (a:=a) (b:=b) (i:=i) aH C;exact⟨_,Y,Y,_,[],⟨none,0,0,Y⟩,by rw[S,W6 aH aH,xAO hq],rfl,fun h=>by omega⟩
   refine cX (i+1) ⟨aH,fun j hj=>?_⟩ aH (.cons 10 Y (.cons 11 Y (.cons 12 Y .nil))) Y a7
   rcases xAD j i with h|h
   ·exact jc j h
   have e:j=i:=aH;subst e;exact C
  refine d8 (eO (aZ 9)) ?_;refine jK Y Y Y (xAB _) ?_;have hq:=HO (a:=a) (b:=b) jc aH;exact⟨_,Y,Y,_,[],⟨none,0,0,Y⟩,by rw[S,W6 aH aH,xAQ hq],rfl,fun h=>by omega⟩
 refine bA Y Y (Lp a b aH aH _) .nil Y ?_;rintro y K _ ⟨rfl,rs,hD,rfl⟩ -;rw[xAL];have ql:=hD.1;obtain⟨r0,M,qb,jd⟩:=rZ hD (j:=0) aH;have jf:=jd aH 0 aH;rw[W7 aH aH]at S;have E:=CE (v:=a) (k:=b) v b.length (i:=0) (j:=0) aH aH;refine Z7 ?_;refine aA (aW (k:=cC 176) (xs:=rs.map (·.1)) (j:=0) kC Y (.own .here) Y aH gAV) Y ?_;refine aA (cE (o:=0) (k:=cC 176) n7 Y (.own .here) (show (rs.map (·.1))[_]?=some _ by rw[xAT,M];rfl) Y) Y ?_;refine aA (aW (k:=d7) (xs:=r0.2) (j:=0) fF Y (.own (lI M)) Y aH aH) Y ?_;refine aA (cE (o:=0) (k:=d7) ts4 Y (.own (lI M)) jf Y) Y ?_;refine aA gAB Y ?_;refine Z2 ?_
 first|refine aX 60 Y (fun g=>?_) (fun g=>?_)|refine dZ 60 Y (fun g=>?_) (fun g=>?_)
 ·have h0:tab a b 0 0=false:=(by revert g;cases tab a b 0 0<;>simp);rw[h0]at E;have G:iV v a b 0 0=none:=(by cases H:iV v a b 0 0 with|none=>rfl|some x=>rw[H]at E;cases E);refine Z8 ?_;refine uAd ?_;refine d8 (eO (aZ 9)) ?_;refine jK Y Y Y (xAB _) ?_;rw[G]at S A;exact⟨_,Y,Y,_,[],⟨none,0,0,Y⟩,by rw[S];rfl,rfl,fun _ _ ps h=>by rw[A]at h;cases h⟩
 have h0:tab a b 0 0=true:=(by revert g;cases tab a b 0 0<;>simp);rw[h0]at E;obtain⟨t,B⟩:∃t,iV v a b 0 0=some t:=(by cases H:iV v a b 0 0 with|none=>rw[H]at E;cases E|some x=>exact⟨x,Y⟩);refine Z5 ?_;refine cG (bJ (z0:=[(str [])]) b0 tz9 Y Y Y Y (.cons Y Y Y (.cons .nil) .nil)) Y ?_;refine aCJ fun qd=>?_;refine kG (xV (k:=aZ 9) (xs:=[v]) Y) ?_;refine ZF ?_;refine m8 (fun(k:Nat) (i:Nat) (f:List aP) (s:Value)=>k<=b.length/\i<=a.length/\f.length<=k/\(∃x n c,s=.slice x n c)/\∃rest,iV v a b i k=some rest/\t=f++rest) (fun k i _ s=>[(0,str v),(11,str b),(13,y),(14,s),(15,i64 i),(16,i64 k)]) (fun _ _ _ _=>K) (fun _ _ f s=>sl false (aZ 9) s (v::f)::oV y rs) (fun k _ _ _=>b.length-k) 0 0 [] _ ⟨aH,aH,cD,⟨_,_,_,Y⟩,t,B,Y⟩ (.cons 0 Y (.cons 11 Y (.cons 13 Y (.cons 14 Y (.cons 15 Y (.cons 16 Y .nil)))))) Y a7 ?_;intro k i f s ⟨qi,ju,qf,W,rest,H,d⟩;refine Z9 ?_;refine aX 66 Y (fun jj=>?_) (fun jj=>?_)
 ·obtain⟨c,hc⟩:∃c,b[k]?=some c:=⟨b[k]'(by omega),x4 aH⟩;refine ZJ ?_;refine aX 72 Y (fun jk=>?_) (fun jk=>Z6 ?_)
  ·obtain⟨z,qs,js,qg,q,I,G⟩:=PD hc (show c.toNat=42 by omega) H;have je:tab a b z (k+1)=true:=(by rw[<-CE (v:=a) (k:=b) v b.length aH aH,q];rfl);refine Z8 ?_;refine eD (fun(e:Nat)=>i<=e/\e<=z) (fun e=>[(0,str v),(11,str b),(13,y),(14,s),(15,i64 e),(16,i64 k),(17,i64 i)]) (fun _=>K) (fun _=>sl false (aZ 9) s (v::f)::oV y rs) (fun e=>z-e) i ⟨aH,js⟩ (.cons 0 Y (.cons 11 Y (.cons 13 Y (.cons 14 Y (.cons 15 Y (.cons 16 Y (.cons 17 Y .nil))))))) Y a7 ?_;intro e ⟨jt,ja⟩;obtain⟨r,hr,qk,jy⟩:=rZ hD (j:=e) aH;have jv:=jy aH (k+1) aH;refine Z5 ?_;refine aA (aW (k:=cC 176) (xs:=rs.map (·.1)) (j:=e) kC Y (.own (.there .here)) Y aH gAV) Y ?_;refine aA (cE (o:=0) (k:=cC 176) n7 Y (.own (.there .here)) (show (rs.map (·.1))[_]?=some _ by rw[xAT,hr];rfl) Y) Y ?_;refine Z2 ?_;refine aA (aW (k:=d7) (xs:=r.2) (j:=k+1) fF Y (.own (.there (lI hr))) Y aH aH) Y ?_;refine aA (cE (o:=0) (k:=d7) ts4 Y (.own (.there (lI hr))) jv Y) Y ?_;refine aA gAB Y ?_;refine Z2 ?_;refine dZ 83 Y (fun L=>?_) (fun L=>?_)
   ·refine Z9 ?_;have qj:e<z:=(by rcases xAD e z with h|h;exact h;(have e1:e=z:=by omega);rw[e1,je]at L;cases L);exact cX (e+1) ⟨aH,aH⟩ aH (.cons 0 Y (.cons 11 Y (.cons 13 Y (.cons 14 Y (.cons 15 Y (.cons 16 Y (.cons 17 Y .nil))))))) Y a7
   have jb:e=z:=(by rcases xAD e z with h|h;(rw[G e jt h]at L;cases L);omega);have ja:e<=a.length:=aH;refine ZB ?_;refine aA (fP (m:=i) (n:=e) x9 Y Y Y Y Y aH aH) Y ?_;refine cG (bJ (z0:=[(str [])]) b0 tz9 Y Y Y Y (.cons Y Y Y (.cons .nil) .nil)) Y ?_;refine aCJ fun qe=>?_;refine cG (dJ (k:=(aZ 9)) (ys:=[(v.take e).drop i]) eE Y Y (.there .here) (fun w j=>dC xAC (SeesSl.at (.blk (.own .here) Y Y) j)) gAG gAG) Y ?_;rintro qp K _ ⟨rfl,rfl,qa⟩ -;refine ZD ?_
   (refine aV (.cons .here (.cons (.there .here) (pE _ _))) ?_;refine QM fun N=>?_;exact jQ (k+1) e (f++[(v.take e).drop i]) _ ⟨aH,ja,by simp;omega,N,qs,by rw[jb];exact q,by rw[d,I,jb,xA1];rfl⟩ aH (.cons 0 Y (.cons 11 Y (.cons 13 Y (.cons 14 Y (.cons 15 Y (.cons 16 Y .nil)))))) Y a7)
  refine aX 93 Y (fun jl=>?_) (fun jl=>Z6 ?_)
  ·obtain⟨qs,qh,I,q⟩:=X0 hc (show c.toNat=63 by omega) H;refine Z6 ?_;refine aA (fP (m:=i) (n:=i+1) x9 Y Y Y Y aH aH aH) Y ?_;refine cG (bJ (z0:=[(str [])]) b0 tz9 Y Y Y Y (.cons Y Y Y (.cons .nil) .nil)) Y ?_;refine aCJ fun jz=>?_;refine cG (dJ (k:=(aZ 9)) (ys:=[(v.take (i+1)).drop i]) eE Y Y (.there .here) (fun w j=>dC xAC (SeesSl.at (.blk (.own .here) Y Y) j)) gAG gAG) Y ?_;rintro qc K _ ⟨rfl,rfl,jw⟩ -;refine ZG ?_
   (refine aV (.cons .here (.cons (.there .here) (pE _ _))) ?_;refine QM fun N=>?_;exact jQ (k+1) (i+1) (f++[(v.take (i+1)).drop i]) _ ⟨aH,aH,by simp;omega,N,qs,q,by rw[d,I,xA1];rfl⟩ aH (.cons 0 Y (.cons 11 Y (.cons 13 Y (.cons 14 Y (.cons 15 Y (.cons 16 Y .nil)))))) Y a7)
  refine aX 103 Y (fun O=>Z9 ?_) (fun O=>?_)
  ·refine aX 109 Y (fun P=>?_) (fun P=>?_)
   ·obtain⟨c2,jr⟩:∃c2,b[k+1]?=some c2:=⟨b[k+1]'(by omega),x4 aH⟩;have p:=KJ (.inl ⟨rfl,⟨c,hc,aH⟩,jr⟩) H;refine ZJ ?_;exact jQ (k+2) (i+1) f s ⟨aH,aH,aH,W,rest,p.2,d⟩ aH (.cons 0 Y (.cons 11 Y (.cons 13 Y (.cons 14 Y (.cons 15 Y (.cons 16 Y .nil)))))) Y a7
   have p:=KJ (.inr ⟨rfl,hc,aH,aH,fun _=>xAH aH⟩) H;exact gEF
  have p:=KJ (.inr ⟨rfl,hc,aH,aH,fun h=>absurd h aH⟩) H;exact gEF
 obtain rfl:k=b.length:=aH;rw[q8]at H;have jx:rest=[]:=(by split at H;exact(xA0 H).symm;cases H);subst jx;rw[xAL]at d;subst d;obtain⟨ca,cn,cc,rfl⟩:=W;refine Z9 ?_;refine aA (bU (k:=aZ 9) Y xAC Y (.own .here)) Y ?_;refine Z3 ?_;refine aX 116 Y (fun Q=>Z2 ?_) (fun Q=>ZA ?_)
 ·refine aA (mN (k:=aZ 9) (xs:=v::t) (m:=10) b0 Y .here .here Y Y aH) Y ?_;refine kG (Wh .here (sU (m:=10) (xs:=v::t) aH)) ?_;refine ZB ?_;refine uAr ?_;refine jK Y Y Y (xAB _) ?_;rw[B]at S A;exact⟨_,Y,Y,_,(v::t).take 10,⟨_,_,_,Y⟩,by rw[S];rfl,rfl,fun _ _ ps h=>by rw[A]at h;cases h;rfl⟩
 refine uAr ?_;refine jK Y Y Y (xAB _) ?_;rw[B]at S A;exact⟨_,Y,Y,_,v::t,⟨_,_,_,Y⟩,by rw[S];rfl,rfl,fun _ _ ps h=>by rw[A]at h;cases h;exact(xAJ aH).symm⟩
end
end Go.Proofs
end
section
namespace Go.Syn
open Go.Proofs
section
variable{ext s:aP}{h:How}{op:Int}{needs:List aP}{r:Res St}
def reqx(s:aP)(needs:List aP)(ext:aP)(r:Res St):Res St:=if ext=[]\/ext∈needs then r else rf (6,rW s r) r
def xR(h:ROk s r):ROk s (reqx s needs ext r):=by
 unfold reqx;split
 ·exact h
 exact FA h (fun h=>by cases h)
def extW(w:aP):aP:=if w=dK then dK else if w=gL then dS else []
def opW(w:aP):Int:=if w=gK then 6 else if w=dK then 7 else 8
def Jy(s:aP)(r:Res St):Res (How×St):=bd r fun e=>iB s (mu s e+1) ⟨false,0,false⟩ e
def TInv(s:aP)(T:Res (How×St))(r:Res St)(h:How):Prop:=match r with
 | .ok a=>∃f,mu s a<=f/\T=iB s (f+1) h a
 | .error e=>T=.error e
def PM(s:aP)(r:Res St):TInv s (Jy s r) r ⟨false,0,false⟩:=by
 cases r with
 |error e=>rfl
 |ok a=>exact⟨mu s a,xAG _,Y⟩
theorem O4:bd r (kW s needs op ext)=lV s op (Jy s (nx s (reqx s needs ext r))):=by
 cases r with
 |error e=>
  unfold reqx;split<;>rfl
 |ok a=>
  show kW s needs op ext a=_
  unfold kW reqx
  by_cases h:ext=[]\/ext∈needs
  ·grind [lV,Jy,next,bd,kW,nx,reqx]
  exact gG1
theorem TP{T:Res (How×St)}(i:ROk s r)(p:TInv s T r h)(j:rK r≠58):RV T h r:=by
 cases r with
 |error e=>rw[show T=.error e from p];rfl
 |ok a=>
  grind [iB,ROk,TInv,rK,RV,Hb]
theorem CG{T:Res (How×St)}(i:ROk s r)(p:TInv s T r h)(j:rK r=58):∃st f,r=.ok st/\mu s st<=f/\rS r=st.2.s/\rW s r=st.2.at_/\T=iB s (f+1) h st/\st.2.kind=2:=by
 grind [rs,ROk,TInv,rK,mu,rS,rW,iB,yL,Hb]
theorem TC(x:aP):dT eQ x=if x=txIs then 0 else if x=pH then 1 else if x=rJ then 2 else if x=nE then 3 else -1:=by
 unfold dT eQ;rw[List.findIdx?_cons,List.findIdx?_cons,List.findIdx?_cons,List.findIdx?_cons];by_cases h:x=txIs<;>grind [dT,eQ,txIs,pH,rJ,nE]
theorem TN{T:Res (How×St)}(i:ROk s r)(p:TInv s T r h)(j:rK r=58)(a:dT eQ (rS r)= -1):T=.error (4,rW s r)/\rf (4,rW s r) r=.error (4,rW s r):=by
 grind [iB,ROk,TInv,rK,dT,eQ,rS,rW,rf,CG]
theorem Ep{T:Res (How×St)}(i:ROk s r)(p:TInv s T r h)(j:rK r=58)(C:dT eQ (rS r)≠ -1)(a:(dT eQ (rS r)=3/\h.cmp=true)\/(dT eQ (rS r)<3/\h.tag≠0)):T=.error (7,rW s r)/\rf (7,rW s r) r=.error (7,rW s r):=by
 grind [iB,ROk,TInv,rK,dT,eQ,rS,rW,rf,CG]
def TQ{T:Res (How×St)}(i:ROk s r)(p:TInv s T r h)(j:rK r=58)(C:dT eQ (rS r)≠ -1)(c:dT eQ (rS r)<3)(I:h.tag=0):TInv s T (nx s r) ⟨h.cmp,1+dT eQ (rS r),h.oct⟩/\muR s (nx s r)<muR s r:=by
 obtain⟨b,f,rfl,t,d,l,a,F⟩:=CG i p j;rw[d]at c C ⊢;simp only[iB]at a;rw[x7 F,x6 C,x6 (by rintro(⟨h,_⟩|⟨_,h⟩);omega;exact h I),x7 c]at a
 show TInv s T (next s b.1) _/\muR s (next s b.1)<_
 cases u:next s b.1 with
 |error e=>rw[u]at a;exact⟨a,Nat.succ_pos _⟩
 |ok q=>
  rw[u]at a;have B:=(j1 i.1.1 aH u).1;obtain⟨g,rfl⟩:∃g,f=g+1:=⟨f-1,aH⟩;exact⟨⟨g,aH,a⟩,by show mu s q+1<mu s b+1;omega⟩
def TO{T:Res (How×St)}(i:ROk s r)(p:TInv s T r h)(t:rK r=58)(w:dT eQ (rS r)=3)(l:h.cmp=false):TInv s T (rone s (oneOf 7 [dH,cU]) (nx s r)).2 ⟨true,h.tag,decide ((rone s (oneOf 7 [dH,cU]) (nx s r)).1=dH)⟩/\muR s (rone s (oneOf 7 [dH,cU]) (nx s r)).2<muR s r:=by
 have A:=lC i;have H:=xS (ff:=oneOf 7 [dH,cU]) A;obtain⟨b,f,rfl,B,j,y,a,F⟩:=CG i p t;rw[j]at w;simp only[iB]at a;rw[x7 F,x6 aH,x6 (by rintro(⟨_,h⟩|⟨h,_⟩);rw[l]at h;cases h;omega),x6 aH]at a;have c:nx s (.ok b)=next s b.1:=rfl;rw[c]at H A ⊢;cases u:next s b.1 with
 |error e=>
  rw[u]at a H;have:(rone s (oneOf 7 [dH,cU]) (.error e)).2=.error e:=H;rw[this];exact⟨a,Nat.succ_pos _⟩
 |ok q=>
  rw[u]at a H;have C:=(j1 i.1.1 aH u).1;have d:=fU i.1.1 u;simp only[]at a;have z:RV (text s q (oneOf 7 [dH,cU])) _ _:=H;cases S:text s q (oneOf 7 [dH,cU])with
  |error e=>
   rw[S]at a z;have:(rone s (oneOf 7 [dH,cU]) (.ok q)).2=.error e:=z;rw[this];exact⟨a,Nat.succ_pos _⟩
  |ok x=>
   rw[S]at a z;obtain⟨M,O⟩:=z.ok;have v:=(nA d.1 S).1;rw[O,<-M];obtain⟨g,rfl⟩:∃g,f=g+1:=⟨f-1,aH⟩;exact⟨⟨g,aH,a⟩,by show mu s x.2+1<mu s b+1;omega⟩
theorem I2{T:Res (How×St)}{W r3:Res St}{xs ys:List aP}(c:RV T h r)(d:RV (bd r fun st=>list s st (mO op)) xs W)(l:RV (bd W fun st=>list s st (fun _=>0)) ys r3):RV (lV s op T) (.mat (if 1>h.tag then 1 else h.tag) h.oct op xs ys) r3:=by
 cases T with
 |error e=>
  cases (show r=.error e from c)
  cases (show W=.error e from d)
  exact l
 |ok p=>
  obtain⟨rfl,rfl⟩:=c.ok;unfold lV;simp only[];have b:RV (list s p.2 (mO op)) xs W:=d;cases v:list s p.2 (mO op)with
  |error e=>
   rw[v]at b;cases (show W=.error e from b)
   exact l
  |ok a=>
   rw[v]at b;obtain⟨rfl,rfl⟩:=b.ok;have u:RV (list s a.2 (fun _=>0)) ys r3:=l;simp only[];cases B:list s a.2 (fun _=>0)<;>grind [RV]
def uN{T:Res (How×St)}{t:Tree}{e:Int×Int}(h:T=.error e):RV (lV s op T) t (.error e):=by rw[h];rfl
end
end Go.Syn
end
section
namespace Go.Syn
open Go Go.SL Go.Proofs
section
variable{all:Bool}{sv v:Cell}{K K':Hl}{us zs:List Cell}{W:Res (Tree×St)}{r r2:Res St}{acc b t:Tree}{α β:Type}{F G:St->Res β}{a:α}
abbrev nilS:Value:=.slice none 0 0
abbrev tsO(w:aP)(y av P:Value)(tag:Int)(oct:Bool)(n:Int):Obj:=bK [str w,y,av,P,i64 tag,.bool oct,i64 n] 411
abbrev cmO(w:aP)(av:Value)(tag:Int)(y P:Value)(p:Int):Obj:=bK [str w,av,i64 tag,y,P,i64 p] 337
abbrev pcl(b:Nat):Cell:=⟨ptr b,rfl⟩
def vV(all:Bool):aP:=if all=true then lE else lF
def matW(op:Int):aP:=if op=6 then gK else if op=7 then dK else gL
def actW(k:Int):aP:=if k=1 then pI else if k=2 then fO else if k=3 then gH else hU
def RR(K:Hl):Tree->List Cell->List Cell->Prop
 | .const c,us,ws=>ws=[]/\∃b,us=[pcl b]/\K b=some (tsO (if c=true then jO else gO) nilS nilS nilS 0 false 0)
 | .not_ t,us,ws=>ws=[]/\∃b v e,us=[pcl b]/\RR K t [v] []/\Ksl (cC 340) K e [v]/\K b=some (tsO qF e nilS nilS 0 false 0)
 | .many all l,us,ws=>ws=[]/\∃b d e,us=[pcl b]/\RR K l d []/\Ksl (cC 340) K e d/\K b=some (tsO (vV all) e nilS nilS 0 false 0)
 | .mat S h B x y,us,ws=>ws=[]/\∃b C i,us=[pcl b]/\Ksl (aZ 9) K C x/\Ksl (aZ 9) K i y/\K b=some (tsO (matW B) nilS C i S h 0)
 | .exi x,us,ws=>ws=[]/\∃b C,us=[pcl b]/\Ksl (aZ 9) K C x/\lT C/\K b=some (tsO kJ nilS C nilS 0 false 0)
 | .siz S n,us,ws=>ws=[]/\∃b,us=[pcl b]/\K b=some (tsO mW nilS nilS nilS S false n)
 | .plain B,us,ws=>ws=[]/\∃b p,us=[pcl b]/\K b=some (cmO (if B=14 then l6 else jH) nilS 0 nilS nilS p)
 | .act k a p,us,ws=>ws=[]/\∃b f,us=[pcl b]/\Ksl (aZ 9) K f (if k=1 then []else [a])/\K b=some (cmO (actW k) f 0 nilS nilS p)
 | .set_ n v t,us,ws=>ws=[]/\∃b f p,us=[pcl b]/\Ksl (aZ 9) K f [n,v]/\K b=some (cmO sE f t nilS nilS p)
 | .iff s,us,ws=>ws=[]/\∃b d g e P p,us=[pcl b]/\RR K s d g/\Ksl (cC 340) K e d/\Ksl (cC 240) K P g/\K b=some (cmO txIf nilS 0 e P p)
 | .tnil,us,ws=>us=[]/\ws=[]
 | .cnil,us,ws=>us=[]/\ws=[]
 | .bnil,us,ws=>us=[]/\ws=[]
 | .tcons t l,us,ws=>ws=[]/\∃v d,us=v::d/\RR K t [v] []/\RR K l d []
 | .ccons t l,us,ws=>ws=[]/\∃v d,us=v::d/\RR K t [v] []/\RR K l d []
 | .bcons t b l,us,ws=>∃v d sv g zs,us=v::d/\ws=sv::g/\RR K t [v] []/\RR K b zs []/\Ksl (cC 333) K sv.1 zs/\RR K l d g
 | .belse b l,us,ws=>l=.bnil/\us=[]/\∃sv zs,ws=[sv]/\RR K b zs []/\Ksl (cC 333) K sv.1 zs
def RR.mono(le:K.le K'):∀ {t:Tree} {us ws:List Cell},RR K t us ws->RR K' t us ws:=by
 intro t;induction t with
 |const c=>rintro us ws ⟨h,b,e,j⟩;exact⟨h,b,e,le _ _ j⟩
 |not_ t w=>rintro us ws ⟨h,b,v,q,e,d,f,j⟩;exact⟨h,b,v,q,e,w d,f.mono le,le _ _ j⟩
 |many all l w=>rintro us ws ⟨h,b,g,q,e,d,f,j⟩;exact⟨h,b,g,q,e,w d,f.mono le,le _ _ j⟩
 |mat S F G x y=>rintro us ws ⟨h,b,C,H,e,d,f,j⟩;exact⟨h,b,C,H,e,d.mono le,f.mono le,le _ _ j⟩
 |exi x=>rintro us ws ⟨h,b,C,e,d,E,j⟩;exact⟨h,b,C,e,d.mono le,E,le _ _ j⟩
 |siz S n=>rintro us ws ⟨h,b,e,j⟩;exact⟨h,b,e,le _ _ j⟩
 |plain G=>rintro us ws ⟨h,b,p,e,j⟩;exact⟨h,b,p,e,le _ _ j⟩
 |act k a p=>rintro us ws ⟨h,b,r,e,d,j⟩;exact⟨h,b,r,e,d.mono le,le _ _ j⟩
 |set_ n v t=>rintro us ws ⟨h,b,r,p,e,d,j⟩;exact⟨h,b,r,p,e,d.mono le,le _ _ j⟩
 |iff I w=>rintro us ws ⟨h,b,g,u,q,P,p,e,d,f,s,j⟩;exact⟨h,b,g,u,q,P,p,e,w d,f.mono le,s.mono le,le _ _ j⟩
 |tnil=>intro us ws h;exact h
 |cnil=>intro us ws h;exact h
 |bnil=>intro us ws h;exact h
 |tcons t l A i=>rintro us ws ⟨h,v,g,e,d,f⟩;exact⟨h,v,g,e,A d,i f⟩
 |ccons t l A i=>rintro us ws ⟨h,v,g,e,d,f⟩;exact⟨h,v,g,e,A d,i f⟩
 |bcons t b l A i N=>rintro us ws ⟨v,g,sv,u,zs,M,O,d,f,s,B⟩;exact⟨v,g,sv,u,zs,M,O,A d,i f,s.mono le,N B⟩
 |belse b l A i=>rintro us ws ⟨z,M,sv,zs,O,d,f⟩;exact⟨z,M,sv,zs,O,A d,f.mono le⟩
def SR(I:RR K t [v] []):∀ {l:Tree} {us:List Cell},isTL l=true->RR K l us []->RR K (l.snocT t) (us++[v]) []/\isTL (l.snocT t)=true:=by
 intro l;induction l with
 |tnil=>rintro us _ ⟨rfl,_⟩;exact⟨⟨Y,v,[],Y,I,Y,Y⟩,Y⟩
 |tcons x l A i=>
  rintro us a ⟨_,w,d,rfl,h,b⟩;obtain⟨c,z⟩:=i a b;exact⟨⟨Y,w,_,Y,h,c⟩,z⟩
 |_=>intro us a;cases a
def SP(I:RR K t [v] []):∀ {l:Tree} {us:List Cell},isCL l=true->RR K l us []->RR K (l.snocC t) (us++[v]) []/\isCL (l.snocC t)=true:=by
 intro l;induction l with
 |cnil=>rintro us _ ⟨rfl,_⟩;exact⟨⟨Y,v,[],Y,I,Y,Y⟩,Y⟩
 |ccons x l A i=>
  rintro us a ⟨_,w,d,rfl,h,b⟩;obtain⟨c,z⟩:=i a b;exact⟨⟨Y,w,_,Y,h,c⟩,z⟩
 |_=>intro us a;cases a
def isOB:Tree->Bool
 | .bnil=>true
 | .bcons _ _ l=>isOB l
 |_=>false
def SO(I:RR K t [v] [])(r:RR K b zs [])(e:Ksl (cC 333) K sv.1 zs):∀ {l:Tree} {us ws:List Cell},isOB l=true->RR K l us ws->RR K (l.snocB (some t) b) (us++[v]) (ws++[sv])/\isOB (l.snocB (some t) b)=true:=by
 intro l;induction l with
 |bnil=>rintro us ws _ ⟨rfl,rfl⟩;exact⟨⟨v,[],sv,[],zs,Y,Y,I,r,e,Y,Y⟩,Y⟩
 |bcons x y l A i N=>
  rintro us ws a ⟨w,g,f,j,C,rfl,rfl,h,c,d,z⟩;obtain⟨F,G⟩:=N a z;exact⟨⟨w,_,f,_,C,Y,Y,h,c,d,F⟩,G⟩
 |_=>intro us ws a;cases a
def SQ(r:RR K b zs [])(d:Ksl (cC 333) K sv.1 zs):∀ {l:Tree} {us ws:List Cell},isOB l=true->RR K l us ws->RR K (l.snocB none b) us (ws++[sv]):=by
 intro l;induction l with
 |bnil=>rintro us ws _ ⟨rfl,rfl⟩;exact⟨Y,Y,sv,zs,Y,r,d⟩
 |bcons x y l A i N=>
  rintro us ws v ⟨w,f,e,g,C,rfl,rfl,h,a,c,z⟩;exact⟨w,f,e,_,C,Y,Y,h,a,c,N v z⟩
 |_=>intro us ws v;cases v
def RX(K:Hl)(r:Res St)(t:Tree)(us ws:List Cell):Prop:=match r with| .ok _=>RR K t us ws| .error _=>True
def RX.mono{ws:List Cell}(h:RX K r t us ws)(le:K.le K'):RX K' r t us ws:=by
 cases r with
 |ok st=>exact RR.mono le h
 |error e=>trivial
def wF{ws:List Cell}(h:RR K t us ws):RX K r t us ws:=by
 cases r with
 |ok st=>exact h
 |error e=>trivial
section
variable{s:aP}{needs:List aP}
theorem RV.map{f:α->β}{x:Res (α×St)}{y:Res (β×St)}(h:RV x a r)(M:∀e,x=.error e->y=.error e)(O:∀p,x=.ok p->y=.ok (f p.1,p.2)):RV y (f a) r:=by
 cases x<;>grind [RV]
def WE:RV (bd r fun q=>.ok (a,q)) a r:=by cases r<;>first|rfl|exact⟨Y,Y⟩
theorem CT(h:∀st,F st=match next s st.1 with| .error e=>.error e| .ok q=>G q):bd r F=bd (nx s r) G:=by
 cases r<;>grind [bd,next,nx]
def JM{c:UInt8}(d:eF c=true)(i:ROk s r)(h:∀st,F st=match sign s st [c]with| .error e=>.error e| .ok q=>G q):bd r F=bd (rsig s c.toNat r) G:=by
 rw[mC d i];cases r with
 |error e=>rfl
 |ok st=>show F st=bd (sign s st [c]) G;rw[h];cases sign s st [c]<;>rfl
def SY{b:Bool}:RV (bd r (mL s b)) (.const b) (nx s r):=by
 rw[CT (s:=s) (F:=mL s b) (G:=fun q=>.ok (.const b,q)) fun st=>rfl];exact WE
def XX{T:St->Res (Tree×St)}(h:RV (bd (nx s r) T) t r2):RV (bd r (notC s T)) (.not_ t) r2:=by
 rw[CT (s:=s) (F:=notC s T) (G:=fun q=>match T q with| .error e=>.error e| .ok t=>.ok (.not_ t.1,t.2)) fun st=>rfl]
 generalize nx s r=q at*
 cases q with
 |error e=>exact h
 |ok q=>exact RV.map (f:=Tree.not_) h (fun e A=>by show (match T q with| .error e=>_| .ok t=>_)=_;rw[show T q=_ from A]) (fun e A=>by show (match T q with| .error e=>_| .ok t=>_)=_;rw[show T q=_ from A])
def Ph{a:List aP}(h:RV (bd (nx s r) fun st=>list s st fun _=>0) a r2):RV (bd r (nL s)) (.exi a) r2:=by
 rw[CT (s:=s) (F:=nL s) (G:=fun q=>match list s q (fun _=>0)with| .error e=>.error e| .ok a=>.ok (.exi a.1,a.2)) fun st=>rfl]
 generalize nx s r=q at*
 cases q with
 |error e=>exact h
 |ok q=>exact RV.map (f:=Tree.exi) h (fun e A=>by show (match list s q (fun _=>0)with| .error e=>_| .ok t=>_)=_;rw[show list s q (fun _=>0)=_ from A]) (fun e A=>by show (match list s q (fun _=>0)with| .error e=>_| .ok t=>_)=_;rw[show list s q (fun _=>0)=_ from A])
def ovr(r:Res St):Bool:=decide (rK r=58)&&decide (rS r=wX)
def und(r:Res St):Bool:=decide (rK r=58)&&decide (rS r=lR)
def Tq(s:aP)(r:St):Res (Tree×St):=match take s r 2 [wX,lR]with| .error e=>.error e| .ok x=>match take s x.2 4 []with| .error e=>.error e| .ok y=>.ok (.siz (if x.1.s=lR then 2 else 1) y.1.n,y.2)
theorem VB(p:ROk s r){r3:Res St}(l:r3=if (ovr (nx s r)||und (nx s r))=true then nx s r else rf (4,rW s (nx s r)) (nx s r)):RV (bd r (p7 s)) (.siz (if ovr (nx s r)=true then 1 else 2) (rN (nx s r3))) (rsig s 48 (nx s r3)):=by
 rw[CT (s:=s) (F:=p7 s) (G:=Tq s) fun st=>rfl];have g:=lC p
 generalize nx s r=r2 at*
 cases r2 with
 |error e=>
  grind [rsig,nx,ovr,und,rf,rW,ROk,RV,bd,p7,rN,kI]
 |ok st=>
  have j:=Hb g.2
  show RV (Tq s st) _ _
  unfold Tq
  by_cases d:(ovr (.ok st)||und (.ok st))=true
  ·rw[x7 d]at l;subst l;have t:rk st.2=58:=by
    unfold ovr und at d;simp only[Bool.or_eq_true,Bool.and_eq_true,decide_eq_true_eq]at d;rcases d with ⟨h,_⟩|⟨h,_⟩<;>exact h
   have b:=j.1 t;have a:rs st.2=st.2.s:=by unfold rs;rw[x6 aH]
   have B:st.2.s∈[wX,lR]:=by
    unfold ovr und at d;simp only[Bool.or_eq_true,Bool.and_eq_true,decide_eq_true_eq]at d;have e:rS (.ok st)=st.2.s:=a;rw[e]at d;rcases d with ⟨_,h⟩|⟨_,h⟩<;>simp[h]
   have I:take s st 2 [wX,lR]=match next s st.1 with| .error e=>.error e| .ok q=>.ok (st.2,q):=by
    unfold take;rw[x6 (by rintro(h|⟨_,h⟩);exact h b;exact h B)]<;>cases next s st.1<;>rfl
   rw[I]
   show RV _ _ (rsig s 48 (next s st.1))
   cases u:next s st.1 with
   |error e=>exact kI dD
   |ok q=>
    simp only[];have v:=I8 u;have i:=FB (s:=s) (st:=q) (k:=4) (c:=48) (XS v);have:=RV.map (y:=match take s q 4 []with| .error e=>.error e| .ok y=>.ok (Tree.siz (if st.2.s=lR then 2 else 1) y.1.n,y.2)) (f:=fun y:Word=>Tree.siz (if st.2.s=lR then 2 else 1) y.n) i (fun e A=>by rw[A]) (fun e A=>by rw[A]);have e:(if st.2.s=lR then (2:Int)else 1)=if ovr (.ok st)=true then 1 else 2:=by
     unfold ovr;rw[show rK (.ok st)=58 from t,show rS (.ok st)=st.2.s from a];rcases List.mem_cons.1 B with h|h
     ·rw[h,x6 dD,x7 cD]
     have h:st.2.s=lR:=by simpa using h
     rw[h,x7 rfl,x6 dD]
    rw[<-e,show rN (nx s (.ok st))=q.2.n from by rw[show nx s (.ok st)=.ok q from u];rfl];exact this
  grind [take,wX,lR,rs,ovr,und,rK,rS,ROk,nx,rf,rW,RV,bd,p7,rN,rsig,kI]
def MInv(s:aP)(T:St->Res (Tree×St))(all:Bool)(W:Res (Tree×St))(r:Res St)(acc:Tree):Prop:=match r with
 | .ok st=>∃f,mu s st<=f/\W=qU all (oT s T (f+1) acc st)
 | .error e=>W=.error e
def NInv(s:aP)(T:St->Res (Tree×St))(all:Bool)(W:Res (Tree×St))(r:Res St)(acc:Tree):Prop:=match bd r T with
 | .error e=>W=.error e
 | .ok t=>∃f,mu s t.2<=f/\W=qU all (oT s T (f+1) (acc.snocT t.1) t.2)
def KZ{T:St->Res (Tree×St)}(i:ROk s r):NInv s T all (bd r (oE s T all)) (rsig s 40 (nx s r)) .tnil:=by
 rw[CT (s:=s) (F:=oE s T all) (G:=fun r=>match sign s r [40]with| .error e=>.error e| .ok q=>match T q with| .error e=>.error e| .ok t=>qU all (oT s T (mu s t.2+1) (.tcons t.1 .tnil) t.2)) fun st=>rfl];rw[JM (c:=40) (G:=fun q=>match T q with| .error e=>.error e| .ok t=>qU all (oT s T (mu s t.2+1) (.tcons t.1 .tnil) t.2)) dD (lC i) fun st=>rfl]
 show NInv s T all (bd (rsig s 40 (nx s r)) _) (rsig s 40 (nx s r)) .tnil
 generalize rsig s 40 (nx s r)=q
 unfold NInv;cases q with
 |error e=>rfl
 |ok st=>
  show match T st with| .error e=>_| .ok t=>_
  simp only[bd];cases T st with
  |error e=>rfl
  |ok t=>exact⟨_,xAG _,Y⟩
theorem OI{T:St->Res (Tree×St)}(c:Adv s T)(i:ROk s r)(a:NInv s T all W r acc)(h:RV (bd r T) t r2):MInv s T all W r2 (acc.snocT t)/\muR s r2<=muR s r:=by
 unfold NInv at a;cases b:bd r T with
 |error e=>
  rw[b]at a h;cases (show r2=.error e from h)
  exact⟨a,xAA _⟩
 |ok p=>
  rw[b]at a h;obtain⟨rfl,rfl⟩:=h.ok;cases r<;>grind [mu,Adv,ROk,NInv,RV,bd,MInv,muR]
def O8{T:St->Res (Tree×St)}(h:ROk s r)(p:MInv s T all W r acc)(j:rK r=44)(b:Adv s T):NInv s T all W (nx s r) acc/\muR s (nx s r)<muR s r:=by
 obtain⟨st,rfl⟩:=yL (r:=r) (by rw[j];decide);obtain⟨f,i,A⟩:=p;obtain⟨F,d⟩:=(qV h.2 rO).1 j;simp only[oT,eat]at A;rw[x7 ⟨F,d⟩]at A
 show NInv s T all W (next s st.1) acc/\muR s (next s st.1)<_
 cases u:next s st.1 with
 |error e=>rw[u]at A;exact⟨A,Nat.succ_pos _⟩
 |ok q=>
  rw[u]at A;have B:=(j1 h.1.1 aH u).1;obtain⟨g,rfl⟩:∃g,f=g+1:=⟨f-1,aH⟩;refine⟨?_,by show mu s q+1<mu s st+1;omega⟩
  simp only[if_true]at A;unfold NInv;simp only[bd];cases a:T q with
  |error e=>rw[a]at A;exact A
  |ok x=>
   rw[a]at A;have c:=(b q x (fU h.1.1 u) a).2;exact⟨g,aH,A⟩
def Py:eF 41=true:=by decide
def RL{T:St->Res (Tree×St)}(h:ROk s r)(p:MInv s T all W r acc)(j:rK r≠44):RV W (.many all acc) (rsig s 41 r):=by
 cases r with
 |error e=>rw[show W=.error e from p];exact kI dD
 |ok st=>
  obtain⟨f,a,A⟩:=p;have u:¬(st.2.kind=5/\st.2.s=[44]):=fun y=>j ((qV h.2 rO).2 y)
  simp only[oT,eat]at A;rw[x6 u]at A;simp only[]at A;rw[x6 dD]at A;have:=mC (s:=s) Py h;rw[show (41:UInt8).toNat=41 from rfl]at this;rw[this]
  show RV W _ (sign s st [41])
  rw[A];cases sign s st [41]with
  |error e=>rfl
  |ok q=>exact⟨Y,Y⟩
def PT{n:Nat}{st:St}(h:¬st.2.kind=1):test s needs n st=.error (4,st.2.at_):=by cases n<;>exact x6 h
def PR{st:St}(h:st.2.kind=1):test s needs 0 st=.error (5,st.2.at_):=x7 h
theorem sX{n:Nat}{st:St}(h:st.2.kind=1):test s needs (n+1) st=match oP s needs (test s needs n) st with|some r=>r|none=>.error (4,st.2.at_):=x7 h
section
variable{n:Nat}{st:St}(h:st.2.kind=1)
include h
def PX(w:st.2.s=jO):test s needs (n+1) st=mL s true st:=by rw[sX h];unfold oP;rw[w];rfl
def LP(w:st.2.s=gO):test s needs (n+1) st=mL s false st:=by rw[sX h];unfold oP;rw[w];rfl
def TL(w:st.2.s=qF):test s needs (n+1) st=notC s (test s needs n) st:=by rw[sX h];unfold oP;rw[w];rfl
def FV(w:st.2.s=vV all):test s needs (n+1) st=oE s (test s needs n) all st:=by rw[sX h];unfold oP;rw[w];cases all<;>rfl
def TK(w:st.2.s=gK\/st.2.s=dK\/st.2.s=gL):test s needs (n+1) st=kW s needs (opW st.2.s) (extW st.2.s) st:=by
 rw[sX h];unfold oP
 rcases w with w|w|w<;>rw[w]<;>rfl
def J2(w:st.2.s=kJ):test s needs (n+1) st=nL s st:=by rw[sX h];unfold oP;rw[w];rfl
def PV(w:st.2.s=mW):test s needs (n+1) st=p7 s st:=by rw[sX h];unfold oP;rw[w];rfl
theorem LR(h:¬st.2.s=jO)(b:¬st.2.s=gO)(l:¬st.2.s=qF)(z:¬st.2.s=lE)(F:¬st.2.s=lF)(G:¬st.2.s=gK)(B:¬st.2.s=dK)(e:¬st.2.s=gL)(j:¬st.2.s=kJ)(C:¬st.2.s=mW):test s needs (n+1) st=.error (4,st.2.at_):=by
 grind [oP,sX]
end
end
end
end Go.Syn
end
section
namespace Go.Say
open Go.Syn Go.Mach Go.SL Go.Proofs
def sK{α β:Type}{f:α->Option β}:∀ {l:List α},(∀x∈l,f x=none)->nQ f l=none
 | [],_=>rfl
 |a::l,h=>by simp only[nQ];rw[h a List.mem_cons_self];exact sK fun x b=>h x (List.mem_cons_of_mem _ b)
def y8{α β:Type}{f:α->Option β}{x:α}{y:β}:∀ {l:List α} {i:Nat},l[i]?=some x->(∀j z,j<i->l[j]?=some z->f z=none)->f x=some y->nQ f l=some y
 | [],i,h,_,_=>by simp at h
 |a::l,0,h,_,e=>by simp at h;subst h;simp only[nQ,e]
 |a::l,i+1,h,u,e=>by
  simp only[nQ];rw[u 0 a aH rfl];exact y8 (i:=i) gBW (fun j z E N=>u (j+1) z aH (by simpa using N)) e
def matV(nm:Bool)(tag:Int)(oct:Bool)(vs keys:List aP)(c:Co):Bool×Co:=
 match iJ (matO tag oct 0 [] []) vs (keys.map (cY nm c.vars c.parts))with
 |some f=>(true,if tag=3/\nm=true then {c with parts:=f}else c)
 |none=>(false,c)
def mat_V{nm:Bool}{m:Msg}{o:Ins}{c:Co}:mat nm m o c=matV nm o.tag o.oct (iL (cY nm c.vars c.parts) m o) o.b c:=rfl
section
variable{nm:Bool}{tag:Int}{oct:Bool}{vs keys:List aP}{c:Co}
def matV_none(h:∀(i:Nat) (v:aP),vs[i]?=some v->∀(q:Nat) (k:aP),keys[q]?=some k->gN (matO tag oct 0 [] []) v (cY nm c.vars c.parts k)=none):matV nm tag oct vs keys c=(false,c):=by
 have:iJ (matO tag oct 0 [] []) vs (keys.map (cY nm c.vars c.parts))=none:=by
  unfold iJ;refine sK fun v H=>sK fun k j=>?_;obtain⟨i,p⟩:=xA4 H;obtain⟨a,e,rfl⟩:=xBM.1 j;obtain⟨q,g⟩:=xA4 e;rw[h i v p q a g];rfl
 unfold matV;rw[this]
def matV_hit{i q:Nat}{v k:aP}{ps:List aP}(hv:vs[i]?=some v)(g:keys[q]?=some k)(d:∀(j:Nat) (v:aP),j<i->vs[j]?=some v->∀(q:Nat) (k:aP),keys[q]?=some k->gN (matO tag oct 0 [] []) v (cY nm c.vars c.parts k)=none)
  (f:∀(j:Nat) (k:aP),j<q->keys[j]?=some k->gN (matO tag oct 0 [] []) v (cY nm c.vars c.parts k)=none) (h:gN (matO tag oct 0 [] []) v (cY nm c.vars c.parts k)=some ps):
  matV nm tag oct vs keys c=(true,if tag=3/\nm=true then {c with parts:=v::ps}else c):=by
 have:iJ (matO tag oct 0 [] []) vs (keys.map (cY nm c.vars c.parts))=some (v::ps):=by
  unfold iJ;refine y8 hv (fun j z E N=>sK fun x a=>?_) ?_
  ·obtain⟨b,e,rfl⟩:=xBM.1 a;obtain⟨G,A⟩:=xA4 e;rw[d j z E N G b A];rfl
  refine y8 (i:=q) (x:=cY nm c.vars c.parts k) (by rw[xAT,g];rfl) (fun j z E N=>?_) (by rw[h];rfl)
  rw[xAT]at N;cases a:keys[j]? with
  |none=>rw[a]at N;cases N
  |some b=>rw[a]at N;cases N;rw[f j b E a];rfl
 unfold matV;rw[this]
end
def elems:Tree->List Tree
 | .tcons t l=>t::elems l
 |_=>[]
def holdsE(nm:Bool)(m:Msg)(all:Bool):List Tree->Co->Bool×Co
 | [],c=>(all,c)
 |t::l,c=>if (holds nm m t c).1=all then holdsE nm m all l (holds nm m t c).2 else holds nm m t c
def holdsL_E{nm:Bool}{m:Msg}{all:Bool}:∀ {l:Tree} {c:Co},qJ nm m all l c=holdsE nm m all (elems l) c
 | .tcons t l,c=>by
  show (if (holds nm m t c).1=all then qJ nm m all l (holds nm m t c).2 else holds nm m t c)=(if (holds nm m t c).1=all then holdsE nm m all (elems l) (holds nm m t c).2 else holds nm m t c)
  rw[holdsL_E (l:=l)]
 | .const _,c=>rfl
 | .not_ _,c=>rfl
 | .many _ _,c=>rfl
 | .mat _ _ _ _ _,c=>rfl
 | .exi _,c=>rfl
 | .siz _ _,c=>rfl
 | .tnil,c=>rfl
 | .plain _,c=>rfl
 | .act _ _ _,c=>rfl
 | .set_ _ _ _,c=>rfl
 | .iff _,c=>rfl
 | .cnil,c=>rfl
 | .ccons _ _,c=>rfl
 | .bnil,c=>rfl
 | .bcons _ _ _,c=>rfl
 | .belse _ _,c=>rfl
def rr_elems{K:Hl}:∀ {l:Tree} {xs:List Cell},wf l 1=true->RR K l xs []->xs.length=(elems l).length/\∀(i:Nat) x t,xs[i]?=some x->(elems l)[i]?=some t->RR K t [x] []
 | .tnil,xs,_,⟨h,_⟩=>by subst h;exact⟨Y,fun i x t h=>by simp at h⟩
 | .tcons t l,xs,b,⟨_,v,g,e,c,d⟩=>by
  subst e;simp[wf]at b;obtain⟨f,z⟩:=rr_elems (l:=l) b.2 d;refine⟨by simp[elems,f],fun i x u a C=>?_⟩
  cases i with
  |zero=>simp[elems]at a C;subst a;subst C;exact c
  |succ i=>exact z i x u (by simpa using a) (by simpa[elems]using C)
section
variable{K:Hl}{t:Tree}{b:Nat}{w:aP}{tv av bv:Value}{tag n:Int}{oct:Bool}
def TSh(K:Hl)(t:Tree)(w:aP)(tv av bv:Value)(tag:Int)(oct:Bool)(n:Int):Prop:=
 (∃c,t=.const c/\w=if c=true then jO else gO)\/(∃u v,t=.not_ u/\w=qF/\RR K u [v] []/\Ksl (cC 340) K tv [v])\/
 (∃a l b,t=.many a l/\w=vV a/\RR K l b []/\Ksl (cC 340) K tv b)\/(∃B x y,t=.mat tag oct B x y/\w=matW B/\Ksl (aZ 9) K av x/\Ksl (aZ 9) K bv y)\/
 (∃x,t=.exi x/\w=kJ/\Ksl (aZ 9) K av x/\lT av)\/(t=.siz tag n/\w=mW)
theorem rr_block{v:Cell}(e:wf t 0=true)(h:RR K t [v] []):∃b w tv av bv tag oct n,v=pcl b/\K b=some (tsO w tv av bv tag oct n)/\TSh K t w tv av bv tag oct n:=by
 cases t<;>grind [wf,RR,TSh]
def RH(all:Bool):vV all=lE\/vV all=lF:=by cases all<;>simp[vV]
def xL(op:Int):matW op=gK\/matW op=dK\/matW op=gL:=by unfold matW;split;simp;split<;>simp
def N6(c:Bool):(if c=true then jO else gO)=jO\/(if c=true then jO else gO)=gO:=by cases c<;>simp
def sh_cases(h:TSh K t w tv av bv tag oct n):w=jO\/w=gO\/w=qF\/w=lE\/w=lF\/w=gK\/w=dK\/w=gL\/w=kJ\/w=mW:=by
 rcases h with ⟨c,_,e⟩|⟨_,_,_,e,_⟩|⟨a,_,_,_,e,_⟩|⟨B,_,_,_,e,_⟩|⟨_,_,e,_⟩|⟨_,e⟩
 ·rcases N6 c with h|h<;>rw[h]at e<;>simp[e]
 ·simp[e]
 ·rcases RH a with h|h<;>rw[h]at e<;>simp[e]
 ·rcases xL B with h|h|h<;>rw[h]at e<;>simp[e]
 ·simp[e]
 simp[e]
def sh_const{c:Bool}(h:TSh K t w tv av bv tag oct n)(b:w=if c=true then jO else gO):t=.const c:=by
 rcases h with ⟨d,e,O⟩|⟨_,_,_,e,_⟩|⟨a,_,_,_,e,_⟩|⟨B,_,_,_,e,_⟩|⟨_,_,e,_⟩|⟨_,e⟩
 ·have:d=c:=by revert b;rw[O];cases d<;>cases c<;>decide
  rw[e,this]
 all_goals exfalso;revert b;rw[e]
 ·cases c<;>decide
 ·cases a<;>cases c<;>decide
 ·rcases xL B with h|h|h<;>rw[h]<;>cases c<;>decide
 ·cases c<;>decide
 cases c<;>decide
def sh_not(h:TSh K t w tv av bv tag oct n)(b:w=qF):∃u v,t=.not_ u/\RR K u [v] []/\Ksl (cC 340) K tv [v]:=by
 rcases h with ⟨d,_,e⟩|⟨u,v,e,_,c,f⟩|⟨a,_,_,_,e,_⟩|⟨B,_,_,_,e,_⟩|⟨_,_,e,_⟩|⟨_,e⟩
 ·exfalso;revert b;rw[e];cases d<;>decide
 ·exact⟨u,v,e,c,f⟩
 all_goals exfalso;revert b;rw[e]
 ·cases a<;>decide
 ·rcases xL B with h|h|h<;>rw[h]<;>decide
 ·decide
 decide
def sh_many{all:Bool}(h:TSh K t w tv av bv tag oct n)(b:w=vV all):∃l xs,t=.many all l/\RR K l xs []/\Ksl (cC 340) K tv xs:=by
 rcases h with ⟨d,_,e⟩|⟨_,_,_,e,_⟩|⟨a,l,xs,e,O,c,f⟩|⟨B,_,_,_,e,_⟩|⟨_,_,e,_⟩|⟨_,e⟩
 ·exfalso;revert b;rw[e];cases d<;>cases all<;>decide
 ·exfalso;revert b;rw[e];cases all<;>decide
 ·have:a=all:=by revert b;rw[O];cases all<;>cases a<;>decide
  subst this;exact⟨l,xs,e,c,f⟩
 all_goals exfalso;revert b;rw[e]
 ·rcases xL B with h|h|h<;>rw[h]<;>cases all<;>decide
 ·cases all<;>decide
 cases all<;>decide
def sh_mat(h:TSh K t w tv av bv tag oct n)(a:w=gK\/w=dK\/w=gL):∃op x y,t=.mat tag oct op x y/\w=matW op/\Ksl (aZ 9) K av x/\Ksl (aZ 9) K bv y:=by
 rcases h with ⟨d,_,e⟩|⟨_,_,_,e,_⟩|⟨b,_,_,_,e,_⟩|⟨op,x,y,e,c⟩|⟨_,_,e,_⟩|⟨_,e⟩
 ·exfalso;revert a;rw[e];cases d<;>decide
 ·exact gEB
 ·exfalso;revert a;rw[e];cases b<;>decide
 ·exact⟨op,x,y,e,c⟩
 ·exact gEB
 exact gEB
def sh_exi(h:TSh K t w tv av bv tag oct n)(a:w=kJ):∃x,t=.exi x/\Ksl (aZ 9) K av x/\lT av:=by
 rcases h with ⟨d,_,e⟩|⟨_,_,_,e,_⟩|⟨b,_,_,_,e,_⟩|⟨B,_,_,_,e,_⟩|⟨x,e,_,c⟩|⟨_,e⟩
 ·exfalso;revert a;rw[e];cases d<;>decide
 ·exact gEB
 ·exfalso;revert a;rw[e];cases b<;>decide
 ·exfalso;revert a;rw[e];rcases xL B with h|h|h<;>rw[h]<;>decide
 ·exact⟨x,e,c⟩
 exact gEB
def sh_siz(h:TSh K t w tv av bv tag oct n)(a:w=mW):t=.siz tag n:=by
 rcases h with ⟨d,_,e⟩|⟨_,_,_,e,_⟩|⟨b,_,_,_,e,_⟩|⟨B,_,_,_,e,_⟩|⟨_,_,e,_⟩|⟨e,_⟩
 ·exfalso;revert a;rw[e];cases d<;>decide
 ·exact gEB
 ·exfalso;revert a;rw[e];cases b<;>decide
 ·exfalso;revert a;rw[e];rcases xL B with h|h|h<;>rw[h]<;>decide
 ·exact gEB
 exact e
end
end Go.Say
end
section
namespace Go.Proofs
open Go Go.SL Go.Syn Go.Mach Tryz
def We(x:aP):dT [fR,gD,fZ] x=if x=fR then 0 else if x=gD then 1 else if x=fZ then 2 else -1:=by
 unfold dT;rw[List.findIdx?_cons,List.findIdx?_cons,List.findIdx?_cons]
 by_cases h:x=fR
 ·simp[h]
 by_cases b:x=gD
 ·simp[b,gD,fR]
 by_cases l:x=fZ
 ·simp[l,gD,fR,fZ]
 simp[h,b,l]
def Lw(x:List UInt8)(K:Hl):Sp x3 318 [str x] K [] (Val (i64 (1+dT [fR,gD,fZ] x)) K):=by
 refine bL func318 Y ntmps318 Y Y fun F w=>?_;rw[We];refine ZI ?_;refine aX 4 Y (fun z=>Z9 ?_) (fun z=>Z6 ?_)
 ·refine⟨?_,Y,Y⟩
  first|(rw[x7 (show x=fR from z)];rfl)|(rw[x6 (show ¬x=fR from z),x7 (show x=gD from G)];rfl)|(rw[x6 (show ¬x=fR from z),x6 (show ¬x=gD from G),x7 (show x=fZ from e)];rfl)|(rw[x6 (show ¬x=fR from z),x6 (show ¬x=gD from G),x6 (show ¬x=fZ from e)];rfl)
 refine aX 6 Y (fun G=>Z9 ?_) (fun G=>Z6 ?_)
 ·refine⟨?_,Y,Y⟩
  first|(rw[x7 (show x=fR from z)];rfl)|(rw[x6 (show ¬x=fR from z),x7 (show x=gD from G)];rfl)|(rw[x6 (show ¬x=fR from z),x6 (show ¬x=gD from G),x7 (show x=fZ from e)];rfl)|(rw[x6 (show ¬x=fR from z),x6 (show ¬x=gD from G),x6 (show ¬x=fZ from e)];rfl)
 refine aX 8 Y (fun e=>Z9 ?_) (fun e=>ZA ?_)
 ·refine⟨?_,Y,Y⟩
  first|(rw[x7 (show x=fR from z)];rfl)|(rw[x6 (show ¬x=fR from z),x7 (show x=gD from G)];rfl)|(rw[x6 (show ¬x=fR from z),x6 (show ¬x=gD from G),x7 (show x=fZ from e)];rfl)|(rw[x6 (show ¬x=fR from z),x6 (show ¬x=gD from G),x6 (show ¬x=fZ from e)];rfl)
 refine⟨?_,Y,Y⟩
 first|(rw[x7 (show x=fR from z)];rfl)|(rw[x6 (show ¬x=fR from z),x7 (show x=gD from G)];rfl)|(rw[x6 (show ¬x=fR from z),x6 (show ¬x=gD from G),x7 (show x=fZ from e)];rfl)|(rw[x6 (show ¬x=fR from z),x6 (show ¬x=gD from G),x6 (show ¬x=fZ from e)];rfl)
abbrev rdb(r tb:Nat)(nv:Value):Asn:=pt r (bK [ptr tb,nv] 326)
def uS(b tb:Nat)(s:List UInt8)(nv:Value)(needs:List (List UInt8))(x:List UInt8)(r:Res St)(i:ROk s r)(d:s.length<=1000000)(K:Hl)(hv:Ksl (aZ 9) K nv needs)(u:needs.length<=10000000):
  Sp x3 317 [ptr b,str x] K [rdb b tb nv,rtx tb s r] (Ret fun v c L'=>v=.tuple #[]/\c=K/\L'=[rdb b tb nv,rtx tb s (if x∈needs then r else rf (6,rW s r) r)]):=by
 refine bL func317 Y ntmps317 Y Y fun F w=>Z7 ?_;refine bA Y Y (pX nv x needs _ [] (.known hv) aH) .nil Y (aCL (Z6 ?_));refine aA gAB Y (Z2 ?_)
 first|refine aX 12 Y (fun a=>?_) (fun a=>?_)|refine dZ 12 Y (fun a=>?_) (fun a=>?_)
 ·refine cN [12] [12] mixed gAD (cM _) (ZC ?_);refine eR Y (.none Y) Y Y Y (mH tb s r 6 (rW s r) i d _) bQ Y ?_;refine aCL (cI (uAn ?_));refine Z1 ?_;rw[x6 a];exact gDF
 refine Z2 ?_;rw[x7 (xBH.1 a)];exact gDF
def lL(a tb:Nat)(s:List UInt8)(nv:Value)(r:Res St)(c:UInt8)(i:ROk s r)(b:s.length<=1000000)(K:Hl):
  Sp x3 205 [ptr a,.int .u8 c.toNat] K [rdb a tb nv,rtx tb s r] (Ret fun v d L'=>v=.tuple #[]/\d=K/\L'=[rdb a tb nv,rtx tb s (rsig s c.toNat r)]):=by
 refine bL func205 Y ntmps205 Y Y fun F w=>ZF ?_;refine aX 13 Y (fun M=>?_) (fun M=>Z7 ?_)
 ·refine aI (cN [12] [12] mixed gAD (cM _) (ZC ?_));refine eR Y (.none Y) Y Y Y (mH tb s r 4 (rW s r) i b _) bQ Y ?_;refine aCL (Z4 ?_);refine uAn ?_;refine jJ Y (xAB _) ?_;rw[Hd aH];exact gDF
 refine bA Y Y (fY tb s r i b _) bQ Y ?_;refine aCL (aG (uAn ?_));refine Z1 ?_;rw[AB aH];exact gDF
def rB(b tb:Nat)(s:List UInt8)(nv:Value)(a:Nat)(r:Res St)(p:a<=4)(i:ROk s r)(d:s.length<=1000000)(K:Hl):
  Sp x3 283 [ptr b,i64 a] K [rdb b tb nv,rtx tb s r] (Ret fun v e L'=>v=str (rone s (ffit a) r).1/\e=K/\L'=[rdb b tb nv,rtx tb s (rone s (ffit a) r).2]):=by
 have l:=WD i;refine bL func283 Y ntmps283 Y Y fun F w=>ZF ?_;refine aCJ fun t=>cA (cQ ta322_4 Y Y Y bP gAU (.cons (.cons (.cons (.cons .nil)))) gBA) ?_;refine aCK (ZA ?_);refine aX 16 Y (fun L=>?_) (fun L=>?_)
 ·refine Z5 ?_;refine cH Y Y (Lo (rS r) a _ p aH) Y (Z9 ?_);refine aX 22 Y (fun q=>?_) (fun q=>?_)
  ·have g:rone s (ffit a) r=([],rf (ffit a (rS r),rW s r) r):=x7 ⟨aH,q⟩;refine aI (cN [7] [7] mixed gAD (cM _) (Z7 ?_));refine eR Y (.none Y) Y Y Y (mH tb s r (ffit a (rS r)) (rW s r) i d _) bQ Y ?_;refine aCL (Z9 ?_);refine uAi ?_;refine Z1 ?_;rw[g];exact gDF
  have g:rone s (ffit a) r=(rS r,rsig s 34 r):=x6 (fun h=>q h.2);exact gEW
 have g:rone s (ffit a) r=(rS r,rsig s 34 r):=x6 (fun h=>absurd h.1 aH);exact gEW
def pQ(f tb:Nat)(s:List UInt8)(nv:Value)(a:Nat)(r:Res St)(M:a<=4)(i:ROk s r)(hs:s.length<=600)(K:Hl):
  Sp x3 204 [ptr f,i64 a] K [rdb f tb nv,rtx tb s r] (Ret fun v K' L'=>∃xs E,RV (bd r fun st=>Syn.list s st (ffit a)) xs E/\ROk s E/\xs.length<=1400/\(∀x∈xs,x.length<=s.length)/\L'=[sl false (aZ 9) v xs,rdb f tb nv,rtx tb s E]):=by
 refine bL func204 Y ntmps204 Y Y fun F w=>ZJ ?_;refine aX 16 Y (fun L=>Z4 ?_) (fun L=>Z8 ?_)
 ·refine bA Y Y (rB f tb s nv a r M i aH _) bQ Y ?_;refine aCL (Z6 ?_);refine cG (bJ (z0:=[(str [])]) b0 tz9 Y Y Y Y cW) Y ?_;refine aCJ fun g=>Z5 ?_;refine d8 (gS (LG g _)) (Z1 ?_);have c:=pP (ff:=ffit a) i;exact⟨_,Y,_,_,RE i aH,c.1,cD,fun x B=>by rw[List.mem_singleton.1 B];exact c.2,Y⟩
 refine bA Y Y (fY tb s r i aH _) bQ Y ?_;refine aCL ?_;have H:=Oi (ff:=ffit a) i aH;have y:muR s (nx s r)<=1202:=(by have c:=H.2;obtain⟨st,rfl⟩:=yL (r:=r) aH;have:=vY s st;have p:muR s (.ok st)=mu s st+1:=rfl;omega);refine Z9 ?_;refine kQ (eO (aZ 9)) (l5 (fun(W:Res St) (v:Value) (b:List (List UInt8))=>ROk s W/\HInv s (ffit a) (bd r fun st=>Syn.list s st (ffit a)) W b/\b.length+muR s W<=1202/\(∀x∈b,x.length<=s.length)) (fun _ v _=>[(0,ptr f),(1,i64 a),(6,v)]) (fun _ _ _=>K) (fun W v b=>[sl false (aZ 9) v b,rdb f tb nv,rtx tb s W]) (fun W _ _=>muR s W) (nx s r) (.slice none 0 0) [] ⟨lC i,H.1,by simpa using y,cD⟩ bM Y (fun h Q=>by simpa using Tks.sat (N:=[]) (aQ cL (aQ dQ (aQ cL bT))) h Q) ?_);intro W v b ⟨G,C,S,t⟩;have c:=pP (ff:=ffit a) G;have p:=R1 G C;have u:∀x∈b++[(rone s (ffit a) W).1],x.length<=s.length:=(by intro x B;rcases xA5.1 B with h|h;exact t x h;rw[List.mem_singleton.1 h];exact c.2);refine Z5 ?_;refine bA Y Y (rB f tb s nv a W M G aH _) bQ Y ?_;refine aCL ?_
 generalize rone s (ffit a) W=q at*
 refine Z7 ?_;refine cG (bJ (z0:=[(str [])]) b0 tz9 Y Y Y Y cW) Y ?_;refine aCJ fun O=>cG (dJ (k:=(aZ 9)) (ys:=[q.1]) eE Y Y bP (fun w j=>dC xAC (SeesSl.at (.blk aL Y Y) j)) gAH gAH) Y ?_;rintro ja K _ ⟨rfl,rfl,I⟩ -;refine ZG ?_;refine bV 43 Y (fun l=>?_) (fun l=>?_)
 ·have d:rK q.2≠44:=aH;refine ZL ?_;refine bA Y Y (lL f tb s nv q.2 93 c.1 aH _) bQ Y ?_;refine aCL (Z9 ?_);refine uAo ?_;refine Z1 ?_;exact⟨_,Y,_,_,RA c.1 p.1 d,qW c.1,by simp;omega,u,rfl⟩
 have d:rK q.2=44:=aH;have A:rE q.2=0:=(by obtain⟨st,e⟩:=yL (r:=q.2) aH;rw[e];rfl);refine ZJ ?_;refine aX 52 Y (fun z=>?_) (fun z=>Z7 ?_)
 ·exact absurd A bZ
 refine bA Y Y (fY tb s q.2 c.1 aH _) bQ Y ?_;refine aCL (Z2 ?_);refine aV (aQ dQ (aQ jS (aQ cL bT))) ?_;have P:=Oe c.1 p.1 aH;exact gJ (nx s q.2) _ (b++[q.1]) ⟨lC c.1,P.1,by simp;omega,u⟩ aH bM Y a7
section
variable{s w:aP}{needs:List aP}{r:Res St}
abbrev kN:Value:=.slice none 0 0
def xJ{α:Type}(k:El α)(K:Hl):Ksl k K kN []:=.inl ⟨none,0,rfl,rfl⟩
abbrev tsb(H:Nat)(w:List UInt8)(y av P:Value)(tag:Int)(oct:Bool)(n:Int):Asn:=pt H (bK [str w,y,av,P,i64 tag,.bool oct,i64 n] 411)
def nU(h:¬rE r=0):rK r=0:=by
 cases r with
 |ok a=>exact absurd Y h
 |error e=>rfl
def SJ{p:Prop}[Decidable p]{e:Int×Int}(h:ROk s r)(A:e.1≠0):ROk s (if p then r else rf e r):=by
 split
 ·exact h
 exact FA h A
def C7{ext:aP}(h:ext≠[]):reqx s needs ext r=if ext∈needs then r else rf (6,rW s r) r:=by
 unfold reqx
 by_cases b:ext∈needs
 ·rw[x7 b,x7 (.inr b)]
 rw[x6 b,x6 (by rintro(l|l);exact h l;exact b l)]
def wD:reqx s needs [] r=r:=x7 (.inl rfl)
def So(e:w=gK\/w=dK\/w=gL):mO (opW w)=ffit (if w=dK then 3 else 0):=by
 rcases e with rfl|rfl|rfl
 ·rfl
 ·rfl
 rfl
def sQ{e p:Int}(h:e≠0):ROk s (.error (e,p)):=h
def extE(w:aP):aP:=if w=dK then dK else []
def extS(w:aP):aP:=if w=gL then dS else []
def SG:reqx s needs (extW w) r=reqx s needs (extS w) (reqx s needs (extE w) r):=by
 unfold extW extS extE
 by_cases h:w=dK
 ·subst h;rw[x7 rfl,x7 rfl,x6 dD,wD]
 rw[x6 h,x6 h,wD]
def Vy(h:w=dK):reqx s needs (extE w) r=if dK∈needs then r else rf (6,rW s r) r:=by unfold extE;rw[x7 h];exact C7 dD
def Vx(h:¬w=dK):reqx s needs (extE w) r=r:=by unfold extE;rw[x6 h];exact wD
def V0(h:w=gL):reqx s needs (extS w) r=if dS∈needs then r else rf (6,rW s r) r:=by unfold extS;rw[x7 h];exact C7 dD
def Vz(h:¬w=gL):reqx s needs (extS w) r=r:=by unfold extS;rw[x6 h];exact wD
def DM(b tb H:Nat)(s:List UInt8)(nv:Value)(needs:List (List UInt8))(B:List UInt8)(r:Res St)(hw:B=gK\/B=dK\/B=gL)(hr:ROk s r)(hs:s.length<=600)(K:Hl)(hv:Ksl (aZ 9) K nv needs)(hn:needs.length<=10000000):
  Sp x3 361 [ptr b,ptr H] K [tsb H B kN kN kN 0 false 0,rdb b tb nv,rtx tb s r] (Ret fun v K' L'=>v=.tuple #[]/\∃av bv xs ys tag oct r',RV (bd r (kW s needs (opW B) (extW B))) (.mat tag oct (opW B) xs ys) r'/\ROk s r'/\Ksl (aZ 9) K' av xs/\Ksl (aZ 9) K' bv ys/\L'=[tsb H B kN av bv tag oct 0,rdb b tb nv,rtx tb s r']):=by
 refine bL func361 Y ntmps361 Y Y fun F w=>?_;refine dU (fun(_:Unit)=>True) (fun _=>[(0,ptr b),(1,ptr H)]) (fun _=>K) (fun _=>[tsb H B kN kN kN 0 false 0,rdb b tb nv,rtx tb s (reqx s needs (extE B) r)]) ?_ ?_
 ·refine Z9 ?_;refine aX 12 Y (fun g=>Z2 ?_) (fun g=>?_)
  ·refine bA Y Y (uS b tb s nv needs dK r hr aH _ hv hn) bQ Y ?_;refine aCL (aG ?_)
   (rw[Vy g];refine aV (aQ jS (aQ cL (aQ cL bT))) ?_;exact cB () trivial bM Y a7)
  refine aU ?_
  (rw[Vx g];exact cB () trivial bM Y a7)
 intro _ _;have P:=xR (needs:=needs) (ext:=extE B) hr;rw[O4,SG]
 generalize reqx s needs (extE B) r=r0 at*
 refine dU (fun(_:Unit)=>True) (fun _=>[(0,ptr b),(1,ptr H)]) (fun _=>K) (fun _=>[tsb H B kN kN kN 0 false 0,rdb b tb nv,rtx tb s (reqx s needs (extS B) r0)]) ?_ ?_
 ·refine Z9 ?_;refine aX 19 Y (fun L=>Z2 ?_) (fun L=>?_)
  ·refine bA Y Y (uS b tb s nv needs dS r0 P aH _ hv hn) bQ Y ?_;refine aCL (aG ?_)
   (rw[V0 L];refine aV (aQ jS (aQ cL (aQ cL bT))) ?_;exact cB () trivial bM Y a7)
  refine aU ?_
  (rw[Vz L];exact cB () trivial bM Y a7)
 intro _ _;have S:=xR (needs:=needs) (ext:=extS B) P
 generalize reqx s needs (extS B) r0=r1 at*
 refine Z6 ?_;refine bA Y Y (fY tb s r1 S aH _) bQ Y ?_;refine aCL ?_;have W:=lC S
 generalize nx s r1=r2 at*
 refine Z9 ?_;refine jC (fun(q:Res St) (h:How)=>ROk s q/\TInv s (Jy s r2) q h/\0<=h.tag/\h.tag<=3) (fun q h=>[(0,ptr b),(1,ptr H),(4,.bool h.cmp)]) (fun _ _=>K) (fun q h=>[tsb H B kN kN kN h.tag h.oct 0,rdb b tb nv,rtx tb s q]) (fun q _=>muR s q) r2 ⟨false,0,false⟩ ⟨W,PM s r2,by decide,by decide⟩ bM Y (fun h hh=>by simpa using Tks.sat (N:=[]) (aQ dQ (aQ dQ (aQ cL bT))) h hh) ?_;intro q h ⟨G,C,jc,jd⟩;refine aI ?_;refine dU (fun(_:Unit)=>True) (fun _=>[(0,ptr b),(1,ptr H),(4,.bool h.cmp),(45,.bool (decide (rK q=58)))]) (fun _=>K) (fun _=>[tsb H B kN kN kN h.tag h.oct 0,rdb b tb nv,rtx tb s q]) ?_ ?_
 ·refine ZA ?_;refine bV 35 Y (fun Q=>ZK ?_) (fun Q=>ZB ?_)
  ·exact gGH
  exact gGH
 intro _ _;refine dZ 45 Y (fun M=>?_) (fun M=>?_)
 ·have a:rK q=58:=by simpa using M
  have c:=TC (rS q);refine Z8 ?_;refine dU (fun(k:Int)=>dT eQ (rS q)=k-1/\1<=k/\k<=3) (fun k=>[(0,ptr b),(1,ptr H),(4,.bool h.cmp),(5,i64 k)]) (fun _=>K) (fun _=>[tsb H B kN kN kN h.tag h.oct 0,rdb b tb nv,rtx tb s q]) ?_ ?_
  ·refine ZJ ?_;refine aX 67 Y (fun i=>?_) (fun i=>?_)
   ·rw[x7 (show rS q=txIs from i)]at c;refine Z4 ?_
    first|exact cB 1 ⟨aH,by decide,by decide⟩ bM Y a7|exact cB 2 ⟨aH,by decide,by decide⟩ bM Y a7|exact cB 3 ⟨aH,by decide,by decide⟩ bM Y a7
   rw[x6 (show ¬rS q=txIs from i)]at c;refine Z6 ?_;refine aX 69 Y (fun j=>?_) (fun j=>?_)
   ·rw[x7 (show rS q=pH from j)]at c;refine Z4 ?_
    first|exact cB 1 ⟨aH,by decide,by decide⟩ bM Y a7|exact cB 2 ⟨aH,by decide,by decide⟩ bM Y a7|exact cB 3 ⟨aH,by decide,by decide⟩ bM Y a7
   rw[x6 (show ¬rS q=pH from j)]at c;refine Z6 ?_;refine aX 71 Y (fun z=>?_) (fun z=>?_)
   ·rw[x7 (show rS q=rJ from z)]at c;refine Z4 ?_
    first|exact cB 1 ⟨aH,by decide,by decide⟩ bM Y a7|exact cB 2 ⟨aH,by decide,by decide⟩ bM Y a7|exact cB 3 ⟨aH,by decide,by decide⟩ bM Y a7
   rw[x6 (show ¬rS q=rJ from z)]at c;refine Z6 ?_;refine aX 73 Y (fun y=>?_) (fun y=>?_)
   ·rw[x7 (show rS q=nE from y)]at c;have I:=c;refine Z6 ?_;refine dZ 75 Y (fun l=>?_) (fun l=>ZD ?_)
    ·have f:=Ep G C a aH (.inl ⟨I,l⟩);refine aI (cN [12] [12] mixed gAD (cM _) (ZC ?_));refine eR Y (.none Y) Y Y Y (mH tb s q 7 (rW s q) G aH _) bQ Y ?_;refine aCL (ZA ?_);exact gD4
    refine bA Y Y (fY tb s q G aH _) bQ Y ?_;refine aCL (Z5 ?_);refine bA Y Y (rB b tb s nv 2 (nx s q) dD (lC G) aH _) bQ Y ?_;refine aCL ?_;rw[show ffit 2=oneOf 7 [dH,cU]from rfl];refine ZH ?_
    (have A:=TO G C a I l;refine aV (aQ jS (aQ cL (aQ cL bT))) ?_;exact d9 _ ⟨true,h.tag,_⟩ ⟨(pP (lC G)).1,A.1,jc,jd⟩ A.2 bM Y a7)
   rw[x6 (show ¬rS q=nE from y)]at c;have f:=TN G C a c;refine aI (cN [12] [12] mixed gAD (cM _) (ZC ?_));refine eR Y (.none Y) Y Y Y (mH tb s q 4 (rW s q) G aH _) bQ Y ?_;refine aCL (Z9 ?_);exact gD4
  intro k ⟨jp,t,jq⟩;refine ZA ?_;refine aX 105 Y (fun p=>?_) (fun p=>?_)
  ·have f:=Ep G C a aH (.inr ⟨aH,p⟩);refine aI (cN [12] [12] mixed gAD (cM _) (ZC ?_));refine eR Y (.none Y) Y Y Y (mH tb s q 7 (rW s q) G aH _) bQ Y ?_;refine aCL (Z8 ?_);exact gD4
  have jt:h.tag=0:=aH;refine ZG ?_;refine bA Y Y (fY tb s q G aH _) bQ Y ?_;refine aCL (Z2 ?_)
  (have A:=TQ G C a aH aH aH;refine aV (aQ dQ (aQ dQ (aQ cL bT))) ?_;rw[show k=1+dT eQ (rS q)from aH];exact d9 (nx s q) ⟨h.cmp,1+dT eQ (rS q),h.oct⟩ ⟨lC G,A.1,by simp only;omega,by simp only;omega⟩ A.2 bM Y a7)
 have a:rK q≠58:=by simpa using M
 have hT:=TP G C a;refine Z5 ?_;refine dU (fun(_:Unit)=>True) (fun _=>[(0,ptr b),(1,ptr H)]) (fun _=>K) (fun _=>[tsb H B kN kN kN (if 1>h.tag then 1 else h.tag) h.oct 0,rdb b tb nv,rtx tb s q]) ?_ ?_
 ·refine Z9 ?_;refine aX 132 Y (fun u=>?_) (fun u=>?_)
  ·refine Z6 ?_
   first|(rw[x7 (show 1>h.tag by omega)];exact cB () trivial bM Y a7)|(rw[x6 (show ¬1>h.tag by omega)];exact cB () trivial bM Y a7)
  refine aU ?_
  first|(rw[x7 (show 1>h.tag by omega)];exact cB () trivial bM Y a7)|(rw[x6 (show ¬1>h.tag by omega)];exact cB () trivial bM Y a7)
 intro _ _;refine Z5 ?_;refine dU (fun(_:Unit)=>True) (fun _=>[(0,ptr b),(1,ptr H),(7,i64 ((if B=dK then 3 else 0:Nat):Int))]) (fun _=>K) (fun _=>[tsb H B kN kN kN (if 1>h.tag then 1 else h.tag) h.oct 0,rdb b tb nv,rtx tb s q]) ?_ ?_
 ·refine Z9 ?_;refine aX 140 Y (fun d=>?_) (fun d=>?_)
  ·refine Z3 ?_
   first|exact cB () trivial (.cons 0 Y (.cons 1 Y (.cons 7 (by rw[x7 (show B=dK from d)];rfl) .nil))) Y a7|exact cB () trivial (.cons 0 Y (.cons 1 Y (.cons 7 (by rw[x6 (show ¬B=dK from d)];rfl) .nil))) Y a7
  refine aU ?_
  first|exact cB () trivial (.cons 0 Y (.cons 1 Y (.cons 7 (by rw[x7 (show B=dK from d)];rfl) .nil))) Y a7|exact cB () trivial (.cons 0 Y (.cons 1 Y (.cons 7 (by rw[x6 (show ¬B=dK from d)];rfl) .nil))) Y a7
 intro _ _;refine Z5 ?_;refine bA Y Y (pQ b tb s nv (if B=dK then 3 else 0) q (by split<;>decide) G hs _) bQ Y ?_;rintro va K1 _ ⟨xs,r4,jg,je,ju,jk,rfl⟩ ji;refine fS fun K2 jj t=>?_;have jr:=t.one;refine Z8 ?_;refine bA Y Y (pQ b tb s nv 0 r4 dD je hs _) bQ Y ?_;rintro vb K3 _ ⟨ys,r5,jh,jf,jv,jl,rfl⟩ ja;refine fS fun K4 jb O=>?_;have js:=O.one;have e:=x5 ji (x5 jj (x5 ja jb));have E:RV (lV s (opW B) (Jy s r2)) _ _:=I2 hT (by rw[So hw];exact jg) jh;refine Z4 ?_;refine uAo ?_;refine dG Y gCL ?_;exact⟨_,Y,Y,va,vb,xs,ys,_,_,r5,E,jf,t.mono (x5 ja jb),O,Y⟩
end
section
variable{x:Bool}{v:Cell}{K:Hl}{us:List Cell}{b:Nat}{p q:Prop}{r r2:Res St}{F:St->Res (Tree×St)}{t:Tree}{tv:Value}
set_option maxRecDepth 100000 in
def aA9:fN x3 411=some ([(str []),.slice none 0 0,.slice none 0 0,.slice none 0 0,.int .i64 0,.bool false,.int .i64 0],[(0,1),(1,1),(2,1),(3,1),(4,1),(5,1),(6,1)]):=cV
set_option maxRecDepth 100000 in
def yS:elOk x3 334 340 1 8=true:=cV
set_option maxRecDepth 100000 in
def iC:iK x3 334 340 1=true:=cV
def XO(h:¬rE r=0):∃e,r=.error e:=by
 cases r with
 |ok st=>exact absurd Y h
 |error e=>exact⟨e,Y⟩
def bo1[Decidable p](h:p):some (Value.bool true)=some (.bool (decide p||x)):=by rw[xAO h];rfl
def bo2[Decidable p]{y:Bool}(h:¬p)(e:some (Value.bool y)=some (.bool x)):some (Value.bool y)=some (.bool (decide p||x)):=by rw[xAQ h];exact e
def W9[Decidable p][Decidable q](h:(decide p||decide q)=false):¬p/\¬q:=by simpa using h
def Lc{r:Prop}[Decidable p][Decidable q][Decidable r](h:(decide p||(decide q||decide r))=false):¬p/\¬q/\¬r:=by simpa using h
theorem C8{st:St}(h:st.2.kind=1):rS (.ok st)=st.2.s:=by show rs st.2=_;unfold rs;rw[x6 aH]
def D4(s:aP)(r:Res St):muR s r<=s.length*2+2:=by
 cases r with
 |ok st=>have:=vY s st;show mu s st+1<=_;omega
 |error e=>exact xAA _
section
variable{s:aP}{needs:List aP}{n:Nat}{st:St}
def SZ{e:Int×Int}(h:F st=.error e)(i:r=.error e):RV (bd (.ok st) F) t r:=by subst i;show RV (F st) t _;rw[h];rfl
def FD{G:St->Res (Tree×St)}(h:F st=G st)(i:RV (bd (.ok st) G) t r):RV (bd (.ok st) F) t r:=by show RV (F st) t r;rw[h];exact i
def LO(j:st.2.kind=1)(e:rS (.ok st)=st.2.s)(h:(decide (rS (.ok st)=jO)||decide (rS (.ok st)=gO))=true):∃c,rS (.ok st)=(if c=true then jO else gO)/\test s needs (n+1) st=mL s c st:=by
 rw[e]at h ⊢;simp only[Bool.or_eq_true,decide_eq_true_eq]at h;rcases h with h|h
 ·exact⟨true,h,PX j h⟩
 exact⟨false,h,LP j h⟩
def LQ(j:st.2.kind=1)(e:rS (.ok st)=st.2.s)(h:(decide (rS (.ok st)=lE)||decide (rS (.ok st)=lF))=true):∃all,rS (.ok st)=vV all/\test s needs (n+1) st=oE s (test s needs n) all st:=by
 rw[e]at h ⊢;simp only[Bool.or_eq_true,decide_eq_true_eq]at h;rcases h with h|h
 ·exact⟨true,h,FV j h⟩
 exact⟨false,h,FV (all:=false) j h⟩
def PU(j:st.2.kind=1)(e:rS (.ok st)=st.2.s)(h:(decide (rS (.ok st)=gK)||(decide (rS (.ok st)=dK)||decide (rS (.ok st)=gL)))=true):(rS (.ok st)=gK\/rS (.ok st)=dK\/rS (.ok st)=gL)/\test s needs (n+1) st=kW s needs (opW (rS (.ok st))) (extW (rS (.ok st))) st:=by
 simp only[Bool.or_eq_true,decide_eq_true_eq]at h;exact⟨h,by rw[e]at h ⊢;exact TK j h⟩
def Vf{w:aP}(h:w=gK\/w=dK\/w=gL):matW (opW w)=w:=by rcases h with rfl|rfl|rfl<;>rfl
def J3(j:st.2.kind=1)(e:rS (.ok st)=st.2.s)(h:¬rS (.ok st)=jO/\¬rS (.ok st)=gO)(b:¬rS (.ok st)=qF)(l:¬rS (.ok st)=lE/\¬rS (.ok st)=lF)(z:¬rS (.ok st)=gK/\¬rS (.ok st)=dK/\¬rS (.ok st)=gL)(F:¬rS (.ok st)=kJ)(G:¬rS (.ok st)=mW):test s needs (n+1) st=.error (4,st.2.at_):=by
 rw[e]at*;exact LR j h.1 h.2 b l.1 l.2 z.1 z.2.1 z.2.2 F G
def Yc(h:RX K r t [v] [])(a:Ksl (cC 340) K tv [v])(j:K b=some (tsO qF tv nilS nilS 0 false 0)):RX K r (.not_ t) [pcl b] []:=by
 cases r with
 |ok q=>exact⟨Y,b,v,tv,Y,h,a,j⟩
 |error e=>trivial
def VC{W:Hl}{all:Bool}(a:Ksl (cC 340) W tv us)(h:RX K r t us [])(le:W.le K)(j:K b=some (tsO (vV all) tv nilS nilS 0 false 0)):RX K (rsig s 41 r) (.many all t) [pcl b] []:=by
 cases r with
 |ok q=>exact wF ⟨Y,b,us,tv,Y,h,a.mono le,j⟩
 |error e=>rw[kI dD];trivial
def VD{r3:Res St}{n:Int}(l:r3=if (ovr r2||und r2)=true then r2 else rf (4,rW s r2) r2)(j:K b=some (tsO mW nilS nilS nilS (if ovr r2=true then 1 else if und r2=true then 2 else 0) false n)):RX K (rsig s 48 (nx s r3)) (.siz (if ovr r2=true then 1 else 2) n) [pcl b] []:=by
 by_cases d:(ovr r2||und r2)=true
 ·refine wF ⟨Y,b,Y,?_⟩
  rw[j];cases q:ovr r2 with
  |true=>rfl
  |false=>rw[q]at d;rw[show und r2=true from d];rfl
 rw[x6 d]at l;subst l;have:∃e,nx s (rf (4,rW s r2) r2)=.error e:=by cases r2<;>exact⟨_,Y⟩
 obtain⟨e,A⟩:=this;rw[A,kI dD];trivial
def WG{ws:List Cell}(h:RX K r t us ws):RX K (nx s r) t us ws:=by
 cases r with
 |ok q=>exact wF h
 |error e=>trivial
def Jl{t:Tree}:∀ {l:Tree},isTL l=true->isTL (l.snocT t)=true
 | .tnil,_=>rfl
 | .tcons x l,h=>Jl (l:=l) h
def Td{acc:Tree}(hv:RV (bd r F) t r2)(a:isTL acc=true)(h:RX K r acc us [])(b:RX K r2 t [v] []):RX K r2 (acc.snocT t) (us++[v]) []:=by
 cases r2 with
 |error e=>trivial
 |ok q=>
  cases r with
  |error e=>cases (show Except.error e=.ok q from (by have l:Except.ok q=.error e:=hv;exact l.symm))
  |ok st=>exact(SR b a h).1
end
def RTe(r tb:Nat)(s:aP)(nv:Value)(x:Res (Tree×St)):Ending->Hl->List Asn->Prop:=Ret fun v K g=>∃b t j,v=ptr b/\RV x t j/\ROk s j/\RX K j t [pcl b] []/\g=[rdb r tb nv,rtx tb s j]
def oO{a tb:Nat}{s:aP}{nv:Value}{x:Res (Tree×St)}(hv:RV x t r)(q:ROk s r)(c:RX K r t [pcl b] []):RTe a tb s nv x (.returned (ptr b)) K [rdb a tb nv,rtx tb s r]:=⟨_,rfl,b,t,r,rfl,hv,q,c,rfl⟩
def DQ(b tb:Nat)(s:aP)(nv:Value)(needs:List aP)(hs:s.length<=600)(hn:needs.length<=10000000)(n:Nat)(jl:n<=7)(K:Hl)(hv:Ksl (aZ 9) K nv needs)(d:Int)(hd:d=7-(n:Int))(r:Res St)(i:ROk s r)
  (ih:∀m,n=m+1->∀K',K.le K'->∀(d:Int) (r:Res St),d=7-(m:Int)->ROk s r->Sp x3 344 [ptr b,i64 d] K' [rdb b tb nv,rtx tb s r] (RTe b tb s nv (bd r (test s needs m)))):
  Sp x3 344 [ptr b,i64 d] K [rdb b tb nv,rtx tb s r] (RTe b tb s nv (bd r (test s needs n))):=by
 refine bL func344 Y ntmps344 Y Y fun F w=>ZF ?_;refine aA (dA aA9 tb411f cW) Y (Z1 ?_);refine aCJ fun E=>ZG ?_;refine aX 25 Y (fun jj=>?_) (fun jj=>?_)
 ·obtain⟨e,rfl⟩:=XO jj;refine Z8 ?_;refine fC fun S a y=>bG Y Y a ?_;exact oO (t:=.const true) Y i trivial
 obtain⟨st,rfl⟩:=WC i aH;refine ZG ?_;refine aX 35 Y (fun jt=>?_) (fun jt=>?_)
 ·have l:=PT (s:=s) (needs:=needs) (n:=n) (st:=st) (fun h=>absurd ((pO i.2).2 h) (show ¬rK (.ok st)=119 by omega));refine aI (cN [12] [12] mixed gAD (cM _) (ZC ?_));exact gFX
 have hk:st.2.kind=1:=(pO i.2).1 (show rK (.ok st)=119 by omega);have q:rS (.ok st)=st.2.s:=C8 hk;refine Z9 ?_;refine aX 51 Y (fun ju=>?_) (fun ju=>?_)
 ·obtain rfl:n=0:=aH;have l:=PR (s:=s) (needs:=needs) hk;refine aI (cN [12] [12] mixed gAD (cM _) (ZC ?_));refine eR Y (.none Y) Y Y Y (mH tb s (.ok st) 5 (rW s (.ok st)) i aH _) bQ Y ?_;exact gD0
 obtain⟨m,rfl⟩:∃m,n=m+1:=⟨n-1,aH⟩;have jr:=ih m rfl;clear ih;have hA:=mT (s:=s) (needs:=needs) m;refine ZC ?_;refine dU (fun(_:Unit)=>True) (fun _=>[(0,ptr b),(1,i64 d),(5,ptr E),(69,str (rS (.ok st))),(83,.bool (decide (rS (.ok st)=jO)||decide (rS (.ok st)=gO)))]) (fun _=>K) (fun _=>[tsb E (rS (.ok st)) nilS nilS nilS 0 false 0,rdb b tb nv,rtx tb s (.ok st)]) ?_ ?_
 ·refine Z6 ?_;refine aX 83 Y (fun L=>?_) (fun L=>Z4 ?_)
  ·refine aU ?_;exact gFU
  exact gFU
 intro _ _;refine dZ 83 Y (fun L=>?_) (fun L=>?_)
 ·obtain⟨c,p,l⟩:=LO (s:=s) (needs:=needs) (n:=m) hk q L;refine Z5 ?_;refine bA Y Y (fY tb s (.ok st) i aH _) bQ Y ?_;refine aCL ?_;have ho:=lC i;refine ZA ?_;refine uAm ?_;refine fC fun S a y=>bG Y Y a ?_;exact oO (t:=.const c) (FD l SY) ho (wF ⟨Y,E,Y,by rw[<-p];exact y⟩)
 have h1:=W9 L;refine Z6 ?_;refine aX 91 Y (fun jd=>?_) (fun jd=>?_)
 ·have p:rS (.ok st)=qF:=jd;have l:=TL (s:=s) (needs:=needs) (n:=m) hk (q▸p);refine Z6 ?_;refine bA Y Y (fY tb s (.ok st) i aH _) bQ Y ?_;refine aCL ?_;have Q:=lC i;refine Z7 ?_;refine bA Y Y (jr _ (xAB _) _ _ aH Q) bQ Y ?_;rintro _ K1 _ ⟨bt,t,r1,rfl,W,G,jq,rfl⟩ I;refine Z6 ?_;refine cG (bJ (z0:=[.pointer none]) iC tz340 Y Y Y Y cW) Y ?_;refine aCJ fun jg=>ZD ?_;refine fC fun K7 B hS=>uAo ?_;refine fC fun S a y=>bG Y Y (x5 I (x5 B a)) ?_;exact oO (FD l (XX W)) G (Yc (jq.mono (x5 B a)) (.inr ⟨jg,0,1,[ptr bt],(0,0),Y,⟨_,a _ _ hS⟩,Y⟩) (by rw[<-p];exact y))
 refine dU (fun(_:Unit)=>True) (fun _=>[(0,ptr b),(1,i64 d),(5,ptr E),(69,str (rS (.ok st))),(107,.bool (decide (rS (.ok st)=lE)||decide (rS (.ok st)=lF)))]) (fun _=>K) (fun _=>[tsb E (rS (.ok st)) nilS nilS nilS 0 false 0,rdb b tb nv,rtx tb s (.ok st)]) ?_ ?_
 ·refine Z6 ?_;refine aX 107 Y (fun f=>?_) (fun f=>Z4 ?_)
  ·refine aU ?_;exact gFS
  exact gFS
 intro _ _;refine dZ 107 Y (fun f=>?_) (fun f=>?_)
 ·obtain⟨jc,p,l⟩:=LQ (s:=s) (needs:=needs) (n:=m) hk q f;refine Z6 ?_;refine bA Y Y (fY tb s (.ok st) i aH _) bQ Y ?_;refine aCL ?_;have Q:=lC i;refine Z5 ?_;refine bA Y Y (lL b tb s nv (nx s (.ok st)) 40 Q aH _) bQ Y ?_;refine aCL ?_;have hN:=KZ (T:=test s needs m) (all:=jc) i;have ja:=qW (c:=40) Q;rw[show (40:UInt8).toNat=40 from rfl]
  generalize rsig s 40 (nx s (.ok st))=M at*
  refine Z4 ?_;refine m8 (fun(K3:Hl) (r4:Res St) (au:Tree×List Cell) (tv:Value)=>K.le K3/\ROk s r4/\NInv s (test s needs m) jc (bd (.ok st) (oE s (test s needs m) jc)) r4 au.1/\RX K3 r4 au.1 au.2 []/\isTL au.1=true/\au.2.length+muR s r4<=2000) (fun _ _ _ _=>[(0,ptr b),(1,i64 d),(5,ptr E)]) (fun K3 _ _ _=>K3) (fun _ r4 au tv=>[sl false (cC 340) tv au.2,tsb E (rS (.ok st)) tv nilS nilS 0 false 0,rdb b tb nv,rtx tb s r4]) (fun _ r4 _ _=>muR s r4) K M (.tnil,[]) nilS ⟨xAB _,ja,hN,wF ⟨Y,Y⟩,Y,by have:=D4 s M;simp;omega⟩ bM Y (fun h hh=>eO (cC 340) _ (by simpa using Tks.sat (N:=[]) (aQ jS (aQ cL (aQ cL bT))) h hh)) ?_;intro K3 r4 ⟨js,us⟩ tv ⟨jf,H,hN4,hX4,hL4,jx⟩;simp only at hN4 hX4 hL4 jx;refine Z6 ?_;refine bA Y Y (jr _ jf _ _ aH H) bQ Y ?_;rintro _ K5 _ ⟨bt,t,r5,rfl,jp,z,qb,rfl⟩ je;have hM:=OI hA H hN4 jp;have hX5:=Td jp hL4 (hX4.mono je) qb;have hL5:=Jl (t:=t) hL4;refine ZB ?_;refine cG (bJ (z0:=[.pointer none]) iC tz340 Y Y Y Y cW) Y ?_;refine aCJ fun qc=>cG (dJ (k:=(cC 340)) (ys:=[pcl bt]) yS Y Y (.there (.there (.there .here))) (fun w j=>dC xBO (SeesSl.at (.blk aL Y Y) j)) gAG gAH) Y ?_;rintro jb K _ ⟨rfl,rfl,jy⟩ -;refine Z6 ?_;refine dU (fun(_:Unit)=>True) (fun _=>[(0,ptr b),(1,i64 d),(5,ptr E),(149,.bool (decide (¬rK r5=44)))]) (fun _=>K) (fun _=>[sl false (cC 340) jb (us++[pcl bt]),tsb E (rS (.ok st)) jb nilS nilS 0 false 0,rdb b tb nv,rtx tb s r5]) ?_ ?_
  ·refine ZA ?_;refine bV 139 Y (fun u=>ZB ?_) (fun u=>ZK ?_)
   ·exact gET
   exact gET
  intro _ _;refine aX 149 Y (fun g=>Z8 ?_) (fun g=>?_)
  ·refine bA Y Y (lL b tb s nv r5 41 z aH _) bQ Y ?_;refine aCL (ZA ?_);refine aV (aQ jS (aQ jS (aQ cL (aQ cL bT)))) (iX fun K7 B hS=>fC fun S a y=>bG Y Y (x5 (x5 jf je) (x5 B a)) ?_);exact oO (FD l (RL z hM.1 g)) (qW z) (VC hS (hX5.mono (x5 B a)) a (by rw[<-p];exact y))
  have g:rK r5=44:=xBH.1 g;refine Z7 ?_;refine bA Y Y (fY tb s r5 z aH _) bQ Y ?_;refine aCL (Z2 ?_);have jl:=O8 z hM.1 g hA;refine aV (aQ dQ (aQ dQ (aQ dQ (aQ cL bT)))) ?_;refine jQ K (nx s r5) (js.snocT t,us++[pcl bt]) _ ⟨x5 jf je,lC z,jl.1,WG hX5,hL5,by simp only[List.length_append,List.length_singleton];omega⟩ aH bM Y a7
 have h3:=W9 f;refine dU (fun(_:Unit)=>True) (fun _=>[(0,ptr b),(1,i64 d),(5,ptr E),(69,str (rS (.ok st))),(157,.bool (decide (rS (.ok st)=gK)||(decide (rS (.ok st)=dK)||decide (rS (.ok st)=gL))))]) (fun _=>K) (fun _=>[tsb E (rS (.ok st)) nilS nilS nilS 0 false 0,rdb b tb nv,rtx tb s (.ok st)]) ?_ ?_
 ·refine Z6 ?_;refine aX 157 Y (fun A=>?_) (fun A=>Z6 ?_)
  ·refine aU ?_;exact gD6
  refine aX 157 Y (fun A=>?_) (fun A=>Z4 ?_)
  ·refine aU ?_;exact gD6
  exact gD6
 intro _ _;refine dZ 157 Y (fun A=>?_) (fun A=>?_)
 ·obtain⟨p,l⟩:=PU (s:=s) (needs:=needs) (n:=m) hk q A;refine Z3 ?_;refine bA Y Y (DM b tb E s nv needs (rS (.ok st)) (.ok st) p i hs _ hv hn) bQ Y ?_;rintro _ K1 _ ⟨rfl,av,bv,xs,ys,qg,qf,r1,W,G,jv,jw,rfl⟩ I;refine ZA ?_;refine fC fun S a y=>bG Y Y (x5 I a) ?_;exact oO (FD l W) G (wF ⟨Y,E,av,bv,Y,jv.mono a,jw.mono a,by rw[Vf p];exact y⟩)
 have h4:=Lc A;refine Z6 ?_;refine aX 164 Y (fun v=>?_) (fun v=>Z6 ?_)
 ·have p:rS (.ok st)=kJ:=v;have l:=J2 (s:=s) (needs:=needs) (n:=m) hk (q▸p);refine Z6 ?_;refine bA Y Y (fY tb s (.ok st) i aH _) bQ Y ?_;refine aCL ?_;have Q:=lC i;refine Z5 ?_;refine bA Y Y (pQ b tb s nv 0 (nx s (.ok st)) dD Q hs _) bQ Y ?_;rintro va K1 _ ⟨xs,r1,W,G,jq,qe,rfl⟩ I;refine Vn fun jk=>fS fun K7 B hS=>?_;have qd:=hS.one;refine ZD ?_;refine uAo ?_;refine fC fun S a y=>bG Y Y (x5 I (x5 B a)) ?_;exact oO (FD l (Ph W)) G (wF ⟨Y,E,va,Y,hS.mono a,jk,by rw[<-p];exact y⟩)
 refine aX 176 Y (fun O=>?_) (fun O=>?_)
 ·have p:rS (.ok st)=mW:=O;have l:=PV (s:=s) (needs:=needs) (n:=m) hk (q▸p);refine Z6 ?_;refine bA Y Y (fY tb s (.ok st) i aH _) bQ Y ?_;refine aCL ?_;have Q:=lC i;have qa:=fun M=>VB (s:=s) i (r3:=M)
  generalize nx s (.ok st)=r2 at*
  refine Lb (aQ dQ (aQ dQ (aQ cL bT))) (Z2 ?_);refine dU (fun(_:Unit)=>True) (fun _=>[(0,ptr b),(1,i64 d),(5,ptr E)]) (fun _=>K) (fun _=>[tsb E (rS (.ok st)) nilS nilS nilS (if ovr r2=true then 1 else if und r2=true then 2 else 0) false 0,rdb b tb nv,rtx tb s (if (ovr r2||und r2)=true then r2 else rf (4,rW s r2) r2)]) ?_ ?_
  ·refine bC ?_;refine dU (fun(_:Unit)=>True) (fun _=>[(0,ptr b),(1,i64 d),(5,ptr E),(196,.bool (ovr r2))]) (fun _=>K) (fun _=>[tsb E (rS (.ok st)) nilS nilS nilS 0 false 0,rdb b tb nv,rtx tb s r2]) ?_ ?_
   ·refine ZB ?_;refine bV 206 Y (fun jh=>ZL ?_) (fun jh=>ZC ?_)
    ·exact gGB
    exact gGB
   intro _ _;refine dZ 196 Y (fun P=>?_) (fun P=>?_)
   ·refine Z7 ?_
    (rw[P];exact cB () trivial bM Y a7)
   refine dU (fun(_:Unit)=>True) (fun _=>[(0,ptr b),(1,i64 d),(5,ptr E),(220,.bool (und r2))]) (fun _=>K) (fun _=>[tsb E (rS (.ok st)) nilS nilS nilS 0 false 0,rdb b tb nv,rtx tb s r2]) ?_ ?_
   ·refine ZB ?_;refine bV 230 Y (fun ji=>ZL ?_) (fun ji=>ZC ?_)
    ·exact gGA
    exact gGA
   intro _ _;refine dZ 220 Y (fun C=>?_) (fun C=>?_)
   ·refine Z7 ?_
    (rw[P,C];exact cB () trivial bM Y a7)
   refine cN [12] [12] mixed gAD (cM _) (ZC ?_);refine eR Y (.none Y) Y Y Y (mH tb s r2 4 (rW s r2) Q aH _) bQ Y ?_;refine aCL (Z2 ?_)
   (rw[P,C];refine aV (aQ dQ (aQ dQ (aQ cL bT))) ?_;exact cB () trivial bM Y a7)
  intro _ _;obtain⟨M,h3⟩:∃M,M=(if (ovr r2||und r2)=true then r2 else rf (4,rW s r2) r2):=⟨_,rfl⟩;have ja:ROk s M:=(by rw[h3];exact SJ Q (show (4:Int)≠0 by decide));rw[<-h3];have jz:=qa M h3;refine Z6 ?_;refine bA Y Y (fY tb s M ja aH _) bQ Y ?_;refine aCL ?_;have H:=lC ja;refine ZK ?_;refine bA Y Y (lL b tb s nv (nx s M) 48 H aH _) bQ Y ?_;refine aCL (ZA ?_);refine uAo ?_;refine fC fun S a y=>bG Y Y a ?_;exact oO (FD l jz) (qW H) (VD h3 (by rw[<-p];exact y))
 have l:=J3 (s:=s) (needs:=needs) (n:=m) hk q h1 jd h3 h4 v O;refine cN [12] [12] mixed gAD (cM _) (ZC ?_);exact gFX
def Lu(a tb:Nat)(s:aP)(nv:Value)(needs:List aP)(c:s.length<=600)(u:needs.length<=10000000):∀n:Nat,n<=7->∀K,Ksl (aZ 9) K nv needs->∀(d:Int) (r:Res St),d=7-(n:Int)->ROk s r->
  Sp x3 344 [ptr a,i64 d] K [rdb a tb nv,rtx tb s r] (RTe a tb s nv (bd r (test s needs n))):=by
 intro n;induction n with
 |zero=>intro B K H d r hd i;exact DQ a tb s nv needs c u 0 B K H d hd r i (fun m h=>by omega)
 |succ n w=>
  intro B K H d r hd i;refine DQ a tb s nv needs c u (n+1) B K H d hd r i ?_;intro m h b le d r hd i;obtain rfl:n=m:=aH;exact w aH b (H.mono le) d r hd i
end
end Go.Proofs
end
section
namespace Go.Syn
open Go Go.SL Go.Proofs
section
variable{W:Res (Tree×St)}{r r2:Res St}{B:St->Res (Tree×St)}{acc b t:Tree}
section
variable{s:aP}{needs:List aP}
def cmdO(s:aP)(needs:List aP):Nat->St->Option (Res (Tree×St))
 |0,st=>some (.error (5,st.2.at_))
 |n+1,st=>cmdD s needs (test s needs n) (block s needs n) st
def cmdX(s:aP)(needs:List aP)(n:Nat)(st:St):Res (Tree×St):=match cmdO s needs n st with
 |some r=>r
 |none=>.error (4,st.2.at_)
theorem Nr(n:Nat)(st:St):block s needs n st=j6 s (cmdO s needs n) (mu s st+1) .cnil st:=by
 cases n with
 |zero=>
  grind [block,j6,cmdO,mu]
 |succ n=>rfl
def QD{n:Nat}{st:St}{r:Tree×St}(f:Ok s st)(j:st.2.kind≠0)(e:cmdO s needs n st=some (.ok r)):Ok s r.2/\mu s r.2<mu s st:=by
 cases n with
 |zero=>cases e
 |succ n=>exact zZ (mT n) (q6 n) f j e
def BInv(s:aP)(C:St->Option (Res (Tree×St)))(W:Res (Tree×St))(r:Res St)(acc:Tree):Prop:=match r with
 | .ok st=>∃f,mu s st<=f/\W=j6 s C (f+1) acc st
 | .error e=>W=.error e
def JO{n:Nat}:BInv s (cmdO s needs n) (bd r (block s needs n)) r .cnil:=by
 cases r with
 |error e=>rfl
 |ok st=>exact⟨mu s st,xAG _,Nr n st⟩
def Np{n:Nat}{st:St}(a:Ok s st)(j:st.2.kind=1)(p:BInv s (cmdO s needs n) W (.ok st) acc)(h:RV (cmdX s needs n st) t r2):BInv s (cmdO s needs n) W r2 (acc.snocC t)/\muR s r2<muR s (.ok st):=by
 obtain⟨f,b,A⟩:=p;simp only[j6]at A;rw[x7 j]at A;unfold cmdX at h;cases d:cmdO s needs n st with
 |none=>rw[d]at A h;cases (show r2=.error _ from h);exact⟨A,Nat.succ_pos _⟩
 |some x=>
  rw[d]at A h;cases x with
  |error e=>cases (show r2=.error _ from h);exact⟨A,Nat.succ_pos _⟩
  |ok c=>
   obtain⟨rfl,rfl⟩:=RV.ok h;have B:=(QD a aH d).2;obtain⟨g,rfl⟩:∃g,f=g+1:=⟨f-1,aH⟩;exact⟨⟨g,aH,A⟩,by show mu s c.2+1<mu s st+1;omega⟩
theorem Q0{C:St->Option (Res (Tree×St))}(i:ROk s r)(p:BInv s C W r acc)(j:rK r≠119):RV W acc r:=by
 cases r with
 |error e=>rw[show W=.error e from p];rfl
 |ok st=>
  grind [j6,ROk,BInv,rK,RV,pO]
theorem VA(i:ROk s r)(Q:ROk s r2)(h:RV (bd (rsig s 123 r) B) t r2):RV (bd r (kU s B)) t (rsig s 125 r2):=by
 rw[JM (s:=s) (c:=123) (F:=kU s B) (G:=fun q=>match B q with| .error e=>.error e| .ok b=>match sign s b.2 [125]with| .error e=>.error e| .ok r=>.ok (b.1,r)) dD i fun st=>rfl];rw[show (123:UInt8).toNat=123 from rfl]
 generalize rsig s 123 r=q at*
 cases q with
 |error e=>cases (show r2=.error _ from h);exact kI dD
 |ok st=>
  show RV (match B st with| .error e=>_| .ok b=>match sign s b.2 [125]with| .error e=>_| .ok r=>_) t _
  have a:RV (B st) t r2:=h;cases d:B st with
  |error e=>rw[d]at a;cases (show r2=.error _ from a);exact kI dD
  |ok b=>
   rw[d]at a;obtain⟨rfl,rfl⟩:=a.ok;have:=mC (s:=s) (c:=125) dD Q;rw[show (125:UInt8).toNat=125 from rfl]at this;rw[this];show RV (match sign s b.2 [125]with| .error e=>_| .ok r=>_) _ (sign s b.2 [125]);cases sign s b.2 [125]<;>grind [RV,ROk,mC]
def FInv(s:aP)(T B:St->Res (Tree×St))(W:Res (Tree×St))(r:Res St)(acc:Tree):Prop:=match bd r T with
 | .error e=>W=.error e
 | .ok t=>match kU s B t.2 with
  | .error e=>W=.error e
  | .ok b=>∃f,mu s b.2<=f/\W=iH s T B (f+1) (acc.snocB (some t.1) b.1) b.2
def EInv(s:aP)(T B:St->Res (Tree×St))(W:Res (Tree×St))(r:Res St)(acc:Tree):Prop:=match r with
 | .ok st=>∃f,mu s st<=f/\W=iH s T B (f+1) acc st
 | .error e=>W=.error e
def KC{T:St->Res (Tree×St)}:FInv s T B (bd r (ifC s T B)) (nx s r) .bnil:=by
 rw[CT (s:=s) (F:=ifC s T B) (G:=fun q=>match T q with| .error e=>.error e| .ok t=>match kU s B t.2 with| .error e=>.error e| .ok b=>iH s T B (mu s b.2+1) (.bcons t.1 b.1 .bnil) b.2) fun st=>rfl]
 generalize nx s r=q
 unfold FInv;cases q with
 |error e=>rfl
 |ok st=>
  show match T st with| .error e=>_| .ok t=>_
  simp only[bd];cases T st with
  |error e=>rfl
  |ok t=>
   simp only[];cases kU s B t.2 with
   |error e=>rfl
   |ok b=>exact⟨_,xAG _,Y⟩
theorem NP{T:St->Res (Tree×St)}(f:Adv s T)(d:AdvE s B){r3:Res St}(i:ROk s r)(a:FInv s T B W r acc)(h:RV (bd r T) t r2)(l:RV (bd r2 (kU s B)) b r3):EInv s T B W r3 (acc.snocB (some t) b)/\muR s r3<=muR s r:=by
 unfold FInv at a;cases c:bd r T with
 |error e=>
  grind [Adv,AdvE,ROk,FInv,RV,bd,kU,EInv,muR]
 |ok p=>
  rw[c]at a h;obtain⟨rfl,rfl⟩:=h.ok;cases r with
  |error e=>cases c
  |ok st=>
   grind [RV,kU,mu,Adv,AdvE,ROk,FInv,bd,EInv,muR,mB]
def NF{T:St->Res (Tree×St)}(l:Adv s T)(j:AdvE s B)(h:ROk s r)(p:EInv s T B W r acc)(v:rK r=119)(x:rS r=oR):FInv s T B W (nx s r) acc/\muR s (nx s r)<muR s r:=by
 obtain⟨st,rfl⟩:=yL (r:=r) aH;obtain⟨f,y,A⟩:=p;have i:=(pO h.2).1 v;have w:st.2.s=oR:=by have e:rs st.2=st.2.s:=(by unfold rs;rw[x6 aH]);rw[<-e];exact x
 simp only[iH]at A;rw[x7 ⟨i,w⟩]at A
 show FInv s T B W (next s st.1) acc/\muR s (next s st.1)<_
 cases u:next s st.1 with
 |error e=>rw[u]at A;exact⟨A,Nat.succ_pos _⟩
 |ok q=>
  rw[u]at A;have C:=(j1 h.1.1 aH u).1;have z:=fU h.1.1 u;refine⟨?_,by show mu s q+1<mu s st+1;omega⟩
  simp only[]at A;unfold FInv;simp only[bd];cases d:T q with
  |error e=>rw[d]at A;exact A
  |ok t=>
   rw[d]at A;have c:=l q t z d;simp only[]at A ⊢;cases a:kU s B t.2 with
   |error e=>rw[a]at A;exact A
   |ok b=>
    rw[a]at A;have N:=(mB j t.2 b c.1 a).2;obtain⟨g,rfl⟩:∃g,f=g+1:=⟨f-1,aH⟩;exact⟨g,aH,A⟩
theorem HT{T:St->Res (Tree×St)}{st:St}(h:ROk s (.ok st))(p:EInv s T B W (.ok st) acc)(j:¬(rK (.ok st)=119/\rS (.ok st)=oR)):W=l4 s B acc st:=by
 grind [iH,rs,ROk,EInv,rK,rS,oR,l4,pO]
def ND{T:St->Res (Tree×St)}(h:ROk s r)(p:EInv s T B W r acc)(j:rK r=119)(c:rS r=qL)(g:RV (bd (nx s r) (kU s B)) b r2):RV W (.iff (acc.snocB none b)) r2:=by
 obtain⟨st,rfl⟩:=yL (r:=r) aH;have d:=(pO h.2).1 j;have i:st.2.s=qL:=by have e:rs st.2=st.2.s:=(by unfold rs;rw[x6 aH]);rw[<-e];exact c
 rw[HT h p (fun y=>by have:=y.2;rw[c]at this;cases this)];unfold l4;rw[x7 ⟨d,i⟩];have a:RV (bd (next s st.1) (kU s B)) b r2:=g;cases u:next s st.1 with
 |error e=>rw[u]at a;exact a
 |ok q=>
  rw[u]at a;exact RV.map (x:=kU s B q) (f:=fun b=>Tree.iff (acc.snocB none b)) a (fun e A=>by simp only[A]) (fun e A=>by simp only[A])
theorem Rg{T:St->Res (Tree×St)}(h:ROk s r)(p:EInv s T B W r acc)(a:¬(rK r=119/\rS r=oR))(b:¬(rK r=119/\rS r=qL)):RV W (.iff acc) r:=by
 cases r with
 |error e=>rw[show W=.error e from p];rfl
 |ok st=>
  rw[HT h p a];unfold l4;rw[x6]
  ·exact⟨Y,Y⟩
  grind [rs,ROk,EInv,rK,rS,oR,qL,RV,pO]
def simR(s:aP)(c:Tree)(r:St):Res (Tree×St):=match sign s r [59]with| .error e=>.error e| .ok q=>.ok (c,q)
def Pj{c:Tree}(i:ROk s r):RV (bd r (kT s c)) c (rsig s 59 (nx s r)):=by
 rw[CT (s:=s) (F:=kT s c) (G:=simR s c) fun st=>rfl];rw[JM (s:=s) (c:=59) (F:=simR s c) (G:=fun q=>.ok (c,q)) dD (lC i) fun st=>rfl];exact WE
def PY{r:St}:text s r (fun _=>0)=match take s r 3 []with| .error e=>.error e| .ok q=>.ok (q.1.s,q.2):=by
 unfold text;rw[x6 (fun h=>h.2 rfl)]<;>cases take s r 3 []<;>rfl
def actR(s:aP)(k p:Int)(r:St):Res (Tree×St):=match text s r (fun _=>0)with| .error e=>.error e| .ok x=>match sign s x.2 [59]with| .error e=>.error e| .ok q=>.ok (.act k x.1 p,q)
theorem XW{k p:Int}{ext:aP}(l:ROk s r)(hp:∀st,r=.ok st->True):RV (bd r (actC s needs k ext p)) (.act k (rone s (ffit 0) (nx s (reqx s needs ext r))).1 p) (rsig s 59 (rone s (ffit 0) (nx s (reqx s needs ext r))).2):=by
 have j:=xR (needs:=needs) (ext:=ext) l;have e:bd r (actC s needs k ext p)=bd (nx s (reqx s needs ext r)) (actR s k p):=by
  cases r with
  |error e=>unfold reqx;split<;>rfl
  |ok st=>
   show actC s needs k ext p st=_
   unfold actC reqx
   by_cases h:ext=[]\/ext∈needs
   ·rw[x7 h,x6 (by rintro⟨f,g⟩;rcases h with h|h;exact f h;exact g h)]
    show _=bd (next s st.1) _
    cases next s st.1 with
    |error e=>rfl
    |ok q=>
     show (match take s q 3 []with| .error e=>_| .ok x=>_)=actR s k p q
     unfold actR;rw[PY];cases take s q 3 []with
     |error e=>rfl
     |ok x=>rfl
   exact gG1
 rw[e];have u:=lC j
 generalize nx s (reqx s needs ext r)=q at*
 have H:=xS (ff:=ffit 0) u;have i:=(pP (ff:=ffit 0) u).1
 generalize (rone s (ffit 0) q).1=a at*
 generalize (rone s (ffit 0) q).2=b at*
 cases q with
 |error O=>cases (show b=.error O from H);exact kI dD
 |ok st=>
  have z:RV (text s st (fun _=>0)) a b:=H
  show RV (actR s k p st) _ _
  unfold actR;cases d:text s st (fun _=>0)with
  |error e=>rw[d]at z;cases (show b=.error e from z);exact kI dD
  |ok x=>
   rw[d]at z;obtain⟨rfl,rfl⟩:=z.ok;have:=mC (s:=s) (c:=59) dD i;rw[show (59:UInt8).toNat=59 from rfl]at this;rw[this];show RV (match sign s x.2 [59]with| .error e=>_| .ok r=>_) _ (sign s x.2 [59]);cases sign s x.2 [59]<;>grind [RV,ROk,mC]
def tagR(s:aP)(r:Res St):Res St:=if rK r=58 then nx s (if 1+dT [fR,gD,fZ] (rS r)=0 then rf (4,rW s r) r else r)else r
def tagV(r:Res St):Int:=if rK r=58 then 1+dT [fR,gD,fZ] (rS r)else 0
theorem MR(h:ROk s r):ROk s (tagR s r):=by
 grind [tagR,ROk,lC,FA]
theorem XZ(h:ROk s r):RV (bd r (lW s)) (tagV r) (tagR s r):=by
 cases r with
 |error e=>rfl
 |ok st=>
  have j:=Hb h.2
  show RV (lW s st) _ _
  unfold lW tagV tagR
  by_cases b:st.2.kind=2
  ·have c:rS (.ok st)=st.2.s:=by show rs st.2=_;unfold rs;rw[x6 aH]
   have t:rK (.ok st)=58:=j.2 b;rw[x7 b,x7 t,x7 t,c]
   by_cases a:dT [fR,gD,fZ] st.2.s= -1
   ·rw[x7 a,x7 aH];rfl
   rw[x6 a,x6 aH];show RV _ _ (next s st.1);cases next s st.1<;>grind [RV,ROk]
  grind [rK,ROk,RV,bd,lW,tagV,tagR]
theorem XY(P:ROk s r){r1:Res St}(B:r1=nx s (reqx s needs dS r)):
  RV (bd r (sR s needs)) (.set_ (dY (rone s (ffit 4) (tagR s r1)).1) (rone s (ffit 0) (rone s (ffit 4) (tagR s r1)).2).1 (tagV r1)) (rsig s 59 (rone s (ffit 0) (rone s (ffit 4) (tagR s r1)).2).2):=by
 have M:=xR (needs:=needs) (ext:=dS) P;have e:bd r (setC s needs)=bd r1 (fun q=>match lW s q with| .error e=>.error e| .ok t=>m7 s t):=by
  subst B;cases r with
  |error e=>unfold reqx;split<;>rfl
  |ok st=>
   show setC s needs st=_
   unfold setC reqx
   by_cases h:dS∈needs
   ·rw[x7 h,x7 (.inr h)]
    show _=bd (next s st.1) _
    cases next s st.1<;>rfl
   rw[x6 h,x6 (by rintro(C|C);cases C;exact h C)];rfl
 have G:ROk s r1:=B▸lC M;clear B;have W:=XZ G;have F:=MR G
 generalize tagR s r1=r2 at*
 generalize tagV r1=K at*
 have z:=xS (ff:=ffit 4) F;have l:=(pP (ff:=ffit 4) F).1
 generalize (rone s (ffit 4) r2).1=x at*
 generalize (rone s (ffit 4) r2).2=A at*
 have u:=xS (ff:=ffit 0) l;have E:=(pP (ff:=ffit 0) l).1
 generalize (rone s (ffit 0) A).1=v at*
 generalize (rone s (ffit 0) A).2=i at*
 have L:RV (bd r (setC s needs)) ⟨dY x,v,K⟩ (rsig s 59 i):=by
  rw[e];have j:∀e,A=.error e->rsig s 59 i=.error e:=fun e h=>by subst h;cases (show i=.error e from u);exact kI dD
  have g:∀e,r2=.error e->rsig s 59 i=.error e:=fun e h=>by subst h;exact j e z
  cases r1 with
  |error O=>exact g O W
  |ok st=>
   show RV (match lW s st with| .error e=>_| .ok t=>m7 s t) _ _
   have a:RV (lW s st) K r2:=W;cases H:lW s st with
   |error e=>rw[H]at a;exact g e a
   |ok t=>
    rw[H]at a;obtain⟨rfl,rfl⟩:=a.ok
    show RV (m7 s t) _ _
    unfold m7;have d:RV (text s t.2 (fun x=>if named x=true then 0 else 7)) x A:=z;cases I:text s t.2 (fun x=>if named x=true then 0 else 7)with
    |error e=>rw[I]at d;exact j e d
    |ok n=>
     rw[I]at d;obtain⟨rfl,rfl⟩:=d.ok;have b:RV (text s n.2 (fun _=>0)) v i:=u;simp only[];cases N:text s n.2 (fun _=>0)with
     |error e=>rw[N]at b;cases (show i=.error e from b);exact kI dD
     |ok w=>
      rw[N]at b;obtain⟨rfl,rfl⟩:=b.ok;have:=mC (s:=s) (c:=59) dD E;rw[show (59:UInt8).toNat=59 from rfl]at this;rw[this]
      show RV (match sign s w.2 [59]with| .error e=>_| .ok r=>_) _ (sign s w.2 [59])
      cases sign s w.2 [59]with
      |error e=>rfl
      |ok q=>exact⟨Y,Y⟩
 refine RV.map (y:=bd r (sR s needs)) (f:=fun c:SetC=>Tree.set_ c.name c.value c.tag) L (fun e Q=>?_) (fun p hp=>?_)
 ·cases r<;>grind [sR,setC,ROk,nx,reqx,dS,RV,bd,dY,rone,ffit,tagR,tagV,rsig]
 cases r<;>grind [hp,sR,setC,ROk,nx,reqx,dS,RV,bd,dY,rone,ffit,tagR,tagV,rsig]
def QE{st:St}:cmdX s needs 0 st=.error (5,st.2.at_):=rfl
section
variable{n:Nat}{st:St}
theorem tF:cmdX s needs (n+1) st=match cmdD s needs (test s needs n) (block s needs n) st with|some r=>r|none=>.error (4,st.2.at_):=rfl
def Kc(w:st.2.s=pI\/st.2.s=jH\/st.2.s=l6):∃c,cmdX s needs (n+1) st=kT s c st/\∀(K:Hl) (b:Nat),K b=some (cmO st.2.s nilS 0 nilS nilS st.2.at_)->RR K c [pcl b] []:=by
 rw[tF];unfold cmdD
 rcases w with w|w|w
 ·exact⟨.act 1 [] st.2.at_,by rw[w];rfl,fun K b h=>by rw[w]at h;exact⟨Y,b,nilS,Y,.inl ⟨none,0,Y,Y⟩,h⟩⟩
 ·exact⟨.plain 13,by rw[w];rfl,fun K b h=>by rw[w]at h;exact⟨Y,b,_,Y,h⟩⟩
 exact⟨.plain 14,by rw[w];rfl,fun K b h=>by rw[w]at h;exact⟨Y,b,_,Y,h⟩⟩
def extA(w:aP):aP:=if w=gH then []else w
def R8(w:aP):Int:=if w=fO then 2 else if w=gH then 3 else 4
def U3(w:st.2.s=fO\/st.2.s=gH\/st.2.s=hU):cmdX s needs (n+1) st=actC s needs (R8 st.2.s) (extA st.2.s) st.2.at_ st:=by
 rw[tF];unfold cmdD
 rcases w with w|w|w<;>rw[w]<;>rfl
def U4(w:st.2.s=sE):cmdX s needs (n+1) st=sR s needs st:=by
 rw[tF];unfold cmdD;rw[w];rfl
def Xr(w:st.2.s=txIf):cmdX s needs (n+1) st=ifC s (test s needs n) (block s needs n) st:=by
 rw[tF];unfold cmdD;rw[w];rfl
theorem N0(h:¬st.2.s=pI/\¬st.2.s=jH/\¬st.2.s=l6)(b:¬st.2.s=fO/\¬st.2.s=gH/\¬st.2.s=hU)(l:¬st.2.s=sE)(z:¬st.2.s=txIf):cmdX s needs (n+1) st=.error (4,st.2.at_):=by
 grind [cmdD,tF]
end
end
end
end Go.Syn
end
section
namespace Go.Proofs
open Go Go.SL Go.Syn Go.Mach Tryz
section
variable{w:aP}{sv v:Cell}{K:Hl}{p:Int}{us zs:List Cell}{b:Nat}{r2 r3:Res St}{G:St->Res (Tree×St)}{acc t:Tree}{av:Value}
set_option maxRecDepth 100000 in
def aA4:fN x3 337=some ([(str []),.slice none 0 0,.int .i64 0,.slice none 0 0,.slice none 0 0,.int .i64 0],[(0,1),(1,1),(2,1),(3,1),(4,1),(5,1)]):=cV
set_option maxRecDepth 100000 in
def ER:elOk x3 240 333 1 8=true:=cV
set_option maxRecDepth 100000 in
def wS:elOk x3 335 240 1 24=true:=cV
set_option maxRecDepth 100000 in
def wV:iK x3 240 333 1=true:=cV
set_option maxRecDepth 100000 in
def qC:iK x3 335 240 1=true:=cV
abbrev cmb(B:Nat)(w:aP)(av:Value)(tag:Int)(y P:Value)(p:Int):Asn:=pt B (cmO w av tag y P p)
def MC{p q r:Prop}[Decidable p][Decidable q][Decidable r](h:(decide p||(decide q||decide r))=true):p\/q\/r:=by simpa using h
def V1{s:aP}{p:Prop}[Decidable p]{e:Int×Int}{r:Res St}(h:ROk s r)(A:e.1≠0):ROk s (if p then rf e r else r):=by
 split
 ·exact FA h A
 exact h
section
variable{s:aP}{needs:List aP}{n:Nat}{st:St}{r:Res St}
def SD(a:w=fO\/w=gH\/w=hU)(h:¬w=gH):reqx s needs (extA w) r=if w∈needs then r else rf (6,rW s r) r:=by
 have e:extA w=w:=x6 h;rw[e];exact C7 (by rcases a with rfl|rfl|rfl<;>decide)
def Vw(h:¬ ¬w=gH):reqx s needs (extA w) r=r:=by
 have e:extA w=[]:=x7 (xBH.1 h);rw[e];exact wD
def Jw(h:rK r=58):tagV r=1+dT [fR,gD,fZ] (rS r):=x7 h
def Wd(h:¬rK r=58):tagV r=0:=x6 h
def TB(h:rK r=58):tagR s r=nx s (if 1+dT [fR,gD,fZ] (rS r)=0 then rf (4,rW s r) r else r):=x7 h
def Wc(h:¬rK r=58):tagR s r=r:=x6 h
def JZ(e:rS (.ok st)=st.2.s)(h:¬rS (.ok st)=pI/\¬rS (.ok st)=jH/\¬rS (.ok st)=l6)(b:¬rS (.ok st)=fO/\¬rS (.ok st)=gH/\¬rS (.ok st)=hU)(l:¬rS (.ok st)=sE)(z:¬rS (.ok st)=txIf):cmdX s needs (n+1) st=.error (4,st.2.at_):=by
 rw[e]at*;exact N0 h b l z
def XU{a:aP}(e:w=fO\/w=gH\/w=hU)(h:Ksl (aZ 9) K av [a])(j:K b=some (cmO w av 0 nilS nilS p)):RR K (.act (R8 w) a p) [pcl b] []:=by
 refine⟨Y,b,av,Y,?_,?_⟩
 ·rcases e with rfl|rfl|rfl<;>exact h
 rcases e with rfl|rfl|rfl<;>exact j
def XV{x v:aP}{t:Int}(h:Ksl (aZ 9) K av [x,v])(j:K b=some (cmO sE av t nilS nilS p)):RR K (.set_ x v t) [pcl b] []:=⟨rfl,b,av,p,rfl,h,j⟩
def Yd{c:Nat}{ws:List Cell}(d:c≠0)(h:RX K r t us ws):RX K (rsig s c r) t us ws:=by
 cases r with
 |ok q=>exact wF h
 |error e=>rw[kI d];trivial
def Jk{t:Tree}:∀ {l:Tree},isCL l=true->isCL (l.snocC t)=true
 | .cnil,_=>rfl
 | .ccons x l,h=>Jk (l:=l) h
def Tb(a:isCL acc=true)(h:RX K (.ok st) acc us [])(b:RX K r2 t [v] []):RX K r2 (acc.snocC t) (us++[v]) []:=by
 cases r2 with
 |error e=>trivial
 |ok q=>exact(SP b a h).1
def Jg{t b:Tree}:∀ {l:Tree},isOB l=true->isOB (l.snocB (some t) b)=true
 | .bnil,_=>rfl
 | .bcons x y l,h=>Jg (l:=l) h
def Lx{α:Type}{F:St->Res (α×St)}{t:α}{q:St}(h:RV (bd r F) t (.ok q)):∃st,r=.ok st:=by
 cases r with
 |error e=>cases (show Except.ok q=.error e from h)
 |ok st=>exact⟨st,Y⟩
def Ta{F:St->Res (Tree×St)}{b:Tree}{ws:List Cell}(hv:RV (bd r F) t r2)(z:RV (bd r2 G) b r3)(c:isOB acc=true)(h:RX K r acc us ws)(a:RX K r2 t [v] [])(l:RX K r3 b zs [])(j:Ksl (cC 333) K sv.1 zs):RX K r3 (acc.snocB (some t) b) (us++[v]) (ws++[sv]):=by
 cases r3 with
 |error e=>trivial
 |ok q=>
  obtain⟨g,rfl⟩:=Lx z;obtain⟨u,rfl⟩:=Lx hv;exact(SO a l j c h).1
def Tc{b:Tree}{ws:List Cell}(z:RV (bd (nx s r) G) b r3)(v:isOB acc=true)(h:RX K r acc us ws)(l:RX K r3 b zs [])(j:Ksl (cC 333) K sv.1 zs):RX K r3 (acc.snocB none b) us (ws++[sv]):=by
 cases r3 with
 |error e=>trivial
 |ok q=>
  obtain⟨g,a⟩:=Lx z;cases r with
  |error e=>cases a
  |ok u=>exact SQ l j v h
def RXI(K:Hl)(r:Res St)(t:Tree)(us ws:List Cell):Prop:=match r with| .ok _=>∃s,t=.iff s/\RR K s us ws| .error _=>True
def RX.iff{ws:List Cell}(h:RX K r t us ws):RXI K r (.iff t) us ws:=by
 cases r with
 |ok q=>exact⟨t,Y,h⟩
 |error e=>trivial
def RXI.mono{a:Hl}{ws:List Cell}(h:RXI K r t us ws)(le:K.le a):RXI a r t us ws:=by
 cases r with
 |ok q=>obtain⟨s,e,h⟩:=h;exact⟨s,e,h.mono le⟩
 |error e=>trivial
def Yb{ws:List Cell}{y P:Value}(h:RXI K r t us ws)(a:Ksl (cC 340) K y us)(c:Ksl (cC 240) K P ws)(j:K b=some (cmO txIf nilS 0 y P p)):RX K r t [pcl b] []:=by
 cases r with
 |ok q=>obtain⟨s,rfl,h⟩:=h;exact⟨Y,b,us,ws,y,P,p,Y,h,a,c,j⟩
 |error e=>trivial
end
def RCs(r tb:Nat)(s:aP)(nv:Value)(x:Res (Tree×St)):Ending->Hl->List Asn->Prop:=Ret fun v K g=>∃us t j,RV x t j/\ROk s j/\RX K j t us []/\us.length<=2000/\g=[sl false (cC 333) v us,rdb r tb nv,rtx tb s j]
def IHc(a tb:Nat)(s:aP)(nv:Value)(needs:List aP)(m:Nat)(K:Hl):Prop:=∀b,K.le b->∀(d:Int) (r:Res St),d=7-(m:Int)->ROk s r->Sp x3 206 [ptr a,i64 d] b [rdb a tb nv,rtx tb s r] (RCs a tb s nv (bd r (block s needs m)))
def BZ(b tb:Nat)(s:aP)(nv:Value)(needs:List aP)(f:s.length<=600)(u:needs.length<=10000000)(m:Nat)(B:m+1<=7)(K:Hl)(d:Int)(hd:d=7-((m+1:Nat):Int))(r:Res St)(i:ROk s r)(e:IHc b tb s nv needs m K):
  Sp x3 345 [ptr b,i64 d] K [rdb b tb nv,rtx tb s r] (RCs b tb s nv (bd r (kU s (block s needs m)))):=by
 refine bL func345 Y ntmps345 Y Y fun F w=>Z8 ?_;refine bA Y Y (lL b tb s nv r 123 i aH _) bQ Y ?_;refine aCL ?_;have Q:=qW (c:=123) i;rw[show (123:UInt8).toNat=123 from rfl];refine Z7 ?_;refine bA Y Y (e _ (xAB _) _ _ aH Q) bQ Y ?_;rintro h L _ ⟨us,t,r2,W,a,M,P,rfl⟩ p;refine Z6 ?_;refine bA Y Y (lL b tb s nv r2 125 a aH _) bQ Y ?_;refine aCL (Z9 ?_);refine uAo ?_;refine bG Y Y p ?_;exact⟨_,Y,us,t,_,VA i a W,qW a,Yd dD M,P,Y⟩
def DF(c tb B:Nat)(s:aP)(nv:Value)(needs:List aP)(hs:s.length<=600)(hn:needs.length<=10000000)(m:Nat)(hm:m+1<=7)(K:Hl)(hv:Ksl (aZ 9) K nv needs)(d:Int)(hd:d=7-((m+1:Nat):Int))(p:Int)(r:Res St)(hr:ROk s r)(W:Res (Tree×St))(hF:FInv s (test s needs m) (block s needs m) W r .bnil)(je:IHc c tb s nv needs m K):
  Sp x3 319 [ptr c,ptr B,i64 d] K [cmb B txIf nilS 0 nilS nilS p,rdb c tb nv,rtx tb s r] (Ret fun v K' L'=>v=.tuple #[]/\∃tv bv xs ys t r',RV W t r'/\ROk s r'/\RXI K' r' t xs ys/\Ksl (cC 340) K' tv xs/\Ksl (cC 240) K' bv ys/\L'=[cmb B txIf nilS 0 tv bv p,rdb c tb nv,rtx tb s r']):=by
 have hA:=mT (s:=s) (needs:=needs) m;have hAB:=q6 (s:=s) (needs:=needs) m;refine bL func319 Y ntmps319 Y Y fun F w=>Z2 ?_;refine m8 (fun(P:Hl) (q:Res St) (C:Tree×List Cell×List Cell) (x:Value×Value)=>K.le P/\ROk s q/\FInv s (test s needs m) (block s needs m) W q C.1/\RX P q C.1 C.2.1 C.2.2/\isOB C.1=true/\C.2.1.length+muR s q<=2000/\C.2.2.length+muR s q<=2000) (fun _ _ _ _=>[(0,ptr c),(1,ptr B),(2,i64 d)]) (fun P _ _ _=>P) (fun _ q C x=>[sl false (cC 340) x.1 C.2.1,sl false (cC 240) x.2 C.2.2,cmb B txIf nilS 0 x.1 x.2 p,rdb c tb nv,rtx tb s q]) (fun _ q _ _=>muR s q) K r (.bnil,[],[]) (nilS,nilS) ⟨xAB _,hr,hF,wF ⟨Y,Y⟩,Y,by have:=D4 s r;simp;omega,by have:=D4 s r;simp;omega⟩ bM Y (fun h hh=>eO (cC 340) _ (eO (cC 240) _ (by simpa using Tks.sat (N:=[]) (aQ cL (aQ cL (aQ cL bT))) h hh))) ?_;intro P q ⟨acc,us,ws⟩ ⟨tv,bv⟩ ⟨a,ja,hF4,hX4,hL4,jk,jl⟩;simp only at hF4 hX4 hL4 jk jl;refine Z6 ?_;refine bA Y Y (Lu c tb s nv needs hs hn m aH _ (hv.mono a) _ _ aH ja) bQ Y ?_;rintro _ K5 _ ⟨bt,t,r3,rfl,jb,jr,ju,rfl⟩ jf;refine ZB ?_;refine cG (bJ (z0:=[.pointer none]) iC tz340 Y Y Y Y cW) Y ?_;refine aCJ fun qd=>cG (dJ (k:=(cC 340)) (ys:=[pcl bt]) yS Y Y (.there (.there (.there .here))) (fun w j=>dC xBO (SeesSl.at (.blk aL Y Y) j)) gAG gAH) Y ?_;rintro i K _ ⟨rfl,rfl,jz⟩ -;refine Z9 ?_;refine bA Y Y (BZ c tb s nv needs hs hn m aH _ d hd r3 jr (fun K2 le=>je K2 (x5 a (x5 jf le)))) bQ Y ?_;rintro qh K6 _ ⟨zs,b,u,jc,z,jv,qf,rfl⟩ jg;refine fS fun K7 L Q=>?_;obtain⟨sa,sn,sc,rfl⟩:=Q.isSlice;have g:=x5 jf (x5 jg L);have hE:=NP hA hAB ja hF4 jb jc;have hX5:=Ta (sv:=⟨.slice sa sn sc,rfl⟩) jb jc hL4 (hX4.mono g) (ju.mono (x5 jg L)) (jv.mono L) Q;have hL5:=Jg (t:=t) (b:=b) hL4;refine ZB ?_;refine cG (bJ (z0:=[.slice none 0 0]) qC tz240 Y Y Y Y cW) Y ?_;refine aCJ fun qe=>cG (dJ (k:=(cC 240)) (ys:=[⟨.slice sa sn sc,Y⟩]) wS Y Y (.there (.there (.there (.there (.there .here))))) (fun w j=>dC xCJ (SeesSl.at (.blk aL Y Y) j)) gAG gAH) Y ?_;rintro l K _ ⟨rfl,rfl,qa⟩ -;refine Z6 ?_;refine dU (fun(_:Unit)=>True) (fun _=>[(0,ptr c),(1,ptr B),(2,i64 d),(65,.bool (decide (¬(rK u=119/\rS u=oR))))]) (fun _=>K) (fun _=>[sl false (cC 340) i (us++[pcl bt]),sl false (cC 240) l (ws++[⟨.slice sa sn sc,Y⟩]),cmb B txIf nilS 0 i l p,rdb c tb nv,rtx tb s u]) ?_ ?_
 ·refine ZA ?_;refine bV 44 Y (fun y=>ZM ?_) (fun y=>ZK ?_)
  ·exact gDW
  refine bV 55 Y (fun ji=>ZB ?_) (fun ji=>ZK ?_)
  ·exact gDW
  exact gDW
 intro _ _;refine aX 65 Y (fun e=>Z6 ?_) (fun e=>?_)
 ·refine dU (fun(_:Unit)=>True) (fun _=>[(0,ptr c),(1,ptr B),(2,i64 d),(100,.bool (decide (rK u=119/\rS u=qL)))]) (fun _=>K) (fun _=>[sl false (cC 340) i (us++[pcl bt]),sl false (cC 240) l (ws++[⟨.slice sa sn sc,Y⟩]),cmb B txIf nilS 0 i l p,rdb c tb nv,rtx tb s u]) ?_ ?_
  ·refine ZA ?_;refine bV 79 Y (fun A=>ZK ?_) (fun A=>ZM ?_)
   ·refine bV 90 Y (fun jj=>ZK ?_) (fun jj=>ZB ?_)
    ·exact gEH
    exact gEH
   exact gEH
  intro _ _;refine aX 100 Y (fun G=>Z6 ?_) (fun G=>?_)
  ·refine bA Y Y (fY tb s u z aH _) bQ Y ?_;refine aCL ?_;have jt:=lC z;refine Z6 ?_;refine bA Y Y (BZ c tb s nv needs hs hn m aH _ d hd (nx s u) jt (fun K2 le=>je K2 (x5 a (x5 g le)))) bQ Y ?_;rintro qb K8 _ ⟨qs,b2,r7,jd,js,jw,qg,rfl⟩ jh;refine fS fun K9 M S=>?_;obtain⟨ta,tn,tc,rfl⟩:=S.isSlice;have jx:=x5 g (x5 jh M);have hX7:=Tc (sv:=⟨.slice ta tn tc,rfl⟩) jd hL5 (hX5.mono (x5 jh M)) (jw.mono M) S;refine ZA ?_;refine cG (bJ (z0:=[.slice none 0 0]) qC tz240 Y Y Y Y cW) Y ?_;refine aCJ fun jy=>cG (dJ (k:=(cC 240)) (ys:=[⟨.slice ta tn tc,Y⟩]) wS Y Y (.there (.there (.there (.there .here)))) (fun w j=>dC xCJ (SeesSl.at (.blk aL Y Y) j)) gAG gAH) Y ?_;rintro qc K _ ⟨rfl,rfl,jq⟩ -;refine Z4 ?_;refine aV (aQ EI (aQ cL (aQ AR (aQ dQ (aQ dQ bT))))) (iX fun KA O H=>iX fun KB E I=>dG Y (x5 a (x5 jx (x5 O E))) ?_);exact⟨_,Y,Y,_,_,_,_,_,_,ND z hE.1 G.1 G.2 jd,js,RX.iff (hX7.mono (x5 O E)),H.mono E,I,Y⟩
  refine aU (iX fun KA O H=>iX fun KB E I=>dG Y (x5 a (x5 g (x5 O E))) ?_);exact⟨_,Y,Y,_,_,_,_,_,_,Rg z hE.1 e G,z,RX.iff (hX5.mono (x5 O E)),H.mono E,I,Y⟩
 have e:=xBH.1 e;refine Z7 ?_;refine bA Y Y (fY tb s u z aH _) bQ Y ?_;refine aCL (Z2 ?_);have jp:=NF hA hAB z hE.1 e.1 e.2;refine aV (aQ dQ (aQ dQ (aQ dQ (aQ dQ (aQ cL bT))))) ?_;refine jQ K (nx s u) (acc.snocB (some t) b,us++[pcl bt],ws++[⟨.slice sa sn sc,Y⟩]) (i,l) ⟨x5 a g,lC z,jp.1,WG hX5,hL5,by simp only[List.length_append,List.length_singleton];omega,by simp only[List.length_append,List.length_singleton];omega⟩ aH bM Y a7
def EM(g tb:Nat)(s:aP)(nv:Value)(needs:List aP)(hs:s.length<=600)(hn:needs.length<=10000000)(n:Nat)(js:n<=7)(K:Hl)(hv:Ksl (aZ 9) K nv needs)(d:Int)(hd:d=7-(n:Int))(st:St)(l:ROk s (.ok st))(hk:st.2.kind=1)(ih:∀m,n=m+1->IHc g tb s nv needs m K):
  Sp x3 284 [ptr g,i64 d] K [rdb g tb nv,rtx tb s (.ok st)] (RTe g tb s nv (cmdX s needs n st)):=by
 have j:rS (.ok st)=st.2.s:=C8 hk;refine bL func284 Y ntmps284 Y Y fun F w=>Z6 ?_;refine cN [17] [17] mixed gAD (cM _) (ZG ?_);refine aJ Y Y (.none Y) Y Y (dA aA4 tb337f cW) Y ?_;refine N8 Y Y (.none Y) Y (eZ Y Y) Y (aCJ fun f=>ZA ?_);refine aX 28 Y (fun je=>?_) (fun je=>?_)
 ·obtain rfl:n=0:=aH;have q:=QE (s:=s) (needs:=needs) (st:=st);refine aI (cN [8] [8] mixed gAD (cM _) (Z8 ?_));refine eR Y (.none Y) Y Y Y (mH tb s (.ok st) 5 (rW s (.ok st)) l aH _) bQ Y ?_;refine aCL (ZA ?_);exact gFJ
 obtain⟨m,rfl⟩:∃m,n=m+1:=⟨n-1,aH⟩;have jq:=ih m rfl;clear ih;refine Z2 ?_;refine dU (fun(x:Tree×Res St×Value×Int×Hl)=>K.le x.2.2.2.2/\RV (cmdX s needs (m+1) st) x.1 (rsig s 59 x.2.1)/\ROk s x.2.1/\∀S b,x.2.2.2.2.le S->S b=some (cmO (rS (.ok st)) x.2.2.1 x.2.2.2.1 nilS nilS st.2.at_)->RR S x.1 [pcl b] []) (fun _=>[(0,ptr g),(1,i64 d),(5,ptr f)]) (fun x=>x.2.2.2.2) (fun x=>[cmb f (rS (.ok st)) x.2.2.1 x.2.2.2.1 nilS nilS st.2.at_,rdb g tb nv,rtx tb s x.2.1]) ?_ ?_
 ·refine Z9 ?_;refine dU (fun(_:Unit)=>True) (fun _=>[(0,ptr g),(1,i64 d),(5,ptr f),(42,str (rS (.ok st))),(53,.bool (decide (rS (.ok st)=pI)||(decide (rS (.ok st)=jH)||decide (rS (.ok st)=l6))))]) (fun _=>K) (fun _=>[cmb f (rS (.ok st)) nilS 0 nilS nilS st.2.at_,rdb g tb nv,rtx tb s (.ok st)]) ?_ ?_
  ·refine Z6 ?_;refine aX 53 Y (fun i=>?_) (fun i=>Z6 ?_)
   ·refine aU ?_;exact gD8
   refine aX 53 Y (fun i=>?_) (fun i=>Z4 ?_)
   ·refine aU ?_;exact gD8
   exact gD8
  intro _ _;refine dZ 53 Y (fun i=>?_) (fun i=>?_)
  ·have v:=MC i;obtain⟨c,q,jf⟩:=Kc (s:=s) (needs:=needs) (n:=m) (j▸v);refine Z5 ?_;refine bA Y Y (fY tb s (.ok st) l aH _) bQ Y ?_;refine aCL ?_;have Q:=lC l;refine Z2 ?_
   (refine aV (aQ dQ (aQ dQ (aQ cL bT))) ?_;exact cB (c,nx s (.ok st),nilS,0,K) ⟨xAB _,by rw[q];exact Pj (r:=.ok st) l,Q,fun S b _ h=>jf S b (by rw[<-j];exact h)⟩ bM Y a7)
  have h1:=Lc i;refine dU (fun(_:Unit)=>True) (fun _=>[(0,ptr g),(1,i64 d),(5,ptr f),(42,str (rS (.ok st))),(62,.bool (decide (rS (.ok st)=fO)||(decide (rS (.ok st)=gH)||decide (rS (.ok st)=hU))))]) (fun _=>K) (fun _=>[cmb f (rS (.ok st)) nilS 0 nilS nilS st.2.at_,rdb g tb nv,rtx tb s (.ok st)]) ?_ ?_
  ·refine Z6 ?_;refine aX 62 Y (fun A=>?_) (fun A=>Z6 ?_)
   ·refine aU ?_;exact gD7
   refine aX 62 Y (fun A=>?_) (fun A=>Z4 ?_)
   ·refine aU ?_;exact gD7
   exact gD7
  intro _ _;refine dZ 62 Y (fun A=>?_) (fun A=>?_)
  ·have v:=MC A;have q:=U3 (s:=s) (needs:=needs) (n:=m) (j▸v);rw[<-j]at q;refine dU (fun(_:Unit)=>True) (fun _=>[(0,ptr g),(1,i64 d),(5,ptr f)]) (fun _=>K) (fun _=>[cmb f (rS (.ok st)) nilS 0 nilS nilS st.2.at_,rdb g tb nv,rtx tb s (reqx s needs (extA (rS (.ok st))) (.ok st))]) ?_ ?_
   ·refine Z9 ?_;refine aX 70 Y (fun N=>Z6 ?_) (fun N=>?_)
    ·refine bA Y Y (uS g tb s nv needs (rS (.ok st)) (.ok st) l aH _ hv hn) bQ Y ?_;refine aCL (aG ?_)
     (rw[SD v N];refine aV (aQ jS (aQ cL (aQ cL bT))) ?_;exact cB () trivial bM Y a7)
    refine aU ?_
    (rw[Vw N];exact cB () trivial bM Y a7)
   intro _ _;have y:=xR (needs:=needs) (ext:=extA (rS (.ok st))) l;have jl:=XW (needs:=needs) (k:=R8 (rS (.ok st))) (ext:=extA (rS (.ok st))) (p:=st.2.at_) l (fun _ _=>trivial)
   generalize reqx s needs (extA (rS (.ok st))) (.ok st)=O at*
   refine Z6 ?_;refine bA Y Y (fY tb s O y aH _) bQ Y ?_;refine aCL ?_;have Q:=lC y
   generalize nx s O=r2 at*
   refine Z5 ?_;refine bA Y Y (rB g tb s nv 0 r2 dD Q aH _) bQ Y ?_;refine aCL ?_;have G:=(pP (ff:=ffit 0) Q).1
   generalize (rone s (ffit 0) r2).2=r3 at*
   generalize (rone s (ffit 0) r2).1=xa at*
   refine Z6 ?_;refine cG (bJ (z0:=[(str [])]) b0 tz9 Y Y Y Y cW) Y ?_;refine aCJ fun jd=>Z5 ?_
   (refine fC fun K7 I hS=>?_;refine aV (aQ jS (aQ cL (aQ cL bT))) ?_;exact cB (_,r3,_,0,K7) ⟨I,by rw[q];exact jl,G,fun S b le h=>XU v (.inr ⟨jd,0,1,[str xa],(0,0),Y,⟨_,le _ _ hS⟩,Y⟩) h⟩ bM Y a7)
  have h2:=Lc A;refine Z6 ?_;refine aX 89 Y (fun L=>?_) (fun L=>Z6 ?_)
  ·have v:rS (.ok st)=sE:=L;have q:=U4 (s:=s) (needs:=needs) (n:=m) (j▸v);refine Z3 ?_;refine bA Y Y (uS g tb s nv needs dS (.ok st) l aH _ hv hn) bQ Y ?_;refine aCL ?_;have y:=xR (needs:=needs) (ext:=dS) l;have H:=fun O=>XY (s:=s) (needs:=needs) l (r1:=O)
   rw[<-C7 dD]
   generalize reqx s needs dS (.ok st)=r0 at*
   refine Z8 ?_;refine bA Y Y (fY tb s r0 y aH _) bQ Y ?_;refine aCL ?_;have E:=lC y;have H:=H _ rfl
   generalize nx s r0=O at*
   refine Lb (aQ jS (aQ dQ (aQ cL bT))) (Z2 ?_);refine dU (fun(_:Unit)=>True) (fun _=>[(0,ptr g),(1,i64 d),(5,ptr f)]) (fun _=>K) (fun _=>[cmb f (rS (.ok st)) nilS (tagV O) nilS nilS st.2.at_,rdb g tb nv,rtx tb s (tagR s O)]) ?_ ?_
   ·refine ZD ?_;refine aX 106 Y (fun P=>ZB ?_) (fun P=>?_)
    ·refine cH Y Y (Lw (rS O) _) Y (Z5 ?_);refine dU (fun(_:Unit)=>True) (fun _=>[(0,ptr g),(1,i64 d),(5,ptr f)]) (fun _=>K) (fun _=>[cmb f (rS (.ok st)) nilS (tagV O) nilS nilS st.2.at_,rdb g tb nv,rtx tb s (if 1+dT [fR,gD,fZ] (rS O)=0 then rf (4,rW s O) O else O)]) ?_ ?_
     ·refine Z9 ?_;refine aX 123 Y (fun C=>?_) (fun C=>?_)
      ·refine cN [12] [12] mixed gAD (cM _) (ZC ?_);refine eR Y (.none Y) Y Y Y (mH tb s O 4 (rW s O) E aH _) bQ Y ?_;refine aCL (cI ?_);rw[Jw (show rK O=58 by omega)]
       (rw[x7 C];refine aV (aQ dQ (aQ dQ (aQ cL bT))) ?_;exact cB () trivial bM Y a7)
      refine aU ?_;rw[Jw (show rK O=58 by omega)]
      (rw[x6 C];exact cB () trivial bM Y a7)
     intro _ _;have ja:=V1 (s:=s) (p:=1+dT [fR,gD,fZ] (rS O)=0) (e:=(4,rW s O)) E (show (4:Int)≠0 by decide);refine Z5 ?_;refine bA Y Y (fY tb s _ ja aH _) bQ Y ?_;refine aCL (aG ?_)
     (rw[TB (show rK O=58 by omega)];refine aV (aQ dQ (aQ dQ (aQ cL bT))) ?_;exact cB () trivial bM Y a7)
    refine aU ?_
    (rw[Wd (show ¬rK O=58 by omega),Wc (show ¬rK O=58 by omega)];exact cB () trivial bM Y a7)
   intro _ _;have Q:=MR E
   generalize tagV O=tg at*
   generalize tagR s O=r2 at*
   refine Z3 ?_;refine bA Y Y (rB g tb s nv 4 r2 dD Q aH _) bQ Y ?_;refine aCL ?_;have G:=(pP (ff:=ffit 4) Q).1;have jt:=(pP (ff:=ffit 4) Q).2
   generalize (rone s (ffit 4) r2).2=r3 at*
   generalize (rone s (ffit 4) r2).1=xa at*
   refine Z6 ?_;refine bA Y Y (rB g tb s nv 0 r3 dD G aH _) bQ Y ?_;refine aCL ?_;have jj:=(pP (ff:=ffit 0) G).1
   generalize (rone s (ffit 0) r3).2=r4 at*
   generalize (rone s (ffit 0) r3).1=xb at*
   refine Z6 ?_;refine cH Y Y (kB xa _ aH) Y (Z1 ?_);refine cG (bJ (z0:=[(str []),(str [])]) b0 tz9 Y Y Y Y cW) Y ?_;refine aCJ fun M=>Z5 ?_
   (refine fC fun K7 I hS=>?_;refine aV (aQ jS (aQ cL (aQ cL bT))) ?_;exact cB (_,r4,_,tg,K7) ⟨I,by rw[q];exact H,jj,fun S b le h=>XV (.inr ⟨M,0,2,[str (dY xa),str xb],(0,0),Y,⟨_,le _ _ hS⟩,Y⟩) (by rw[<-v];exact h)⟩ bM Y a7)
  refine aX 153 Y (fun u=>?_) (fun u=>?_)
  ·have v:rS (.ok st)=txIf:=u;have q:=Xr (s:=s) (needs:=needs) (n:=m) (j▸v);refine Z6 ?_;refine bA Y Y (fY tb s (.ok st) l aH _) bQ Y ?_;refine aCL ?_;have Q:=lC l;have hF:=KC (s:=s) (T:=test s needs m) (B:=block s needs m) (r:=.ok st)
   generalize nx s (.ok st)=r2 at*
   refine Lb (aQ dQ (aQ dQ (aQ cL bT))) (Z7 ?_);rw[v];refine bA Y Y (DF g tb f s nv needs hs hn m aH _ hv d aH _ r2 Q _ hF jq) bQ Y ?_;rintro _ K1 _ ⟨rfl,tv,bv,xs,ys,t,O,jk,ji,jp,jg,jh,rfl⟩ jr;refine ZB ?_;refine fC fun K8 a W=>bG Y Y (x5 jr a) ?_;exact oO (by rw[q];exact jk) ji (Yb (jp.mono a) (jg.mono a) (jh.mono a) W)
  have q:=JZ (s:=s) (needs:=needs) (n:=m) j h1 h2 L u;refine aI (cN [8] [8] mixed gAD (cM _) (Z8 ?_));refine eR Y (.none Y) Y Y Y (mH tb s (.ok st) 4 (rW s (.ok st)) l aH _) bQ Y ?_;refine aCL (ZB ?_);exact gFJ
 intro ⟨c,r2,av,tg,S⟩ ⟨jc,jb,z,hR2⟩;simp only at jc jb z hR2;refine Z3 ?_;refine bA Y Y (lL g tb s nv r2 59 z aH _) bQ Y ?_;refine aCL (Z9 ?_);refine uAo ?_;refine fC fun K8 a W=>bG Y Y (x5 jc a) ?_;exact oO jb (qW z) (wF (hR2 _ _ a W))
def wC(e tb:Nat)(s:aP)(nv:Value)(needs:List aP)(E:s.length<=600)(u:needs.length<=10000000)(n:Nat)(M:n<=7)(K:Hl)(hv:Ksl (aZ 9) K nv needs)(d:Int)(hd:d=7-(n:Int))(r:Res St)(y:ROk s r)(G:∀m,n=m+1->IHc e tb s nv needs m K):
  Sp x3 206 [ptr e,i64 d] K [rdb e tb nv,rtx tb s r] (RCs e tb s nv (bd r (block s needs n))):=by
 refine bL func206 Y ntmps206 Y Y fun F w=>ZC ?_;refine m8 (fun(f:Hl) (a:Res St) (C:Tree×List Cell) (v:Value)=>K.le f/\ROk s a/\BInv s (cmdO s needs n) (bd r (block s needs n)) a C.1/\RX f a C.1 C.2 []/\isCL C.1=true/\C.2.length+muR s a<=2000) (fun _ _ _ v=>[(0,ptr e),(1,i64 d),(5,v)]) (fun f _ _ _=>f) (fun _ a C v=>[sl false (cC 333) v C.2,rdb e tb nv,rtx tb s a]) (fun _ a _ _=>muR s a) K r (.cnil,[]) nilS ⟨xAB _,y,JO,wF ⟨Y,Y⟩,Y,by have:=D4 s r;simp;omega⟩ bM Y (eO (cC 333)) ?_;intro f a ⟨acc,us⟩ v ⟨c,b,hB4,hX4,hL4,h⟩;simp only at hB4 hX4 hL4 h;refine aI ?_;refine dU (fun(_:Unit)=>True) (fun _=>[(0,ptr e),(1,i64 d),(5,v),(25,.bool (decide (rK a=119)))]) (fun _=>f) (fun _=>[sl false (cC 333) v us,rdb e tb nv,rtx tb s a]) ?_ ?_
 ·refine ZA ?_;refine bV 15 Y (fun A=>ZK ?_) (fun A=>ZB ?_)
  ·exact gGG
  exact gGG
 intro _ _;refine aX 25 Y (fun l=>?_) (fun l=>ZC ?_)
 ·obtain⟨st,rfl⟩:=yL (r:=a) aH;have i:=(pO b.2).1 l;refine Z7 ?_;refine bA Y Y (EM e tb s nv needs E u n M _ (hv.mono c) d hd st b i (fun m B S le=>G m B S (x5 c le))) bQ Y ?_;rintro _ P _ ⟨H,t,L,rfl,I,z,Q,rfl⟩ g;have hB5:=Np b.1 i hB4 I;have hX5:=Tb hL4 (hX4.mono g) Q;refine Z6 ?_;refine cG (bJ (z0:=[.pointer none]) wV tz333 Y Y Y Y cW) Y ?_;refine aCJ fun q=>cG (dJ (k:=(cC 333)) (ys:=[pcl H]) ER Y Y (.there (.there (.there .here))) (fun w j=>dC xCV (SeesSl.at (.blk aL Y Y) j)) gAG gAH) Y ?_;rintro O K _ ⟨rfl,rfl,p⟩ -;refine Z3 ?_;refine uAp ?_;refine jQ K L (acc.snocC t,us++[pcl H]) _ ⟨x5 c g,z,hB5.1,hX5,Jk hL4,by simp only[List.length_append,List.length_singleton];omega⟩ hB5.2 bM Y a7
 refine bG Y Y c ?_;exact⟨_,Y,us,acc,a,Q0 b hB4 l,b,hX4,aH,Y⟩
def DG(b tb:Nat)(s:aP)(nv:Value)(needs:List aP)(c:s.length<=600)(u:needs.length<=10000000):∀n:Nat,n<=7->∀K,Ksl (aZ 9) K nv needs->IHc b tb s nv needs n K:=by
 intro n;induction n with
 |zero=>intro B K H a le d r hd i;exact wC b tb s nv needs c u 0 B a (H.mono le) d hd r i (fun m h=>by omega)
 |succ n w=>
  intro B K H a le d r hd i;refine wC b tb s nv needs c u (n+1) B a (H.mono le) d hd r i ?_;intro m h;obtain rfl:n=m:=aH;exact w aH a (H.mono le)
end
end Go.Proofs
end
section
namespace Go.Proofs
open Go Go.SL Go.Syn Go.Mach Tryz
open Go.Say (Co)
open Go.Cmp (cnt)
section
variable{op:Int}{names:List aP}
section
variable{nm:Bool}{tag:Int}{oct:Bool}{vs keys:List aP}{c:Co}{m:Msg}
def CInv.par(h:CInv c){ps:List aP}(hp:∀x∈ps,x.length<=100000):CInv {c with parts:=ps}:=⟨h.vn,h.vars,hp,h.acts,h.keep⟩
def CInv.matV(h:CInv c)(hv:∀v∈vs,v.length<=100000):CInv (Say.matV nm tag oct vs keys c).2:=by
 unfold Say.matV;split
 ·rename_i f r;simp only[];split
  ·exact h.par (vX hv r)
  exact h
 exact h
def q9:(Say.matV nm tag oct vs keys c).2.vars=c.vars:=by
 unfold Say.matV;split
 ·simp only[];split<;>rfl
 rfl
def uI(B:MsgOk m):∀x∈jP nm m c names,x.length<=100000:=by
 intro x a;unfold jP at a;exact gEP
def C0(B:MsgOk m):∀x∈names.flatMap (kV m),x.length<=100000:=by
 intro x a;obtain⟨y,_,t⟩:=List.mem_flatMap.1 a;unfold kV at t;split at t
 ·exact gH0
 split at t
 ·rw[List.mem_singleton]at t;subst t;exact B.to_
 cases t
def sI{N:Nat}(B:MsgOk m):∀ {names:List aP},(jP nm m c names).length<=1000000*names.length
 | []=>by simp[jP]
 |n::l=>by
  have w:=sI (N:=N) B (names:=l);have e:jP nm m c (n::l)=gU m (dY (cY nm c.vars c.parts n))++jP nm m c l:=by unfold jP;simp
  have a:(gU m (dY (cY nm c.vars c.parts n))).length<=1000000:=by
   unfold gU;rw[xAW];exact xAR (List.length_filter_le _ _) B.hn
  rw[e,xAE,xBT];omega
def De:(names.flatMap (kV m)).length<=names.length:=by
 induction names with
 |nil=>simp
 |cons n l w=>
  rw[xB4,xAE,xBT];have:(kV m n).length<=1:=by unfold kV;split;simp;split<;>simp
  omega
end
def mD(p:Nat)(m:Msg)(hv:Value)(nm:Bool)(c:Co)(hc:CInv c)(S C:Value)(vs keys:List aP)(tag:Int)(oct:Bool)(ht:1<=tag/\tag<=3)(ji:vs.length<=4611686018427387904)(jg:keys.length<=1000000)(jc:∀v∈vs,v.length<=100000)(ja:∀k∈keys,k.length<=100000)(K:Hl)(hk:Ksl (aZ 9) K C keys):Sp x3 209 [ptr p,S,C,i64 tag,.bool oct] K [stq p m hv nm c false 0 0,sl false (aZ 9) S vs] (Ret fun v K' L'=>v=.bool (Say.matV nm tag oct vs keys c).1/\K'=K/\L'=[stq p m hv nm (Say.matV nm tag oct vs keys c).2 false 0 0]):=by
 refine bL func209 Y ntmps209 Y Y fun F w=>qO fun W t s f=>ZC ?_;refine eD (fun(i:Nat)=>i<=vs.length/\∀(j:Nat) (v:aP),j<i->vs[j]?=some v->∀(q:Nat) (k:aP),keys[q]?=some k->gN (Say.matO tag oct 0 [] []) v (cY nm c.vars c.parts k)=none) (fun i=>[(0,ptr p),(1,S),(2,C),(3,i64 tag),(4,.bool oct),(11,i64 i)]) (fun _=>K) (fun _=>[rsb p m hv nm W t s f c.keep false 0 0,sl false (aZ 9) W (c.vars.map (·.1)),sl false (aZ 9) t (c.vars.map (·.2)),sl false (aZ 9) s (c.parts.take 10),sl false dI f c.acts,sl false (aZ 9) S vs]) (fun i=>vs.length-i) 0 ⟨xAA _,fun j v h=>by omega⟩ bM Y a7 ?_;intro i ⟨jf,G⟩;refine Z5 ?_;refine uAj ?_;refine Z3 ?_;refine aX 19 Y (fun L=>?_) (fun L=>?_)
 ·have Q:i<vs.length:=aH;obtain⟨x,A⟩:∃x,vs[i]?=some x:=⟨vs[i]'Q,x4 Q⟩;have jd:=jc x (x8 A);refine ZA ?_;refine eD (fun(q:Nat)=>q<=keys.length/\∀(j:Nat) (k:aP),j<q->keys[j]?=some k->gN (Say.matO tag oct 0 [] []) x (cY nm c.vars c.parts k)=none) (fun q=>[(0,ptr p),(1,S),(2,C),(3,i64 tag),(4,.bool oct),(11,i64 i),(12,i64 q)]) (fun _=>K) (fun _=>[rsb p m hv nm W t s f c.keep false 0 0,sl false (aZ 9) W (c.vars.map (·.1)),sl false (aZ 9) t (c.vars.map (·.2)),sl false (aZ 9) s (c.parts.take 10),sl false dI f c.acts,sl false (aZ 9) S vs]) (fun q=>keys.length-q) 0 ⟨xAA _,fun j v h=>by omega⟩ bM Y a7 ?_;intro q ⟨jh,b⟩;refine Z5 ?_;refine aA (bU (k:=aZ 9) Y xAC Y (.known hk)) Y (Z3 ?_);refine aX 25 Y (fun O=>?_) (fun O=>ZB ?_)
  ·have d:q<keys.length:=aH;obtain⟨y,B⟩:∃y,keys[q]?=some y:=⟨keys[q]'d,x4 d⟩;have I:=ja y (x8 B);refine Z9 ?_;refine aA (aW (k:=aZ 9) (j:=q) b0 Y (.known hk) Y Y d) Y (aA (cE (o:=0) (k:=aZ 9) ts9 Y (.known hk) B Y) Y (bA Y Y (oL p m hv nm W t s f c.keep false 0 0 c.vars c.parts y I hc.vn hc.small _) bQ Y ?_));refine aCL ?_;have jb:=iP (nm:=nm) (vars:=c.vars) (parts:=c.parts) I;refine Z7 ?_;refine aA (aW (k:=aZ 9) (j:=i) b0 Y aL Y Y Q) Y ?_;refine aA (cE (o:=0) (k:=aZ 9) ts9 Y aL A Y) Y (Z3 ?_);refine bA Y Y (IV x (cY nm c.vars c.parts y) tag oct jd jb _) .nil Y ?_;rintro _ K _ ⟨rfl,u,xs,⟨ua,un,uc,rfl⟩,rfl,rfl,je⟩ -;refine ZC ?_;refine dZ 45 Y (fun M=>?_) (fun M=>Z8 ?_)
   ·obtain⟨ps,r⟩:=Option.isSome_iff_exists.1 M;have g:=Say.matV_hit A B G b r;refine Z6 ?_;refine bV 48 Y (fun E=>ZB ?_) (fun E=>ZP ?_)
    ·refine dZ 53 Y (fun a=>?_) (fun a=>?_)
     ·subst a;have P:tag=3:=aH;have l:=je aH aH ps (by rw[<-r,BV,W7 aH aH,<-KH]);rw[x7 ⟨P,rfl⟩]at g;subst l;refine ZN ?_;refine aV (aQ dQ (aQ dQ (aQ dQ (aQ cL (aQ dQ bT))))) (d8 (jV (m:=m) (c:={c with parts:=x::ps})) (Z1 ?_));rw[g];exact gDF
     rw[x6 (by rw[a];simp)]at g;refine ZH ?_;exact gFN
    rw[x6 (fun h=>by omega)]at g;exact gFN
   refine aV (aQ dQ (aQ dQ (aQ dQ (aQ dQ (aQ dQ (aQ dQ bT)))))) ?_;refine cX (q+1) ⟨aH,fun j z hj N=>?_⟩ aH bM Y a7
   rcases xAD j q with h|h
   ·exact b j z h N
   have e:j=q:=aH;subst e;rw[B]at N;cases N
   cases hr:gN (Say.matO tag oct 0 [] []) x (cY nm c.vars c.parts y)with
   |none=>rfl
   |some ps=>rw[hr]at M;cases M
  refine cX (i+1) ⟨aH,fun j z hj N q2 k H=>?_⟩ aH bM Y a7
  rcases xAD j i with h|h
  ·exact G j z h N q2 k H
  have e:j=i:=aH;subst e;rw[A]at N;cases N;exact b q2 k (by have:=(xAI.1 H).1;omega) H
 have g:Say.matV nm tag oct vs keys c=(false,c):=Say.matV_none (fun j v hv q k H=>G j v (by have:=(xAI.1 hv).1;omega) hv q k H);refine ZB ?_;refine aV (aQ cL (aQ cL (aQ cL (aQ cL (aQ cL bT))))) (d8 (jV (m:=m) (c:=c)) (Z1 ?_));rw[g];exact gDF
def FH(a:Nat)(m:Msg)(hv:Value)(nm:Bool)(c:Co)(A:Bool)(e p:Int)(f:CInv c)(s:aP)(q:s.length<=100000)(K:Hl):Sp x3 213 [ptr a,str s] K [stq a m hv nm c A e p] (Ret fun v b L'=>v=str (cY nm c.vars c.parts s)/\b=K/\L'=[stq a m hv nm c A e p]):=by
 refine⟨⟨_,func213,Y,Y⟩,fun F w i=>?_⟩
 obtain⟨W,t,g,d,j⟩:=Jq i;have h:=wO [sl false dI d c.acts] (oL a m hv nm W t g d c.keep A e p c.vars c.parts s q f.vn f.small K);refine(h.2 F w j).mono fun x L ⟨b,L',⟨N,⟨v,M,O,C,G⟩,l⟩,le,r⟩=>⟨b,[stq a m hv nm c A e p],⟨v,M,O,C,Y⟩,le,?_⟩
 subst G;subst l
 exact r.imp jV
def vG{α:Type}{l:List α}{i:Nat}{x:α}(h:l[i]?=some x):l.drop i=x::l.drop (i+1):=by
 exact gGD
def Yh{tag n z:Int}(h:tag=1\/tag=2):Value.bool (if tag=1 then decide (n<z)else decide (z<n))=.bool (decide (tag=1/\n<z\/tag=2/\z<n)):=by
 congr 1
 rcases h with rfl|rfl
 ·rw[x7 rfl,decide_eq_decide];omega
 rw[x6 dD,decide_eq_decide];omega
def YU(a:6<=op)(b:op<=8)(h:matW op=gK):op=6:=by
 have:op=6\/op=7\/op=8:=aH;rcases this with rfl|rfl|rfl
 ·rfl
 ·cases h
 cases h
def YV(a:6<=op)(b:op<=8)(h:matW op=dK):op=7:=by
 have:op=6\/op=7\/op=8:=aH;rcases this with rfl|rfl|rfl
 ·cases h
 ·rfl
 cases h
def YW(a:6<=op)(b:op<=8)(h:¬matW op=gK)(l:¬matW op=dK):op=8:=by
 have:op=6\/op=7\/op=8:=aH;rcases this with rfl|rfl|rfl
 ·exact absurd Y h
 ·exact absurd Y l
 rfl
def VI{w:aP}(h:w=jO\/w=gO\/w=qF\/w=lE\/w=lF\/w=gK\/w=dK\/w=gL\/w=kJ\/w=mW)(a:¬w=jO)(b:¬w=gO)(l:¬w=qF)(z:¬w=lE)(F:¬w=lF)(G:¬w=kJ)(B:¬w=mW)(e:¬w=gK)(j:¬w=dK):w=gK\/w=dK\/w=gL:=by
 rcases h with h|h|h|h|h|h|h|h|h|h
 ·exact absurd h a
 ·exact absurd h b
 ·exact absurd h l
 ·exact absurd h z
 ·exact absurd h F
 ·exact absurd h e
 ·exact absurd h j
 ·exact .inr (.inr h)
 ·exact absurd h G
 exact absurd h B
def xA(p:Nat)(m:Msg)(hv:Value)(nm:Bool)(t:Tree):Prop:=∀K:Hl,∀v:Cell,RR K t [v] []->Ksl hdEl K hv m.hs->∀c,CInv c->Sp x3 220 [ptr p,v.1] K [stq p m hv nm c false 0 0] (Ret fun r a g=>r=.bool (Say.holds nm m t c).1/\CInv (Say.holds nm m t c).2/\(Say.holds nm m t c).2.vars=c.vars/\g=[stq p m hv nm (Say.holds nm m t c).2 false 0 0])
def Sf{l:Tree}(h:sOk 600 l)(e:wf l 1=true)(d:cnt l<=100000):(Say.elems l).length<=100000:=by
 have L:∀ {l:Tree},wf l 1=true->(Say.elems l).length<=cnt l:=by
  intro l;induction l with
  |tcons t l A i=>intro e;simp[wf]at e;have:=i e.2;simp only[Say.elems,List.length_cons,cnt];have:=Gw e.1;omega
  |tnil=>intro _;simp[Say.elems]
  |_=>intro e;simp[wf]at e
 exact xAR (L e) d
def wI(C:Nat)(m:Msg)(hv:Value)(nm:Bool)(hm:MsgOk m)(t:Tree)(hw:wf t 0=true)(ho:okT t=true)(hs:sOk 600 t)(jj:cnt t<=100000)(ih:(∀u,t=.not_ u->xA C m hv nm u)/\∀all l,t=.many all l->∀u∈Say.elems l,xA C m hv nm u):xA C m hv nm t:=by
 intro K v hr hh c B;obtain⟨b,w,tv,av,bv,tag,oct,n,rfl,hk,M⟩:=Say.rr_block hw hr;refine bL func220 Y ntmps220 Y Y fun F w=>ZL ?_;refine aX 19 Y (fun jp=>?_) (fun jp=>Z6 ?_)
 ·have ht:=Say.sh_const (c:=true) M jp;subst ht;refine Z9 ?_;exact⟨_,Y,Y,B,Y,Y⟩
 refine aX 21 Y (fun jq=>?_) (fun jq=>Z6 ?_)
 ·have ht:=Say.sh_const (c:=false) M jq;subst ht;refine Z9 ?_;exact⟨_,Y,Y,B,Y,Y⟩
 refine aX 23 Y (fun jr=>?_) (fun jr=>Z6 ?_)
 ·obtain⟨u,v1,rfl,je,g⟩:=Say.sh_not M jr;have jg:=ih.1 u rfl K v1 je hh c B;refine Z7 ?_;refine aA (aW (k:=cC 340) (xs:=[v1]) (j:=0) iC Y (.known g) Y Y cD) Y (aA (cE (o:=0) (k:=cC 340) (xs:=[v1]) (u:=v1) ts340 Y (.known g) Y Y) Y (bA Y Y jg bQ Y ?_));rintro _ K2 _ ⟨rfl,E,S,rfl⟩ P;refine Z6 ?_;refine aA gAB Y (Z6 ?_);refine bG Y Y P ?_;exact⟨_,Y,Y,E,S,Y⟩
 refine aX 35 Y (fun js=>?_) (fun js=>Z6 ?_)
 ·obtain⟨l,xs,rfl,je,g⟩:=Say.sh_many (all:=true) M js;have jf:wf l 1=true:=by simpa[wf]using hw
  obtain⟨qc,jw⟩:=Say.rr_elems jf je;have jx:=ih.2 _ l rfl;have ql:=Sf (l:=l) hs jf (by simp only[cnt]at jj;omega);refine Z7 ?_;refine l5 (fun(i:Nat) (K3:Hl) (d:Co)=>K.le K3/\i<=xs.length/\CInv d/\d.vars=c.vars/\Say.holdsE nm m true ((Say.elems l).drop i) d=Say.holds nm m (.many true l) c) (fun i _ _=>[(0,ptr C),(1,ptr b),(6,i64 i)]) (fun _ K3 _=>K3) (fun _ _ d=>[stq C m hv nm d false 0 0]) (fun i _ _=>xs.length-i) 0 K c ⟨xAB _,xAA _,B,Y,by rw[xBX,<-Say.holdsL_E];rfl⟩ bM Y a7 ?_;intro i K3 d ⟨a,qa,hd,I,G⟩;have qi:=a _ _ hk;refine Z8 ?_;refine aA (bU (k:=cC 340) Y xBO Y (.known (g.mono a))) Y (Z3 ?_);refine aX 43 Y (fun qf=>?_) (fun qf=>?_)
  ·have Q:i<xs.length:=aH;obtain⟨x,hx⟩:∃x,xs[i]?=some x:=⟨xs[i]'Q,x4 Q⟩;obtain⟨u,hu⟩:∃u,(Say.elems l)[i]?=some u:=⟨(Say.elems l)[i]'(by omega),x4 aH⟩;have jb:(Say.elems l).drop i=u::(Say.elems l).drop (i+1):=vG hu;have jg:=jx u (x8 hu) K3 x ((jw i x u hx hu).mono a) (hh.mono a) d hd;refine ZC ?_;refine aA (aW (k:=cC 340) (xs:=xs) (j:=i) iC Y (.known (g.mono a)) Y Y Q) Y (aA (cE (o:=0) (k:=cC 340) (xs:=xs) (u:=x) ts340 Y (.known (g.mono a)) hx Y) Y (bA Y Y jg bQ Y ?_));rintro _ K2 _ ⟨rfl,E,S,rfl⟩ P;refine Z6 ?_;refine aA gAB Y (Z2 ?_);refine dZ 56 Y (fun jh=>?_) (fun jh=>?_)
   ·have W:Say.holdsE nm m true ((Say.elems l).drop i) d=Say.holds nm m u d:=(by rw[jb,Say.holdsE,x6 (by simpa using jh)]);rw[G]at W;refine ZD ?_;refine bG Y Y (x5 a P) ?_;exact⟨_,Y,by rw[W];revert jh;cases (Say.holds nm m u d).1<;>simp,by rw[W];exact E,by rw[W];exact S.trans I,by rw[W];rfl⟩
   refine Z8 ?_;exact gJ (i+1) _ _ ⟨x5 a P,aH,E,S.trans I,by rw[<-G,jb,Say.holdsE,x7 (by simpa using jh)]⟩ aH bM Y a7
  rw[xAS aH]at G;have G:(true,d)=Say.holds nm m (.many true l) c:=G;exact gE5
 refine aX 57 Y (fun jt=>?_) (fun jt=>Z6 ?_)
 ·obtain⟨l,xs,rfl,je,g⟩:=Say.sh_many (all:=false) M jt;have jf:wf l 1=true:=by simpa[wf]using hw
  obtain⟨qc,jw⟩:=Say.rr_elems jf je;have jx:=ih.2 _ l rfl;have ql:=Sf (l:=l) hs jf (by simp only[cnt]at jj;omega);refine Z7 ?_;refine l5 (fun(i:Nat) (K3:Hl) (d:Co)=>K.le K3/\i<=xs.length/\CInv d/\d.vars=c.vars/\Say.holdsE nm m false ((Say.elems l).drop i) d=Say.holds nm m (.many false l) c) (fun i _ _=>[(0,ptr C),(1,ptr b),(8,i64 i)]) (fun _ K3 _=>K3) (fun _ _ d=>[stq C m hv nm d false 0 0]) (fun i _ _=>xs.length-i) 0 K c ⟨xAB _,xAA _,B,Y,by rw[xBX,<-Say.holdsL_E];rfl⟩ bM Y a7 ?_;intro i K3 d ⟨a,qa,hd,I,G⟩;have qi:=a _ _ hk;refine Z8 ?_;refine aA (bU (k:=cC 340) Y xBO Y (.known (g.mono a))) Y (Z3 ?_);refine aX 65 Y (fun qg=>?_) (fun qg=>?_)
  ·have Q:i<xs.length:=aH;obtain⟨x,hx⟩:∃x,xs[i]?=some x:=⟨xs[i]'Q,x4 Q⟩;obtain⟨u,hu⟩:∃u,(Say.elems l)[i]?=some u:=⟨(Say.elems l)[i]'(by omega),x4 aH⟩;have jb:(Say.elems l).drop i=u::(Say.elems l).drop (i+1):=vG hu;have jg:=jx u (x8 hu) K3 x ((jw i x u hx hu).mono a) (hh.mono a) d hd;refine ZC ?_;refine aA (aW (k:=cC 340) (xs:=xs) (j:=i) iC Y (.known (g.mono a)) Y Y Q) Y (aA (cE (o:=0) (k:=cC 340) (xs:=xs) (u:=x) ts340 Y (.known (g.mono a)) hx Y) Y (bA Y Y jg bQ Y ?_));rintro _ K2 _ ⟨rfl,E,S,rfl⟩ P;refine Z8 ?_;refine dZ 77 Y (fun ji=>?_) (fun ji=>Z8 ?_)
   ·have W:Say.holdsE nm m false ((Say.elems l).drop i) d=Say.holds nm m u d:=(by rw[jb,Say.holdsE,x6 (by simpa using ji)]);rw[G]at W;refine ZD ?_;refine bG Y Y (x5 a P) ?_;exact⟨_,Y,by rw[W,ji],by rw[W];exact E,by rw[W];exact S.trans I,by rw[W];rfl⟩
   exact gJ (i+1) _ _ ⟨x5 a P,aH,E,S.trans I,by rw[<-G,jb,Say.holdsE,x7 (by simpa using ji)]⟩ aH bM Y a7
  rw[xAS aH]at G;have G:(false,d)=Say.holds nm m (.many false l) c:=G;exact gE5
 refine aX 78 Y (fun ju=>?_) (fun ju=>Z6 ?_)
 ·obtain⟨x,rfl,H,jz⟩:=Say.sh_exi M ju;have qb:=hs;refine Z7 ?_;refine bA Y Y (AG C m hv nm c false 0 0 B hm x av jz (by have:=qb.2;omega) (fun y O=>xAR (qb.1 y O) aH) _ H hh) bQ Y ?_;rintro _ K _ ⟨rfl,rfl,rfl⟩ -;refine Z7 ?_;exact⟨_,Y,Y,B,Y,Y⟩
 refine aX 86 Y (fun jv=>?_) (fun jv=>Z6 ?_)
 ·have ht:=Say.sh_siz M jv;subst ht;refine qO fun nv vv cv qr=>?_;have L:tag=1\/tag=2:=by simpa[okT]using ho
  refine aI (cN [13] [] mixed gAD (cM _) (ZD ?_));refine gY Y (.none Y) Y Y Y Y (Cf m.size n tag _) Y (Z6 ?_);refine d8 (jV (m:=m) (c:=c)) (Z1 ?_);exact⟨_,Y,Yh L,B,Y,Y⟩
 refine aX 102 Y (fun q=>?_) (fun q=>Z6 ?_)
 ·obtain⟨op,p,ya,rfl,ja,H,jc⟩:=Say.sh_mat M (.inl q);obtain⟨s,A,jk,jl⟩:=hs;have jd:op=6:=by have f:=ho;simp[okT]at f;exact YU f.2.2.1 f.2.2.2 (ja.symm.trans q)
  have L:1<=tag/\tag<=3:=by have f:=ho;simp[okT]at f;exact⟨f.1,f.2.1⟩
  subst jd;have qj:=sI (N:=0) (nm:=nm) (c:=c) hm (names:=p);have qh:=De (m:=m) (names:=p);refine Z7 ?_;refine bA Y Y (uT C m hv nm c false 0 0 B hm p av aH (fun y O=>xAR (s y O) aH) _ H hh) bQ Y ?_;rintro qd K _ ⟨rfl,rfl⟩ -;refine Z4 ?_;refine cN [14] [14] mixed gAD (cM _) (ZE ?_);refine eR Y (.none Y) Y Y Y (mD C m hv nm c B qd bv (jP nm m c p) ya tag oct L aH aH (uI hm) (fun y O=>xAR (A y O) aH) _ jc) bQ Y ?_;rintro _ K _ ⟨rfl,rfl,rfl⟩ -;refine Z7 ?_;exact⟨_,Y,Y,B.matV (uI hm),q9,Y⟩
 refine aX 125 Y (fun r=>?_) (fun r=>?_)
 ·obtain⟨op,p,ya,rfl,ja,H,jc⟩:=Say.sh_mat M (.inr (.inl r));obtain⟨s,A,jk,jl⟩:=hs;have jd:op=7:=by have f:=ho;simp[okT]at f;exact YV f.2.2.1 f.2.2.2 (ja.symm.trans r)
  have L:1<=tag/\tag<=3:=by have f:=ho;simp[okT]at f;exact⟨f.1,f.2.1⟩
  subst jd;have qj:=sI (N:=0) (nm:=nm) (c:=c) hm (names:=p);have qh:=De (m:=m) (names:=p);refine Z7 ?_;refine bA Y Y (Ce C m hv nm c false 0 0 p av aH (fun y O=>xAR (s y O) aH) _ H) bQ Y ?_;rintro qe K _ ⟨rfl,rfl⟩ -;refine Z4 ?_;refine cN [14] [14] mixed gAD (cM _) (ZE ?_);refine eR Y (.none Y) Y Y Y (mD C m hv nm c B qe bv (p.flatMap (kV m)) ya tag oct L aH aH (C0 hm) (fun y O=>xAR (A y O) aH) _ jc) bQ Y ?_;rintro _ K _ ⟨rfl,rfl,rfl⟩ -;refine Z7 ?_;exact⟨_,Y,Y,B.matV (C0 hm),q9,Y⟩
 obtain⟨op,p,ya,rfl,ja,H,jc⟩:=Say.sh_mat M (VI (Say.sh_cases M) jp jq jr js jt ju jv q r);obtain⟨s,A,jk,jl⟩:=hs;have jd:op=8:=by have f:=ho;simp[okT]at f;exact YW f.2.2.1 f.2.2.2 (fun e=>q (ja.trans e)) (fun e=>r (ja.trans e))
 have L:1<=tag/\tag<=3:=by have f:=ho;simp[okT]at f;exact⟨f.1,f.2.1⟩
 subst jd;refine ZF ?_;refine jC (fun(i:Nat) (sv:Value)=>i<=p.length) (fun i sv=>[(0,ptr C),(1,ptr b),(12,sv),(13,i64 i)]) (fun _ _=>K) (fun i sv=>[sl false (aZ 9) sv ((p.take i).map (cY nm c.vars c.parts)),stq C m hv nm c false 0 0]) (fun i _=>p.length-i) 0 (.slice none 0 0) (xAA _) bM Y (eO (aZ 9)) ?_;intro i sv qa;refine Z8 ?_;refine aA (bU (k:=aZ 9) Y xAC Y (.known H)) Y (Z3 ?_);refine aX 154 Y (fun jy=>?_) (fun jy=>?_)
 ·have Q:i<p.length:=aH;obtain⟨x,hx⟩:∃x,p[i]?=some x:=⟨p[i]'Q,x4 Q⟩;have qc:=s x (x8 hx);refine ZC ?_;refine aA (aW (k:=aZ 9) (j:=i) b0 Y (.known H) Y Y Q) Y (aA (cE (o:=0) (k:=aZ 9) ts9 Y (.known H) hx Y) Y (bA Y Y (FH C m hv nm c false 0 0 B x aH _) bQ Y ?_));rintro _ K _ ⟨rfl,rfl,rfl⟩ -;refine Z6 ?_;refine cG (bJ (z0:=[(str [])]) b0 tz9 Y Y Y Y cW) Y ?_;rintro _ K _ ⟨qp,rfl,rfl,rfl⟩ -;refine cG (dJ (k:=(aZ 9)) (ys:=[cY nm c.vars c.parts x]) eE Y Y (.there (.there .here)) (fun w j=>dC xAC (SeesSl.at (.blk aL Y Y) j)) gAG gAG) Y ?_;rintro qq K _ ⟨rfl,rfl,qk⟩ -;refine Z9 ?_;refine aV (aQ cL (aQ dQ bT)) ?_;exact d9 (i+1) _ aH aH bM Y (fun _ h=>by rw[show (p.take (i+1)).map (cY nm c.vars c.parts)=(p.take i).map (cY nm c.vars c.parts)++[cY nm c.vars c.parts x]from by rw[xA2,hx];simp];exact h)
 rw[xAJ aH];refine Z6 ?_;refine cN [14] [14] mixed gAD (cM _) (ZE ?_);refine eR Y (.none Y) Y Y Y (mD C m hv nm c B sv bv (p.map (cY nm c.vars c.parts)) ya tag oct L (by rw[xAW];omega) aH (fun y O=>by obtain⟨z,hz,rfl⟩:=xBM.1 O;exact iP (xAR (s z hz) aH)) (fun y O=>xAR (A y O) aH) _ jc) bQ Y ?_;rintro _ K _ ⟨rfl,rfl,rfl⟩ -;refine Z5 ?_;exact⟨_,Y,Y,B.matV (fun y O=>by obtain⟨z,hz,rfl⟩:=xBM.1 O;exact iP (xAR (s z hz) aH)),q9,Y⟩
end
end Go.Proofs
end
section
namespace Go.Say
open Go.Syn Go.Mach Go.SL Go.Proofs
def elemsC:Tree->List Tree
 | .ccons t l=>t::elemsC l
 |_=>[]
def runE(nm:Bool)(m:Msg):List Tree->Co->Res (Bool×Co)
 | [],c=>.ok (false,c)
 |x::l,c=>match cmd nm m x c with
  | .error e=>.error e
  | .ok r=>if r.1=true then .ok r else runE nm m l r.2
def run_E{nm:Bool}{m:Msg}:∀ {l:Tree} {c:Co},wf l 3=true->run nm m l c=runE nm m (elemsC l) c
 | .ccons x l,c,h=>by
  simp[wf]at h
  show run nm m (.ccons x l) c=runE nm m (x::elemsC l) c
  simp only[run,runE];cases cmd nm m x c with
  |error e=>rfl
  |ok r=>simp only[];rw[run_E (l:=l) h.2]
 | .cnil,c,_=>rfl
 | .const _,c,h=>by simp[wf]at h
 | .not_ _,c,h=>by simp[wf]at h
 | .many _ _,c,h=>by simp[wf]at h
 | .mat _ _ _ _ _,c,h=>by simp[wf]at h
 | .exi _,c,h=>by simp[wf]at h
 | .siz _ _,c,h=>by simp[wf]at h
 | .tnil,c,h=>by simp[wf]at h
 | .tcons _ _,c,h=>by simp[wf]at h
 | .plain _,c,h=>by simp[wf]at h
 | .act _ _ _,c,h=>by simp[wf]at h
 | .set_ _ _ _,c,h=>by simp[wf]at h
 | .iff _,c,h=>by simp[wf]at h
 | .bnil,c,h=>by simp[wf]at h
 | .bcons _ _ _,c,h=>by simp[wf]at h
 | .belse _ _,c,h=>by simp[wf]at h
def rr_cmds{K:Hl}:∀ {l:Tree} {xs:List Cell},wf l 3=true->RR K l xs []->xs.length=(elemsC l).length/\∀(i:Nat) x t,xs[i]?=some x->(elemsC l)[i]?=some t->RR K t [x] []
 | .cnil,xs,_,⟨h,_⟩=>by subst h;exact⟨Y,fun i x t h=>by simp at h⟩
 | .ccons t l,xs,b,⟨_,v,g,e,c,d⟩=>by
  subst e;simp[wf]at b;obtain⟨f,z⟩:=rr_cmds (l:=l) b.2 d;refine⟨by simp[elemsC,f],fun i x u a C=>?_⟩
  cases i with
  |zero=>simp[elemsC]at a C;subst a;subst C;exact c
  |succ i=>exact z i x u (by simpa using a) (by simpa[elemsC]using C)
def brL:Tree->List (Tree×Tree)
 | .bcons t b l=>(t,b)::brL l
 |_=>[]
def brO:Tree->Option Tree
 | .bcons _ _ l=>brO l
 | .belse b _=>some b
 |_=>none
def brsE(nm:Bool)(m:Msg)(o:Option Tree):List (Tree×Tree)->Co->Res (Bool×Co)
 | [],c=>match o with
  |some b=>run nm m b c
  |none=>.ok (false,c)
 |x::l,c=>if (holds nm m x.1 c).1=true then run nm m x.2 (holds nm m x.1 c).2 else brsE nm m o l (holds nm m x.1 c).2
def brs_E{nm:Bool}{m:Msg}:∀ {l:Tree} {c:Co},wf l 4=true->brs nm m l c=brsE nm m (brO l) (brL l) c
 | .bcons t b l,c,h=>by
  simp[wf]at h
  show brs nm m (.bcons t b l) c=brsE nm m (brO l) ((t,b)::brL l) c
  simp only[brs,brsE];rw[brs_E (l:=l) h.2.2]
 | .belse b l,c,_=>by simp only[brs,brsE,brL,brO]
 | .bnil,c,_=>by simp only[brs,brsE,brL,brO]
 | .const _,c,h=>by simp[wf]at h
 | .not_ _,c,h=>by simp[wf]at h
 | .many _ _,c,h=>by simp[wf]at h
 | .mat _ _ _ _ _,c,h=>by simp[wf]at h
 | .exi _,c,h=>by simp[wf]at h
 | .siz _ _,c,h=>by simp[wf]at h
 | .tnil,c,h=>by simp[wf]at h
 | .tcons _ _,c,h=>by simp[wf]at h
 | .plain _,c,h=>by simp[wf]at h
 | .act _ _ _,c,h=>by simp[wf]at h
 | .set_ _ _ _,c,h=>by simp[wf]at h
 | .iff _,c,h=>by simp[wf]at h
 | .cnil,c,h=>by simp[wf]at h
 | .ccons _ _,c,h=>by simp[wf]at h
def rr_brs{K:Hl}:∀ {l:Tree} {xs ys:List Cell},wf l 4=true->RR K l xs ys->xs.length=(brL l).length/\(∀(i:Nat) x P,xs[i]?=some x->(brL l)[i]?=some P->RR K P.1 [x] []/\∃y N,ys[i]?=some y/\RR K P.2 N []/\Ksl (cC 333) K y.1 N)/\
  match brO l with
  |none=>ys.length=xs.length
  |some b=>ys.length=xs.length+1/\∃y N,ys[xs.length]?=some y/\RR K b N []/\Ksl (cC 333) K y.1 N
 | .bnil,xs,ys,_,⟨h,a⟩=>by subst h;subst a;exact⟨Y,fun i x t h=>by simp at h,rfl⟩
 | .belse b l,xs,ys,_,⟨_,h,e,N,a,c,z⟩=>by
  subst h;subst a
  exact⟨Y,fun i x t h=>by simp at h,rfl,e,N,rfl,c,z⟩
 | .bcons t b l,xs,ys,g,⟨v,w,e,A,N,M,O,u,a,c,z⟩=>by
  subst M;subst O
  simp[wf]at g;obtain⟨Q,j,I⟩:=rr_brs (l:=l) g.2.2 z;refine⟨by simp[brL,Q],fun i x P d hp=>?_,?_⟩
  ·cases i with
   |zero=>simp[brL]at d hp;subst d;subst hp;exact⟨u,e,N,Y,a,c⟩
   |succ i=>exact j i x P (by simpa using d) (by simpa[brL]using hp)
  show match brO l with|none=>_|some b=>_
  cases q:brO l with
  |none=>rw[q]at I;simp[I]
  |some B=>
   rw[q]at I;obtain⟨p,y,f,r,s,H⟩:=I;exact⟨by simp[p],y,f,by simpa using r,s,H⟩
section
variable{K:Hl}{t:Tree}{b:Nat}{w:aP}{tv av bv:Value}{tag p:Int}
def CSh(K:Hl)(t:Tree)(w:aP)(av:Value)(tag:Int)(tv bv:Value)(p:Int):Prop:=
 (∃B,t=.plain B/\w=if B=14 then l6 else jH)\/(∃k a,t=.act k a p/\w=actW k/\Ksl (aZ 9) K av (if k=1 then []else [a]))\/
 (∃n v,t=.set_ n v tag/\w=sE/\Ksl (aZ 9) K av [n,v])\/(∃s x b,t=.iff s/\w=txIf/\RR K s x b/\Ksl (cC 340) K tv x/\Ksl (cC 240) K bv b)
theorem rr_cblock{v:Cell}(e:wf t 2=true)(h:RR K t [v] []):∃b w av tag tv bv p,v=pcl b/\K b=some (cmO w av tag tv bv p)/\CSh K t w av tag tv bv p:=by
 cases t<;>grind [wf,RR,CSh]
def uB(k:Int):actW k=pI\/actW k=fO\/actW k=gH\/actW k=hU:=by unfold actW;split;simp;split;simp;split<;>simp
def GW(op:Int):(if op=14 then l6 else jH)=l6\/(if op=14 then l6 else jH)=jH:=by split<;>simp
def csh_cases(h:CSh K t w av tag tv bv p):w=l6\/w=jH\/w=pI\/w=fO\/w=gH\/w=hU\/w=sE\/w=txIf:=by
 rcases h with ⟨B,_,e⟩|⟨k,_,_,e,_⟩|⟨_,_,_,e,_⟩|⟨_,_,_,_,e,_⟩
 ·rcases GW B with h|h<;>rw[h]at e<;>simp[e]
 ·rcases uB k with h|h|h|h<;>rw[h]at e<;>simp[e]
 ·simp[e]
 simp[e]
def csh_plain(h:CSh K t w av tag tv bv p)(a:w=l6\/w=jH)(q:okT t=true):t=.plain (if w=l6 then 14 else 13):=by
 rcases h with ⟨B,rfl,e⟩|⟨k,_,_,e,_⟩|⟨_,_,_,e,_⟩|⟨_,_,_,_,e,_⟩
 ·simp[okT]at q;rcases q with rfl|rfl<;>rw[e]<;>rfl
 all_goals exfalso;revert a;rw[e]
 ·rcases uB k with h|h|h|h<;>rw[h]<;>decide
 ·decide
 decide
def csh_act{k:Int}(h:CSh K t w av tag tv bv p)(b:w=actW k)(d:1<=k/\k<=4)(q:okT t=true):∃a,t=.act k a p/\Ksl (aZ 9) K av (if k=1 then []else [a]):=by
 have z:∀x:Int,1<=x->x<=4->x=1\/x=2\/x=3\/x=4:=fun x c f=>by omega
 rcases h with ⟨B,_,e⟩|⟨j,a,rfl,e,c⟩|⟨_,_,_,e,_⟩|⟨_,_,_,_,e,_⟩
 ·exfalso;revert b;rw[e];rcases GW B with h|h<;>rw[h]<;>rcases uB k with h|h|h|h<;>rw[h]<;>decide
 ·simp[okT]at q;have:j=k:=by
   revert b;rw[e]
   rcases z j q.1 q.2 with rfl|rfl|rfl|rfl<;>rcases z k d.1 d.2 with rfl|rfl|rfl|rfl<;>decide
  subst this;exact⟨a,Y,c⟩
 all_goals exfalso;revert b;rw[e]
 ·rcases uB k with h|h|h|h<;>rw[h]<;>decide
 rcases uB k with h|h|h|h<;>rw[h]<;>decide
def csh_set(h:CSh K t w av tag tv bv p)(a:w=sE):∃n v,t=.set_ n v tag/\Ksl (aZ 9) K av [n,v]:=by
 rcases h with ⟨B,_,e⟩|⟨k,_,_,e,_⟩|⟨n,v,e,_,b⟩|⟨_,_,_,_,e,_⟩
 ·exfalso;revert a;rw[e];rcases GW B with h|h<;>rw[h]<;>decide
 ·exfalso;revert a;rw[e];rcases uB k with h|h|h|h<;>rw[h]<;>decide
 ·exact⟨n,v,e,b⟩
 exact gEB
def csh_if(h:CSh K t w av tag tv bv p)(a:w=txIf):∃s xs ys,t=.iff s/\RR K s xs ys/\Ksl (cC 340) K tv xs/\Ksl (cC 240) K bv ys:=by
 rcases h with ⟨B,_,e⟩|⟨k,_,_,e,_⟩|⟨_,_,_,e,_⟩|⟨s,xs,ys,e,_,b⟩
 ·exfalso;revert a;rw[e];rcases GW B with h|h<;>rw[h]<;>decide
 ·exfalso;revert a;rw[e];rcases uB k with h|h|h|h<;>rw[h]<;>decide
 ·exact gEB
 exact⟨s,xs,ys,e,b⟩
end
end Go.Say
end
end
