/- Part 17 of what the proof stands on: walks and plain laws. Conditions: as each theorem says. -/
import Derived.Test.YthopmddkpdehiaaGreatDoorA16
set_option linter.unusedVariables false
set_option linter.unusedSimpArgs false
set_option linter.defProp false
set_option maxRecDepth 4000
set_option maxHeartbeats 1000000
section
attribute [local irreducible] Go.SL.T Go.SL.OL Go.SL.D Go.SL.DL Go.SL.Ev Go.SL.Ef Go.SL.EfS
section
namespace Go.Proofs
open Go Go.SL Go.Syn Go.Mach Tryz
open Go.Say (Co)
open Go.Cmp (cnt)
section
variable{en:Bool}{d:Co}{e p:Int}{l:List Tree}{i:Nat}{W:Res (Bool×Co)}{t y:Tree}
def LC(sb:Nat)(m:Msg)(hv:Value)(nm:Bool)(B:MsgOk m):∀t:Tree,okT t=true->sOk 600 t->cnt t<=100000->(wf t 0=true->xA sb m hv nm t)/\(wf t 1=true->∀u∈Say.elems t,xA sb m hv nm u):=by
 intro t;induction t with
 |not_ t w=>
  intro q c d;refine⟨fun a=>wI sb m hv nm B _ a q c d ⟨fun u e=>?_,fun b l e=>(by cases e)⟩,fun a=>by simp[wf]at a⟩
  exact gH5
 |many b l w=>
  intro q c d;refine⟨fun a=>wI sb m hv nm B _ a q c d ⟨fun u e=>(by cases e),fun f H e=>?_⟩,fun a=>by simp[wf]at a⟩
  exact gGQ
 |tcons t l A i=>
  intro q c d;refine⟨fun a=>by simp[wf]at a,fun a u C=>?_⟩
  simp[wf]at a;simp[okT]at q;simp only[cnt]at d;rcases List.mem_cons.1 C with rfl|C
  ·exact(A q.1 c.1 aH).1 a.1
  exact(i q.2 c.2 aH).2 a.2 u C
 |tnil=>intro q c d;exact⟨fun a=>by simp[wf]at a,fun a u C=>by simp[Say.elems]at C⟩
 |_=>intro q c d;exact⟨fun a=>wI sb m hv nm B _ a q c d ⟨fun u e=>(by cases e),fun b l e=>(by cases e)⟩,fun a=>gA1⟩
def tD(r:Res (Bool×Co))(d:Co)(en:Bool)(e p:Int):Prop:=match r with
 | .error y=>en=true/\e=y.1/\p=y.2
 | .ok q=>d=q.2/\en=q.1/\e=0/\p=0
section
variable{E:Env}{x0:Exit}{fr:Fr}{K:Hl}{L:List Asn}{Q:Post}{sb:Nat}{m:Msg}{hv:Value}{nm:Bool}{r:Res (Bool×Co)}
attribute [local semireducible] Go.SL.T Go.SL.OL Go.SL.D Go.SL.DL Go.SL.Ev Go.SL.Ef Go.SL.EfS in
def Af(h:∀d en e p,tD r d en e p->D E x0 fr K (stq sb m hv nm d en e p::L) Q):D E x0 fr K (sto sb m hv nm r::L) Q:=by
 intro a w f i;cases r with
 |ok q=>exact h q.2 q.1 0 0 ⟨Y,Y,Y,Y⟩ a w f i
 |error y=>
  obtain⟨g,⟨j,G,⟨c,l⟩,v,hd,e⟩,b⟩:=i.rep;exact h c true y.1 y.2 ⟨Y,Y,Y⟩ a w f ⟨i.os,i.tape,i.output,i.size,g,⟨j,G,l,v,hd,e⟩,b⟩
def Yi(c:tD r d en e p):∀h,Sat (stq sb m hv nm d en e p::L) h->Sat (sto sb m hv nm r::L) h:=by
 intro h a;cases r with
 |ok q=>obtain⟨rfl,rfl,rfl,rfl⟩:=c;exact a
 |error y=>obtain⟨rfl,rfl,rfl⟩:=c;exact CD h a
end
def SOk(n:Nat)(r:Res (Bool×Co)):Prop:=∀q,r=.ok q->CInv q.2/\q.2.vars.length<=n
section
variable{nm:Bool}{m:Msg}{c:Co}
def AJ{k:Int}{a:aP}(h:CInv c):SOk (c.vars.length+1) (Say.cmd nm m (.act k a p) c):=by
 intro q g;simp only[Say.cmd]at g;cases s:Say.act k (Say.actArg nm k a c) p c with
 |error e=>rw[s]at g;cases g
 |ok d=>
  rw[s]at g;cases g
  have b:∀x,Say.addX x p c=.ok d->CInv d/\d.vars.length<=c.vars.length+1:=by
   intro x b;unfold Say.addX at b;split at b
   ·cases b;exact gGP
   split at b
   ·cases b
   split at b
   ·cases b
   cases b;exact⟨⟨h.vn,h.vars,h.parts,by have:=h.acts;simp;omega,fun e=>by cases e⟩,Nat.le_succ _⟩
  unfold Say.act at s;split at s
  ·cases s
  split at s
  ·cases s
  exact b _ s
def MN{n v:aP}{t:Int}(h:CInv c)(u:c.vars.length+1<=1000000):SOk (c.vars.length+1) (Say.cmd nm m (.set_ n v t) c):=by
 intro q g;simp only[Say.cmd]at g;cases g
 have a:=AQ c.vars n (Say.setV t (cY nm c.vars c.parts v));refine⟨⟨by simp only;omega,fun f=>?_,h.parts,h.acts,h.keep⟩,a⟩
 simp only;rw[BD];split
 ·unfold Say.setV;exact xAR (List.length_take_le _ _) aH
 exact h.vars f
def FM{op:Int}(h:CInv c):SOk (c.vars.length+1) (Say.cmd nm m (.plain op) c):=by
 intro q g;simp only[Say.cmd]at g;split at g
 ·cases g;exact⟨h,Nat.le_succ _⟩
 cases g;exact gGP
end
def cntL(l:List Tree):Nat:=(l.map cnt).sum
def N4(h:wf t 3=true):cntL (Say.elemsC t)=cnt t:=by
 induction t with
 |ccons x l A i=>simp[wf]at h;have:=i h.2;unfold cntL at*;simp only[Say.elemsC,List.map_cons,List.sum_cons,cnt];omega
 |cnil=>rfl
 |_=>simp[wf]at h
def HN(h:l[i]?=some y):cntL (l.drop i)=cnt y+cntL (l.drop (i+1)):=by rw[vG h];simp[cntL]
def U7(h:wf t 3=true):(Say.elemsC t).length<=cnt t:=by
 induction t with
 |ccons x l A i=>simp[wf]at h;have:=i h.2;have:=Aa h.1;simp only[Say.elemsC,List.length_cons,cnt];omega
 |cnil=>exact xAA _
 |_=>simp[wf]at h
def RnI(nm:Bool)(m:Msg)(W:Res (Bool×Co))(n:Nat)(rest:List Tree)(d:Co)(en:Bool)(e p:Int):Prop:=
 (en=false/\e=0/\p=0/\CInv d/\d.vars.length+cntL rest<=n/\Say.runE nm m rest d=W)\/(en=true/\tD W d true e p/\SOk n W)
def V2{nm:Bool}{m:Msg}{n:Nat}{a:Co}(t:l[i]?=some y)(r:d.vars.length+cntL (l.drop i)<=n)(A:Say.runE nm m (l.drop i) d=W)(c:tD (Say.cmd nm m y d) a en e p)(j:SOk (d.vars.length+cnt y) (Say.cmd nm m y d)):RnI nm m W n (l.drop (i+1)) a en e p:=by
 rw[vG t]at A;rw[HN t]at r;simp only[Say.runE]at A;cases g:Say.cmd nm m y d with
 |error x=>
  rw[g]at A c;obtain⟨rfl,rfl,rfl⟩:=c;exact .inr ⟨Y,by subst A;exact⟨Y,Y,Y⟩,by subst A;intro q h;cases h⟩
 |ok q=>
  rw[g]at A c j;obtain⟨rfl,rfl,rfl,rfl⟩:=c;obtain⟨f,s⟩:=j q rfl;obtain⟨b,N⟩:=q;simp only at*;cases b with
  |true=>rw[x7 rfl]at A;exact .inr ⟨Y,by subst A;exact⟨Y,Y,Y,Y⟩,by subst A;intro q h;cases h;exact⟨f,by simp only;omega⟩⟩
  |false=>exact .inl ⟨Y,Y,Y,f,aH,by rw[<-A,x6 cD]⟩
def XR{nm:Bool}{m:Msg}{n:Nat}{rest:List Tree}(h:RnI nm m W n rest d en e p)(i:en=true\/rest=[]):tD W d en e p/\SOk n W:=by
 rcases h with ⟨rfl,rfl,rfl,a,b,l⟩|⟨rfl,a,b⟩
 ·rcases i with i|rfl
  ·cases i
  subst l;exact⟨⟨Y,Y,Y,Y⟩,fun q h=>by cases h;exact⟨a,by simp only;omega⟩⟩
 exact⟨a,b⟩
def Mm(sb:Nat)(m:Msg)(hv:Value)(nm:Bool)(t:Tree):Prop:=∀(K:Hl) (q:Value) (L:List Cell),Ksl (cC 333) K q L->RR K t L []->Ksl hdEl K hv m.hs->∀c,CInv c->c.vars.length+cnt t<=1000000->
 Sp x3 125 [ptr sb,q] K [stq sb m hv nm c false 0 0] (Ret fun r a g=>r=.tuple #[]/\SOk (c.vars.length+cnt t) (Say.run nm m t c)/\g=[sto sb m hv nm (Say.run nm m t c)])
def Mj(sb:Nat)(m:Msg)(hv:Value)(nm:Bool)(s:Tree):Prop:=(∀P∈Say.brL s,xA sb m hv nm P.1/\Mm sb m hv nm P.2/\cnt P.2<=cnt s)/\(∀b,Say.brO s=some b->Mm sb m hv nm b/\cnt b<=cnt s)/\(Say.brL s).length<=cnt s
def BI(nm:Bool)(m:Msg)(B:Res (Bool×Co))(n:Nat)(a:Nat)(o:Option Tree)(rest:List (Tree×Tree))(c:Bool)(d:Co)(en:Bool)(e p:Int):Prop:=
 (c=false/\en=false/\e=0/\p=0/\CInv d/\d.vars.length=a/\Say.brsE nm m o rest d=B)\/(c=true/\tD B d en e p/\SOk n B)
def QK{w:aP}(h:w=l6\/w=jH\/w=pI\/w=fO\/w=gH\/w=hU\/w=sE\/w=txIf)(a:¬w=l6)(b:¬w=jH)(l:¬w=pI)(z:¬w=fO)(F:¬w=gH)(G:¬w=hU)(B:¬w=sE)(e:¬w=txIf):False:=by
 rcases h with h|h|h|h|h|h|h|h
 ·exact a h
 ·exact b h
 ·exact l h
 ·exact z h
 ·exact F h
 ·exact G h
 ·exact B h
 exact e h
def Xo{nm:Bool}{m:Msg}{B:Res (Bool×Co)}{n i k x:Nat}{o:Option Tree}{l:List (Tree×Tree)}{c:Bool}(h:BI nm m B n i o (l.drop k) c d en e p)(j:(decide (k<x)&&!c)=false)(v:x<=k->l.drop k=[])(r:c=false->∀b,o=some b->False)(u:i<=n):tD B d en e p/\SOk n B:=by
 rcases h with ⟨rfl,rfl,rfl,rfl,a,f,g⟩|⟨rfl,a,f⟩
 ·rw[Bool.not_false,Bool.and_true,decide_eq_false_iff_not]at j;rw[v aH]at g;cases o with
  |some b=>exact(r Y b Y).elim
  |none=>subst g;exact⟨⟨Y,Y,Y,Y⟩,fun q h=>by cases h;exact⟨a,by simp only;omega⟩⟩
 exact⟨a,f⟩
def FN(sb:Nat)(m:Msg)(hv:Value)(nm:Bool)(t:Tree)(hw:wf t 3=true)(ih:∀y∈Say.elemsC t,wf y 2=true/\okT y=true/\sOk 600 y/\∀s,y=.iff s->Mj sb m hv nm s):Mm sb m hv nm t:=by
 intro K lv us hl hr hh c hc vz;obtain⟨vy,vj⟩:=Say.rr_cmds hw hr;have vx:=U7 hw;refine bL func125 Y ntmps125 Y Y fun F w=>Z6 ?_;refine l5 (fun(i:Nat) (S:Hl) (x:Co×Bool×Int×Int)=>K.le S/\i<=us.length/\RnI nm m (Say.run nm m t c) (c.vars.length+cnt t) ((Say.elemsC t).drop i) x.1 x.2.1 x.2.2.1 x.2.2.2) (fun i _ _=>[(0,ptr sb),(1,lv),(4,i64 i)]) (fun _ S _=>S) (fun _ _ x=>[stq sb m hv nm x.1 x.2.1 x.2.2.1 x.2.2.2]) (fun i _ _=>us.length-i) 0 K (c,false,0,0) ⟨xAB _,xAA _,.inl ⟨Y,Y,Y,hc,by rw[xBX,N4 hw];exact xAG _,by rw[xBX,Say.run_E hw]⟩⟩ bM Y a7 ?_;intro i S ⟨d,en,e,p⟩ ⟨jg,vs,hI⟩;simp only at hI;refine qO fun nv vv cv av=>?_;have qd:=hl.mono jg;have jz:=hh.mono jg;refine aI ?_;refine dU (fun(_:Unit)=>True) (fun _=>[(0,ptr sb),(1,lv),(4,i64 i),(18,.bool (decide (i<us.length)&&!en))]) (fun _=>S) (fun _=>[stq sb m hv nm d en e p]) ?_ ?_
 ·refine Z3 ?_;refine aA (bU (k:=cC 333) Y xCV Y (.known qd)) Y (Z2 ?_);refine bV 12 Y (fun qs=>Z9 ?_) (fun qs=>Z7 ?_)
  ·refine aA gAB Y (Z2 ?_);exact gE6
  exact gE6
 intro _ _;refine dZ 18 Y (fun I=>?_) (fun I=>?_)
 ·rw[Bool.and_eq_true,decide_eq_true_eq]at I;obtain⟨qa,I⟩:=I;have qy:en=false:=(by revert I;cases en<;>simp);subst qy;obtain⟨rfl,rfl,hd,vi,hW⟩:e=0/\p=0/\CInv d/\d.vars.length+cntL ((Say.elemsC t).drop i)<=c.vars.length+cnt t/\Say.runE nm m ((Say.elemsC t).drop i) d=Say.run nm m t c:=(by rcases hI with ⟨_,h1,h2,h3,h4,h5⟩|⟨h,_⟩;exact⟨h1,h2,h3,h4,h5⟩;cases h);clear hI;obtain⟨x,hx⟩:∃x,us[i]?=some x:=⟨us[i]'qa,x4 qa⟩;obtain⟨y,hy⟩:∃y,(Say.elemsC t)[i]?=some y:=⟨(Say.elemsC t)[i]'(by omega),x4 aH⟩;have vk:=x8 hy;obtain⟨qh,L,ji,qw⟩:=ih y vk;have vr:=HN hy;have vh:=(vj i x y hx hy).mono jg;obtain⟨b,w1,av,vp,tv,bv,pp,rfl,hk,M⟩:=Say.rr_cblock qh vh;refine Z2 ?_;refine Hq (fun(r:Hl) (x:Co×Bool×Int×Int)=>S.le r/\tD (Say.cmd nm m y d) x.1 x.2.1 x.2.2.1 x.2.2.2/\SOk (d.vars.length+cnt y) (Say.cmd nm m y d)) (fun _ _=>[(0,ptr sb),(1,lv),(4,i64 i)]) (fun r _=>r) (fun _ x=>[stq sb m hv nm x.1 x.2.1 x.2.2.1 x.2.2.2]) ?_ ?_
  ·refine Z5 ?_;refine aA (aW (k:=cC 333) (xs:=us) (j:=i) wV Y (.known qd) Y Y qa) Y (aA (cE (o:=0) (k:=cC 333) (xs:=us) (u:=pcl b) ts333 Y (.known qd) hx Y) Y (ZI ?_));refine aX 29 Y (fun jc=>?_) (fun jc=>Z6 ?_)
   ·have ht:=Say.csh_plain M (.inl jc) L;rw[x7 (show w1=l6 from jc)]at ht;subst ht;refine qO fun nv vv cv qr=>Z8 ?_
    (refine d8 (jV (m:=m) (c:=d)) ?_;exact oZ _ (d,true,0,0) ⟨xAB _,⟨Y,Y,Y,Y⟩,FM hd⟩ bM Y a7)
   refine aX 34 Y (fun jq=>?_) (fun jq=>Z6 ?_)
   ·have ht:=Say.csh_plain M (.inr jq) L;rw[x6 (show ¬w1=l6 from jc)]at ht;subst ht;refine qO fun nv vv cv qr=>Z8 ?_
    (refine d8 (jV (m:=m) (c:={d with keep:=false})) ?_;exact oZ _ ({d with keep:=false},false,0,0) ⟨xAB _,⟨Y,Y,Y,Y⟩,FM hd⟩ bM Y a7)
   refine aX 39 Y (fun jr=>?_) (fun jr=>Z6 ?_)
   ·obtain⟨l,rfl,H⟩:=Say.csh_act (k:=1) M jr dD L;refine Z6 ?_;refine bA Y Y (tP sb m hv nm d 1 [] pp hd dD cD _) bQ Y ?_;refine aCL (Z3 ?_)
    (refine Af fun N B G O g=>?_;exact oZ _ (N,B,G,O) ⟨xAB _,g,AJ hd⟩ bM Y a7)
   refine aX 47 Y (fun js=>?_) (fun js=>Z6 ?_)
   ·obtain⟨l,rfl,H⟩:=Say.csh_act (k:=2) M js dD L;have H:Ksl (aZ 9) S av [l]:=H;have jx:l.length<=600:=ji;refine cN [11] [11] mixed gAD (cM _) (Z5 ?_);refine aJ Y Y (.none Y) Y Y (aW (k:=aZ 9) (xs:=[l]) (j:=0) b0 Y (.known H) Y Y cD) Y (aJ Y Y (.none Y) Y Y (cE (o:=0) (k:=aZ 9) (xs:=[l]) (u:=l) ts9 Y (.known H) Y Y) Y (Z4 ?_));refine eR Y (.none Y) Y Y Y (tP sb m hv nm d 2 l pp hd dD aH _) bQ Y ?_;refine aCL (Z3 ?_)
    (refine Af fun N B G O g=>?_;exact oZ _ (N,B,G,O) ⟨xAB _,g,AJ hd⟩ bM Y a7)
   refine aX 61 Y (fun jt=>?_) (fun jt=>Z6 ?_)
   ·obtain⟨l,rfl,H⟩:=Say.csh_act (k:=3) M jt dD L;have H:Ksl (aZ 9) S av [l]:=H;have jx:l.length<=600:=ji;refine cN [11] [11] mixed gAD (cM _) (Z5 ?_);refine aJ Y Y (.none Y) Y Y (aW (k:=aZ 9) (xs:=[l]) (j:=0) b0 Y (.known H) Y Y cD) Y (aJ Y Y (.none Y) Y Y (cE (o:=0) (k:=aZ 9) (xs:=[l]) (u:=l) ts9 Y (.known H) Y Y) Y (Z4 ?_));refine eR Y (.none Y) Y Y Y (tP sb m hv nm d 3 l pp hd dD aH _) bQ Y ?_;refine aCL (Z3 ?_)
    (refine Af fun N B G O g=>?_;exact oZ _ (N,B,G,O) ⟨xAB _,g,AJ hd⟩ bM Y a7)
   refine aX 75 Y (fun ju=>?_) (fun ju=>Z6 ?_)
   ·obtain⟨l,rfl,H⟩:=Say.csh_act (k:=4) M ju dD L;have H:Ksl (aZ 9) S av [l]:=H;have jx:l.length<=600:=ji;refine cN [11] [11] mixed gAD (cM _) (Z5 ?_);refine aJ Y Y (.none Y) Y Y (aW (k:=aZ 9) (xs:=[l]) (j:=0) b0 Y (.known H) Y Y cD) Y (aJ Y Y (.none Y) Y Y (cE (o:=0) (k:=aZ 9) (xs:=[l]) (u:=l) ts9 Y (.known H) Y Y) Y (Z4 ?_));refine eR Y (.none Y) Y Y Y (tP sb m hv nm d 4 l pp hd dD aH _) bQ Y ?_;refine aCL (Z3 ?_)
    (refine Af fun N B G O g=>?_;exact oZ _ (N,B,G,O) ⟨xAB _,g,AJ hd⟩ bM Y a7)
   refine aX 89 Y (fun jv=>?_) (fun jv=>Z6 ?_)
   ·obtain⟨na,va,rfl,H⟩:=Say.csh_set M jv;have jx:na.length<=600/\va.length<=600:=ji;refine cN [17] [17] mixed gAD (cM _) (Z5 ?_);refine aJ Y Y (.none Y) Y Y (aW (k:=aZ 9) (xs:=[na,va]) (j:=0) b0 Y (.known H) Y Y cD) Y (aJ Y Y (.none Y) Y Y (cE (o:=0) (k:=aZ 9) (xs:=[na,va]) (u:=na) ts9 Y (.known H) Y Y) Y (Z4 ?_));refine aJ Y Y (.none Y) Y Y (aW (k:=aZ 9) (xs:=[na,va]) (j:=1) b0 Y (.known H) Y Y cD) Y (aJ Y Y (.none Y) Y Y (cE (o:=0) (k:=aZ 9) (xs:=[na,va]) (u:=va) ts9 Y (.known H) Y Y) Y (Z4 ?_));refine eR Y (.none Y) Y Y Y (FO sb m hv nm d na va vp hd aH _) bQ Y ?_;refine aCL (Z3 ?_)
    (refine Af fun N B G O g=>?_;exact oZ _ (N,B,G,O) ⟨xAB _,g,MN hd (by have:=Aa qh;omega)⟩ bM Y a7)
   refine aX 109 Y (fun jb=>?_) (fun jb=>?_)
   ·obtain⟨s,P,ys,rfl,vf,ve,vd⟩:=Say.csh_if M jb;have qq:wf s 4=true:=by simpa[wf]using qh
    obtain⟨qu,qv,jd⟩:=Say.rr_brs qq vf;obtain⟨qz,vb,vt⟩:=qw s rfl;have hB:=Say.brs_E (nm:=nm) (m:=m) (c:=d) qq;have vq:cnt (.iff s)=cnt s+1:=rfl;refine ZC ?_;refine m8 (fun(k:Nat) (r:Hl) (W:Bool) (x:Co×Bool×Int×Int)=>S.le r/\k<=P.length/\BI nm m (Say.brs nm m s d) (d.vars.length+cnt (.iff s)) d.vars.length (Say.brO s) ((Say.brL s).drop k) W x.1 x.2.1 x.2.2.1 x.2.2.2) (fun k _ W _=>[(0,ptr sb),(1,lv),(4,i64 i),(5,ptr b),(6,.bool W),(7,i64 k)]) (fun _ r _ _=>r) (fun _ _ _ x=>[stq sb m hv nm x.1 x.2.1 x.2.2.1 x.2.2.2]) (fun k _ _ _=>P.length-k) 0 S false (d,false,0,0) ⟨xAB _,xAA _,.inl ⟨Y,Y,Y,Y,hd,Y,by rw[xBX];exact hB.symm⟩⟩ bM Y a7 ?_;intro k r W ⟨z,en,e,p⟩ ⟨E,vu,hBI⟩;simp only at hBI;have vc:=E _ _ hk;have f:=ve.mono E;have C:=vd.mono E;refine aI ?_;refine dU (fun(_:Unit)=>True) (fun _=>[(0,ptr sb),(1,lv),(4,i64 i),(5,ptr b),(6,.bool W),(7,i64 k),(121,.bool (decide (k<P.length)&&!W))]) (fun _=>r) (fun _=>[stq sb m hv nm z en e p]) ?_ ?_
    ·refine Z6 ?_;refine aA (bU (k:=cC 340) Y xBO Y (.known f)) Y (Z2 ?_);refine bV 118 Y (fun qj=>Z3 ?_) (fun qj=>Z4 ?_)
     ·refine aA gAB Y (Z2 ?_);exact gE3
     exact gE3
    intro _ _;refine dZ 121 Y (fun Q=>?_) (fun Q=>Z5 ?_)
    ·rw[Bool.and_eq_true,decide_eq_true_eq]at Q;obtain⟨qb,Q⟩:=Q;have je:W=false:=(by revert Q;cases W<;>simp);subst je;obtain⟨rfl,rfl,rfl,jy,qp,hB4⟩:en=false/\e=0/\p=0/\CInv z/\z.vars.length=d.vars.length/\Say.brsE nm m (Say.brO s) ((Say.brL s).drop k) z=Say.brs nm m s d:=(by rcases hBI with ⟨_,h1⟩|⟨h,_⟩;exact h1;cases h);clear hBI;obtain⟨tx,ql⟩:∃x,P[k]?=some x:=⟨P[k]'qb,x4 qb⟩;obtain⟨pr,qe⟩:∃pr,(Say.brL s)[k]?=some pr:=⟨(Say.brL s)[k]'(by omega),x4 aH⟩;obtain⟨vg,yb,zs,jj,qf,qc⟩:=qv k tx pr ql qe;obtain⟨hH,jw,qx⟩:=qz pr (x8 qe);rw[vG qe]at hB4;simp only[Say.brsE]at hB4;refine ZC ?_;refine aA (aW (k:=cC 340) (xs:=P) (j:=k) iC Y (.known f) Y Y qb) Y (aA (cE (o:=0) (k:=cC 340) (xs:=P) (u:=tx) ts340 Y (.known f) ql Y) Y (bA Y Y (hH r tx (vg.mono E) (jz.mono E) z jy) bQ Y ?_));rintro _ K5 _ ⟨rfl,qk,qg,rfl⟩ v;have qg:=xAF List.length qg;have jp:=C.mono v;have vw:=v _ _ vc;refine Z8 ?_;refine dZ 133 Y (fun a=>?_) (fun a=>?_)
     ·rw[x7 a]at hB4;refine Z7 ?_;refine aA (aW (k:=cC 240) (xs:=ys) (j:=k) qC Y (.known jp) Y Y (xAI.1 jj).1) Y ?_;refine aA (cE (o:=0) (k:=cC 240) (xs:=ys) (u:=yb) ts240 Y (.known jp) jj Y) Y (bA Y Y (jw K5 yb.1 zs (qc.mono (x5 E v)) (qf.mono (x5 E v)) (jz.mono (x5 E v)) _ qk aH) bQ Y ?_);rintro _ K6 _ ⟨rfl,jf,rfl⟩ qi;refine Z8 ?_
      (refine Af fun N B G O g=>?_;exact jQ (k+1) _ (Say.holds nm m pr.1 z).1 (N,B,G,O) ⟨x5 E (x5 v qi),aH,.inr ⟨a,by rw[<-hB4];exact g,by rw[<-hB4];exact fun q hq=>⟨(jf q hq).1,by have:=(jf q hq).2;omega⟩⟩⟩ aH bM Y a7)
     rw[x6 (by rw[a];simp)]at hB4;refine Z8 ?_;exact jQ (k+1) _ (Say.holds nm m pr.1 z).1 ((Say.holds nm m pr.1 z).2,false,0,0) ⟨x5 E v,aH,.inl ⟨a,Y,Y,Y,qk,qg.trans qp,hB4⟩⟩ aH bM Y a7
    refine dU (fun(_:Unit)=>True) (fun _=>[(0,ptr sb),(1,lv),(4,i64 i),(5,ptr b),(157,.bool (!W&&decide (P.length<ys.length)))]) (fun _=>r) (fun _=>[stq sb m hv nm z en e p]) ?_ ?_
    ·refine cN [] [] mixed gAD (cM _) (Z1 ?_);refine aJ Y Y (.none Y) Y Y gAB Y (Z1 ?_);refine vF 145 Y (fun ja=>?_) (fun ja=>?_)
     ·refine Z4 ?_;refine aJ Y Y (.on Y Y Y) Y Y (bU (k:=cC 240) Y xCJ Y (.known C)) Y (Z4 ?_);refine aJ Y Y (.on Y Y Y) Y Y (bU (k:=cC 340) Y xBO Y (.known f)) Y (Z3 ?_);exact cB () trivial (.cons 0 Y (.cons 1 Y (.cons 4 Y (.cons 5 Y (.cons 157 (by rw[ja];first|rfl|(refine xAF (fun x=>some (Value.bool x)) ?_;rw[Bool.true_and,decide_eq_decide];omega)) .nil))))) Y a7
     refine ZD ?_;exact cB () trivial (.cons 0 Y (.cons 1 Y (.cons 4 Y (.cons 5 Y (.cons 157 (by rw[ja];first|rfl|(refine xAF (fun x=>some (Value.bool x)) ?_;rw[Bool.true_and,decide_eq_decide];omega)) .nil))))) Y a7
    intro _ _;refine dZ 157 Y (fun A=>?_) (fun A=>?_)
    ·rw[Bool.and_eq_true,decide_eq_true_eq]at A;obtain⟨A,za⟩:=A;have je:W=false:=(by revert A;cases W<;>simp);subst je;obtain⟨rfl,rfl,rfl,jy,qp,hB4⟩:en=false/\e=0/\p=0/\CInv z/\z.vars.length=d.vars.length/\Say.brsE nm m (Say.brO s) ((Say.brL s).drop k) z=Say.brs nm m s d:=(by rcases hBI with ⟨_,h1⟩|⟨h,_⟩;exact h1;cases h);rw[Bool.not_false,Bool.and_true,decide_eq_false_iff_not]at Q;rw[xAS aH]at hB4;obtain⟨ob,jh⟩:∃ob,Say.brO s=some ob:=(by cases ho:Say.brO s with|some ob=>exact⟨ob,Y⟩|none=>rw[ho]at jd;exact absurd jd aH);rw[jh]at jd hB4;obtain⟨zb,yb,zs,jj,qf,qc⟩:=jd;obtain⟨jw,qx⟩:=vb ob jh;have hB4:Say.run nm m ob z=Say.brs nm m s d:=hB4;refine cN [12] [12] mixed gAD (cM _) (Z9 ?_);refine aJ Y Y (.none Y) Y Y (bU (k:=cC 340) Y xBO Y (.known f)) Y (aJ Y Y (.none Y) Y Y (aW (k:=cC 240) (xs:=ys) (j:=P.length) qC Y (.known C) Y Y aH) Y (aJ Y Y (.none Y) Y Y (cE (o:=0) (k:=cC 240) (xs:=ys) (u:=yb) ts240 Y (.known C) jj Y) Y (eR Y (.none Y) Y Y Y (jw r yb.1 zs (qc.mono E) (qf.mono E) (jz.mono E) _ jy aH) bQ Y ?_)));rintro _ K6 _ ⟨rfl,jf,rfl⟩ qi;refine Z3 ?_
     (refine Af fun N B G O g=>?_;exact oZ _ (N,B,G,O) ⟨x5 E qi,by rw[show Say.cmd nm m (.iff s) d=Say.brs nm m s d from rfl,<-hB4];exact g,by rw[show Say.cmd nm m (.iff s) d=Say.brs nm m s d from rfl,<-hB4];exact fun q hq=>⟨(jf q hq).1,by have:=(jf q hq).2;omega⟩⟩ bM Y a7)
    have jl:=Xo hBI Q (by rw[qu];exact fun h=>xAS h) (by intro je ob jh;rw[jh]at jd;rw[je,Bool.not_false,Bool.true_and,decide_eq_false_iff_not]at A;exact A aH) aH;refine Z3 ?_;exact oZ _ (z,en,e,p) ⟨E,jl.1,jl.2⟩ bM Y a7
   exfalso
   exact QK (Say.csh_cases M) jc jq jr js jt ju jv jb
  intro r x ⟨vl,g,qt⟩;refine Z5 ?_;exact gJ (i+1) r x ⟨x5 jg vl,aH,V2 hy vi hW g qt⟩ aH bM Y a7
 have jk:=XR hI (by cases en with|true=>exact .inl Y|false=>right;rw[Bool.not_false,Bool.and_true,decide_eq_false_iff_not]at I;exact xAS aH);refine Z4 ?_;refine d8 (Yi jk.1) (dG Y jg ?_);exact⟨_,Y,Y,jk.2,Y⟩
end
def Qm(p:Nat)(m:Msg)(hv:Value)(nm:Bool)(y:Tree):Prop:=wf y 2=true/\okT y=true/\sOk 600 y/\∀s,y=.iff s->Mj p m hv nm s
def Tz(p:Nat)(m:Msg)(hv:Value)(nm:Bool)(B:MsgOk m):∀t:Tree,okT t=true->sOk 600 t->cnt t<=100000->(wf t 3=true->Mm p m hv nm t/\∀y∈Say.elemsC t,Qm p m hv nm y)/\(wf t 2=true->∀s,t=.iff s->Mj p m hv nm s)/\(wf t 4=true->Mj p m hv nm t):=by
 intro t;induction t with
 |cnil=>
  intro q c d;exact⟨fun a=>⟨FN p m hv nm _ a (fun y h=>(by simp[Say.elemsC]at h)),fun y h=>(by simp[Say.elemsC]at h)⟩,fun a=>gA1,fun a=>gA1⟩
 |ccons x l A i=>
  intro q c d;refine⟨fun a=>?_,fun a=>gA1,fun a=>gA1⟩
  have f:=a;simp[wf]at a;simp[okT]at q;simp only[cnt]at d;have L:∀y∈Say.elemsC (.ccons x l),Qm p m hv nm y:=by
   intro y g;rcases List.mem_cons.1 g with rfl|g
   ·exact⟨a.1,q.1,c.1,(A q.1 c.1 aH).2.1 a.1⟩
   exact((i q.2 c.2 aH).1 a.2).2 y g
  exact⟨FN p m hv nm _ f L,L⟩
 |iff s w=>
  intro q c d;refine⟨fun a=>gA1,fun a M e=>?_,fun a=>gA1⟩
  cases e;exact(w q c gCK).2.2 (by simpa[wf]using a)
 |bnil=>
  intro q c d;refine⟨fun a=>gA1,fun a=>gA1,fun a=>⟨fun P h=>(by simp[Say.brL]at h),fun b h=>(by cases h),(by simp[Say.brL])⟩⟩
 |belse b l A i=>
  intro q c d;refine⟨fun a=>gA1,fun a=>gA1,fun a=>⟨fun P h=>(by simp[Say.brL]at h),fun M h=>?_,(by simp[Say.brL])⟩⟩
  cases h
  simp[wf]at a;simp[okT]at q;simp only[cnt]at d ⊢;exact⟨((A q.1 c.1 aH).1 a.1).1,aH⟩
 |bcons t b l A i N=>
  intro q c d;refine⟨fun a=>gA1,fun a=>gA1,fun a=>?_⟩
  simp[wf]at a;simp[okT]at q;simp only[cnt]at d;obtain⟨r,u,z⟩:=(N q.2.2 c.2.2 aH).2.2 a.2.2;refine⟨fun P hp=>?_,fun M v=>?_,by simp only[Say.brL,List.length_cons,cnt];omega⟩
  ·rcases List.mem_cons.1 hp with rfl|hp
   ·exact⟨(LC p m hv nm B t q.1 c.1 aH).1 a.1,((i q.2.1 c.2.1 aH).1 a.2.1).1,by simp only[cnt];omega⟩
   obtain⟨Q,j,I⟩:=r P hp;exact⟨Q,j,by simp only[cnt];omega⟩
  obtain⟨Q,j⟩:=u M v;exact⟨Q,by simp only[cnt];omega⟩
 |_=>intro q c d;exact⟨fun a=>gA1,fun a M e=>(by cases e),fun a=>gA1⟩
def Bad(r:Res (Bool×Co)):Prop:=∀y,r=.error y->y.1≠0
section
variable{nm:Bool}{m:Msg}
def BK{k p:Int}{a:aP}{c:Co}:Bad (Say.cmd nm m (.act k a p) c):=by
 intro y t;simp only[Say.cmd]at t;cases s:Say.act k (Say.actArg nm k a c) p c with
 |ok d=>rw[s]at t;cases t
 |error O=>
  rw[s]at t;cases t
  unfold Say.act at s;split at s
  ·exact gGC
  split at s
  ·exact gGC
  unfold Say.addX at s;split at s
  ·cases s
  split at s
  ·exact gGC
  split at s
  ·exact gGC
  cases s
def Uv:∀t:Tree,(∀c,Bad (Say.run nm m t c))/\(∀c,Bad (Say.cmd nm m t c))/\∀c,Bad (Say.brs nm m t c):=by
 intro t;have ok:∀q:Bool×Co,Bad (.ok q):=fun q y h=>by cases h
 induction t with
 |ccons x l A i=>
  refine⟨fun c y d=>?_,fun c=>by simp only[Say.cmd];exact ok _,fun c=>by simp only[Say.brs];exact ok _⟩
  simp only[Say.run]at d;cases e:Say.cmd nm m x c with
  |error O=>rw[e]at d;cases d;exact A.2.1 c _ e
  |ok r=>
   rw[e]at d;simp only at d;split at d
   ·cases d
   exact i.1 _ y d
 |act k a p=>exact⟨fun c=>by simp only[Say.run];exact ok _,fun c=>BK,fun c=>by simp only[Say.brs];exact ok _⟩
 |plain B=>exact⟨fun c=>by simp only[Say.run];exact ok _,fun c=>by simp only[Say.cmd];split<;>exact ok _,fun c=>by simp only[Say.brs];exact ok _⟩
 |iff s w=>exact⟨fun c=>by simp only[Say.run];exact ok _,fun c=>by simp only[Say.cmd];exact w.2.2 c,fun c=>by simp only[Say.brs];exact ok _⟩
 |bcons t b l A i N=>exact⟨fun c=>by simp only[Say.run];exact ok _,fun c=>by simp only[Say.cmd];exact ok _,fun c=>by simp only[Say.brs];split;exact i.1 _;exact N.2.2 _⟩
 |belse b l A i=>exact⟨fun c=>by simp only[Say.run];exact ok _,fun c=>by simp only[Say.cmd];exact ok _,fun c=>by simp only[Say.brs];exact A.1 _⟩
 |_=>exact⟨fun c=>(by simp only[Say.run];exact ok _),fun c=>(by simp only[Say.cmd];exact ok _),fun c=>(by simp only[Say.brs];exact ok _)⟩
end
def ResV(r:Res (Bool×Co))(av:Value):Value:=.agg #[av,i64 (match r with| .error y=>y.1| .ok _=>0),i64 (match r with| .error y=>y.2| .ok _=>0)]
def qY(l:Nat)(m:Msg)(hv:Value)(nm:Bool)(r:Res (Bool×Co))(C:Bad r)(S:∀q,r=.ok q->CInv q.2)(d:Co)(A:Bool)(e p:Int)(a:tD r d A e p)(K:Hl):Sp x3 120 [ptr l] K [stq l m hv nm d A e p] (Ret fun v L L'=>∃av,(∃x n c,av=.slice x n c)/\v=ResV r av/\L=K/\L'=[sl false dI av (Say.out r).1]):=by
 refine bL func120 Y ntmps120 Y Y fun F w=>qO fun W E s av=>Z3 ?_;refine aCJ fun O=>ZC ?_;refine aX 7 Y (fun B=>?_) (fun B=>?_)
 ·obtain⟨y,rfl⟩:∃y,r=.error y:=(by cases r with|error y=>exact⟨y,Y⟩|ok q=>exact absurd a.2.2.1 B);obtain⟨rfl,rfl,rfl⟩:=a;refine aI (qK (anc:=[0,1,0,4,12,28,0,64,192,448,1023,2047]) (ord:=[0,2,3,4,5,6,7,8,9,1,10,11]) [1,11] [11] mixed gAD (aQ cL (aQ cL bT)) (aJ Y Y (.none Y) Y Y (dA EP yR cW) Y (Z8 ?_)));refine s6 Y Y (.none Y) Y Y (bJ (z0:=[.int .i64 0,(str [])]) jG E1 Y Y Y Y cW) Y ?_;refine aCJ fun b9=>?_;refine⟨_,(show Tks _ _ _ from (aQ dQ (aQ dQ bT))).sat,?_⟩
  refine aJ Y Y (.none Y) Y Y (dA tb146 tb146f cW) Y ?_;refine l7 Y Y (.none Y) Y (cQ ta146_3 Y Y Y bP (by first|rfl|decide|(simp[Value.oneCell'];done)) (.cons (.cons (.cons .nil))) (by first|rfl|(intro j I;simp))) ?_;rintro _ K _ ⟨rfl,rfl⟩ -;refine Z4 ?_;refine uAi ?_;refine d8 (xV (k:=dI) (xs:=[(1,[])]) Y) (o0 Y Y ta146_3 aL Y Y (xAB _) (aQ cL bT) ?_);exact⟨_,Y,_,⟨_,_,_,Y⟩,Y,Y,Y⟩
 obtain⟨⟨b,G⟩,rfl⟩:∃q,r=.ok q:=(by cases r with|ok q=>exact⟨q,Y⟩|error y=>exact absurd (a.2.1▸xBH.1 B) (C y Y));have u:CInv G:=S _ rfl;obtain⟨rfl,rfl,rfl,rfl⟩:d=G/\A=b/\e=0/\p=0:=a;refine ZB ?_;refine dZ 22 Y (fun g=>?_) (fun g=>?_)
 ·have i:=u.keep g;refine kQ (L':=pt O (bK [Value.slice none 0 0,i64 0,i64 0] 146)::[rsb l m hv nm W E s av d.keep A 0 0,sl false (aZ 9) W (d.vars.map (·.1)),sl false (aZ 9) E (d.vars.map (·.2)),sl false (aZ 9) s (d.parts.take 10),sl false dI av []]) (fun h P=>(by rw[<-i];exact P)) (Z2 ?_);refine aA (dA EP yR cW) Y (Z4 ?_);refine bA Y Y (FF l m hv nm W E s av d.keep A 0 [] (1,[]) 0 cD _) bQ Y ?_;rintro _ K _ ⟨rfl,rfl,M,H⟩ -;rw[show addA (1,[]) []=.ok [(1,[])]from rfl]at H;subst H;refine ZC ?_;refine aX 34 Y (fun f=>?_) (fun f=>?_)
  ·exact absurd Y f
  first|refine nX (fun h a=>iA (k:=dI) (z:=false) h (Tks.sat (show Tks [_] _ _ from .cons (.there .here) .nil) h a)) ?_|refine nX (fun h a=>iA (k:=dI) (z:=false) h (Tks.sat (show Tks [_] _ _ from .cons (.there (.there (.there (.there (.there .here))))) .nil) h a)) ?_
  rintro⟨N,nx,Q,rfl⟩;refine Z8 ?_;refine aA (dA tb146 tb146f cW) Y ?_;refine cA (cQ ta146_3 Y Y Y bP gB5 (.cons (.cons (.cons .nil))) gC6) ?_;refine aCK (Z3 ?_);refine o0 Y Y ta146_3 aL Y Y (xAB _) (aQ dQ bT) ?_;refine⟨_,Y,_,⟨_,_,_,Y⟩,Y,Y,?_⟩
  simp only[Say.out,Say.done,i,g,if_true,List.nil_append]
 refine ZC ?_;refine aX 34 Y (fun f=>?_) (fun f=>?_)
 ·exact absurd Y f
 first|refine nX (fun h a=>iA (k:=dI) (z:=false) h (Tks.sat (show Tks [_] _ _ from .cons (.there .here) .nil) h a)) ?_|refine nX (fun h a=>iA (k:=dI) (z:=false) h (Tks.sat (show Tks [_] _ _ from .cons (.there (.there (.there (.there (.there .here))))) .nil) h a)) ?_
 rintro⟨N,nx,Q,rfl⟩;refine Z8 ?_;refine aA (dA tb146 tb146f cW) Y ?_;refine cA (cQ ta146_3 Y Y Y bP gB5 (.cons (.cons (.cons .nil))) gC6) ?_;refine aCK (Z3 ?_);refine o0 Y Y ta146_3 aL Y Y (xAB _) (aQ EJ bT) ?_;refine⟨_,Y,_,⟨_,_,_,Y⟩,Y,Y,?_⟩
 simp only[Say.out,Say.done,g,if_false,Bool.false_eq_true]
end Go.Proofs
end
section
namespace Go.Proofs
open Go Go.SL Go.Syn Go.Mach Tryz
section
variable{nm:Bool}{L:List Asn}{hv:Value}
set_option maxRecDepth 100000 in
def WI:fN x3 233=some ([(str []),(str []),.int .i64 0,.slice none 0 0,.bool false,.slice none 0 0,.slice none 0 0,.slice none 0 0,.slice none 0 0,.bool false,.bool false,.int .i64 0,.int .i64 0],[(0,4),(4,1),(5,1),(6,1),(7,1),(8,1),(9,1),(10,1),(11,1),(12,1)]):=cV
open Go.Say (Co)
open Go.Cmp (cnt)
attribute [local semireducible] Go.SL.T Go.SL.OL Go.SL.D Go.SL.DL Go.SL.Ev Go.SL.Ef Go.SL.EfS in
def aAT{E:Env}{W:Code}{g:Fr}{K:Hl}{Q:Post}{b:Nat}{m:Msg}{r:Res (Bool×Co)}(h:∀d A e p,tD r d A e p->T E W g K (stq b m hv nm d A e p::L) Q):T E W g K (sto b m hv nm r::L) Q:=by
 intro a w f i;cases r with
 |ok q=>exact h q.2 q.1 0 0 ⟨Y,Y,Y,Y⟩ a w f i
 |error y=>
  obtain⟨x,⟨j,l,⟨c,s⟩,t,hd,rfl⟩,u⟩:=i.rep;exact h c true y.1 y.2 ⟨Y,Y,Y⟩ a w f ⟨i.os,i.tape,i.output,i.size,_,⟨j,l,s,t,hd,Y⟩,u⟩
def FP:CInv Say.start:=⟨by decide,fun n=>by simp[Say.start,vget,List.lookup],fun x h=>by simp[Say.start]at h,by decide,fun _=>rfl⟩
def FR{b:Nat}{m:Msg}:∀h,Sat (pt b (bK [str m.from_,str m.to_,i64 m.size,hv,.bool nm,.slice none 0 0,.slice none 0 0,.slice none 0 0,.slice none 0 0,.bool true,.bool false,i64 0,i64 0] 233)::L) h->Sat (stq b m hv nm Say.start false 0 0::L) h:=by
 intro h y;refine jV (nv:=.slice none 0 0) (vv:=.slice none 0 0) (cv:=.slice none 0 0) (av:=.slice none 0 0) h ?_;exact fB (fun h y=>iQ (iQ (iQ (iQ y)))) y
def Ho(q:List aP×Tree)(m:Msg)(hv:Value)(b:Nat)(K:Hl)(C:sF K b q)(G:wf q.2 3=true)(z:okT q.2=true)(E:sOk 600 q.2)(hn:q.1.length<=10000)(r:cnt q.2<=10000)(y:Ksl hdEl K hv m.hs)(B:MsgOk m):Sp x3 74 [ptr b,.agg #[str m.from_,str m.to_,i64 m.size,hv]] K [] (Ret fun v M L'=>∃av,(∃x n c,av=.slice x n c)/\v=ResV (Say.run (decide (dS∈q.1)) m q.2 Say.start) av/\L'=[sl false dI av (Say.out (Say.run (decide (dS∈q.1)) m q.2 Say.start)).1]):=by
 obtain⟨W,s,L,hb,g,l,i⟩:=C;obtain⟨t,I,f,rfl⟩:=y.isSlice;refine bL func74 Y ntmps74 Y Y fun F w=>Z3 ?_;refine aCJ fun O=>Z1 ?_;refine aCJ fun Q=>Z8 ?_;refine bA Y Y (pX W dS q.1 _ [] (.known g) aH) .nil Y (aCL (Z7 ?_));refine aA (dA WI tb233f cW) Y (Z1 ?_);refine aCJ fun P=>Z4 ?_;refine kQ (FR (m:=m) (hv:=.slice t I f)) (Z6 ?_);refine bA Y Y ((Tz P m _ (decide (dS∈q.1)) B q.2 z E aH).1 G |>.1 _ s L l i y Say.start FP (by show 0+_<=_;omega)) bQ Y ?_;rintro _ K _ ⟨rfl,h,rfl⟩ a;refine Z3 ?_;refine aAT fun d A e p u=>Z2 ?_;refine bA Y Y (qY P m _ (decide (dS∈q.1)) _ ((Uv q.2).1 _) (fun x H=>(h x H).1) d A e p u _) bQ Y ?_;rintro _ K _ ⟨av,⟨N,nx,S,rfl⟩,rfl,rfl,rfl⟩ -;refine cA (cQ ta146_3 Y Y Y bP (by first|(simp[Value.oneCell'];done)|exact fun c r=>El.one _ _ c r) (.cons (.cons (.cons .nil))) gAQ) ?_;refine aCK (Z3 ?_);refine o0 Y Y ta146_3 aL Y Y a (aQ cL bT) ?_;exact⟨_,Y,_,⟨_,_,_,Y⟩,Y,Y⟩
def Ec(q:List aP×Tree)(x:aP)(b:Nat)(K:Hl)(g:sF K b q)(u:q.1.length<=10000):Sp x3 126 [ptr b,str x] K [] (Ret fun v c L'=>v=.bool (decide (x∈q.1))/\c=K/\L'=[]):=by
 obtain⟨W,P,L,r,a,h,d⟩:=g;refine bL func126 Y ntmps126 Y Y fun F w=>ZC ?_;refine bA Y Y (pX W _ q.1 _ [] (.known a) aH) .nil Y (aCL (Z5 ?_));exact gDF
end
end Go.Proofs
end
section
namespace Go.Say
open Go.Syn Go.Mach Go.Cmp
section
variable{b en yes:Bool}{v x:aP}{by_ e p:Int}{as_ bs:List aP}
def Co.mx(c:Co)(stk:List Bool)(pc:Nat):MS:=⟨c.acts,c.keep,c.vars,c.parts,stk,pc⟩
def snd(o:Ins)(pc n d:Int):Bool:=
 if o.op=1 then decide ((o.n=0\/o.n=1)/\d<8)
 else if o.op=2 then decide (0<d)
 else if o.op=3 then decide (0<=o.n/\o.n<=n-pc-1)
 else if o.op=4\/o.op=5 then decide ((0<d/\0<=o.n)/\o.n<=n-pc-1)
 else if o.op=6\/o.op=7\/o.op=8 then decide ((1<=o.tag/\o.tag<=3)/\d<8)
 else if o.op=9 then decide (d<8)
 else if o.op=10 then decide ((o.tag=1\/o.tag=2)/\d<8)
 else if o.op=11 then decide (o.tag=1\/(2<=o.tag/\o.tag<=4)/\0<o.a.length)
 else if o.op=12 then decide (((0<=o.tag/\o.tag<=3)/\0<o.a.length)/\0<o.b.length)
 else decide (o.op=13\/o.op=14)
def asksV(nm:Bool)(m:Msg)(o:Ins)(c:Co):Bool×Co:=
 if o.op=9 then (lO m (o.a.map (cY nm c.vars c.parts)),c)
 else if o.op=10 then (if o.tag=1 then decide (o.n<m.size)else decide (m.size<o.n),c)
 else mat nm m o c
section
variable{nm:Bool}{m:Msg}{o:Ins}{c:Co}{stk:List Bool}{pc n:Nat}
theorem GZ(h:¬stk.length<8):Mach.push (c.mx stk pc) b=.error (12,pc):=x6 h
def rY(h:stk.length<8):Mach.push (c.mx stk pc) b=.ok (c.mx (stk++[b]) pc):=x7 h
theorem Sw(h:¬0<stk.length):Mach.pop (c.mx stk pc)=.error (12,pc):=by
 have:stk=[]:=by cases stk with|nil=>rfl|cons x l=>simp at h
 subst this;rfl
def C4(h:stk.getLast?=some b):Mach.pop (c.mx stk pc)=.ok (b,c.mx stk.dropLast pc):=by
 unfold Mach.pop;rw[show (c.mx stk pc).stack=stk from rfl,h];rfl
def M6(h:¬(0<=by_/\by_<=(n:Int)-pc-1)):Mach.jump (c.mx stk pc) by_ n yes=.error (12,pc):=by
 unfold Mach.jump;rw[x6 (by show ¬(0<=by_/\by_<(n:Int)-pc);omega)];rfl
def Dx(h:0<=by_/\by_<=(n:Int)-pc-1):Mach.jump (c.mx stk pc) by_ n yes=.ok (c.mx stk (if yes=true then pc+by_.toNat else pc)):=by
 unfold Mach.jump;rw[x7 (by show 0<=by_/\by_<(n:Int)-pc;omega)];cases yes<;>rfl
theorem step_bad(h:snd o pc n stk.length=false):o.op≠14/\Mach.step nm m n o (c.mx stk pc)=.error (12,pc):=by
 have v:∀ {x:List Bool} {b:Bool},stk.getLast?=some b->x=stk.dropLast->x.length<8\/8<=x.length:=fun _ _=>by omega
 unfold snd at h;unfold Mach.step
 by_cases f:o.op=1
 ·rw[x7 f]at h ⊢;have h:=xBA h;refine⟨aH,?_⟩
  by_cases u:o.n=0\/o.n=1
  ·rw[x7 u];exact GZ (fun y=>h ⟨u,aH⟩)
  rw[x6 u];rfl
 rw[x6 f]at h ⊢
 by_cases j:o.op=2
 ·grind [Sw]
 rw[x6 j]at h ⊢
 by_cases l:o.op=3
 ·rw[x7 l]at h ⊢;have h:=xBA h;exact⟨aH,M6 h⟩
 rw[x6 l]at h ⊢;have L:o.op=4\/o.op=5->∀(g:Bool->Bool),(match Mach.pop (c.mx stk pc)with| .error e=>(.error e:Res MS)| .ok r=>jump r.2 o.n n (g r.1))=.error (12,pc):=by
  intro M g;rw[x7 M]at h;have h:=xBA h
  by_cases hd:0<stk.length
  ·obtain⟨b,d⟩:∃b,stk.getLast?=some b:=by
    cases i:stk.getLast? with
    |some b=>exact⟨b,Y⟩
    |none=>rw[List.getLast?_eq_none_iff]at i;subst i;simp at hd
   rw[C4 d];exact M6 (fun y=>h ⟨⟨aH,y.1⟩,y.2⟩)
  rw[Sw hd]
 by_cases z:o.op=4
 ·rw[x7 z];exact⟨aH,L (.inl z) id⟩
 rw[x6 z]
 by_cases F:o.op=5
 ·rw[x7 F];exact⟨aH,L (.inr F) (!·)⟩
 rw[x6 F];rw[x6 aH]at h
 by_cases G:o.op=6\/o.op=7\/o.op=8
 ·rw[x7 G]at h ⊢;have h:=xBA h;refine⟨aH,?_⟩
  unfold matchI;rw[x6 (fun y=>h ⟨⟨y.1,y.2.1⟩,by have:=y.2.2;show (stk.length:Int)<8;have e:(c.mx stk pc).stack.length=stk.length:=rfl;omega⟩)]
  rfl
 rw[x6 G]at h ⊢
 by_cases p:o.op=9
 ·grind [GZ]
 rw[x6 p]at h ⊢
 by_cases C:o.op=10
 ·rw[x7 C]at h ⊢;have h:=xBA h;refine⟨aH,?_⟩
  by_cases I:o.tag=1\/o.tag=2
  ·rw[x7 I];exact GZ (fun y=>h ⟨I,aH⟩)
  rw[x6 I];rfl
 rw[x6 C]at h ⊢
 by_cases E:o.op=11
 ·rw[x7 E]at h ⊢;have h:=xBA h;refine⟨aH,?_⟩
  unfold actI;rw[x6 (fun y=>h (y.imp id fun q=>⟨⟨q.1,q.2.1⟩,List.length_pos_iff.2 q.2.2⟩))]
  rfl
 rw[x6 E]at h ⊢
 by_cases a:o.op=12
 ·rw[x7 a]at h ⊢;have h:=xBA h;refine⟨aH,?_⟩
  unfold setI
  by_cases I:0<=o.tag/\o.tag<=3
  ·rw[x7 I];split
   ·rename_i s d;exact absurd ⟨⟨I,by rw[s];simp⟩,by rw[d];simp⟩ h
   rfl
  rw[x6 I];rfl
 rw[x6 a]at h ⊢;have h:=xBA h;exact⟨aH,by rw[x6 aH];rfl⟩
def getLast_of(h:stk[stk.length-1]?=some b):stk.getLast?=some b:=by rw[List.getLast?_eq_getElem?];exact h
def step_one(h:o.op=1)(u:(o.n=0\/o.n=1)/\stk.length<8):Mach.step nm m n o (c.mx stk pc)=.ok (c.mx (stk++[decide (o.n=1)]) pc):=by
 unfold Mach.step;rw[x7 h,x7 u.1,rY u.2]
def step_two(h:o.op=2)(v:stk.getLast?=some b)(e:stk.length<=8):Mach.step nm m n o (c.mx stk pc)=.ok (c.mx (stk.dropLast++[!b]) pc):=by
 have P:0<stk.length:=by cases stk with|nil=>cases v|cons x l=>simp
 unfold Mach.step;rw[x6 aH,x7 h,C4 v]
 exact rY (by rw[List.length_dropLast];omega)
def step_jmp(h:o.op=3)(u:0<=o.n/\o.n<=(n:Int)-pc-1):Mach.step nm m n o (c.mx stk pc)=.ok (c.mx stk (pc+o.n.toNat)):=by
 unfold Mach.step;rw[x6 aH,x6 aH,x7 h,Dx u];rfl
def step_if(h:o.op=4\/o.op=5)(v:stk.getLast?=some b)(u:0<=o.n/\o.n<=(n:Int)-pc-1):Mach.step nm m n o (c.mx stk pc)=.ok (c.mx stk.dropLast (if b=decide (o.op=4)then pc+o.n.toNat else pc)):=by
 unfold Mach.step;rw[x6 aH,x6 aH,x6 aH]
 rcases h with h|h
 ·rw[x7 h,C4 v,xAO h];exact Dx u
 rw[x6 aH,x7 h,C4 v,xAQ aH];refine(Dx u).trans ?_;cases b<;>rfl
def step_ask(h:6<=o.op/\o.op<=10)(I:o.op<=8->1<=o.tag/\o.tag<=3)(C:o.op=10->o.tag=1\/o.tag=2)(a:stk.length<8):Mach.step nm m n o (c.mx stk pc)=.ok ((asksV nm m o c).2.mx (stk++[(asksV nm m o c).1]) pc):=by
 unfold Mach.step;rw[x6 aH,x6 aH,x6 aH,x6 aH,x6 aH]
 by_cases G:o.op=6\/o.op=7\/o.op=8
 ·rw[x7 G];have e:asksV nm m o c=mat nm m o c:=by unfold asksV;rw[x6 aH,x6 aH]
  rw[e];have I:=I aH;unfold matchI;rw[x7 (show 1<=o.tag/\o.tag<=3/\(c.mx stk pc).stack.length<8 from ⟨I.1,I.2,a⟩)];unfold mat matR
  show (match iJ o (iL (cY nm c.vars c.parts) m o) (o.b.map (cY nm c.vars c.parts))with|some f=>Mach.push (if o.tag=3/\nm=true then {(c.mx stk pc)with parts:=f}else c.mx stk pc) true|none=>Mach.push (c.mx stk pc) false)=_
  cases iJ o (iL (cY nm c.vars c.parts) m o) (o.b.map (cY nm c.vars c.parts))with
  |none=>exact rY a
  |some f=>
   by_cases g:o.tag=3/\nm=true
   ·simp only[if_pos g];exact rY (c:={c with parts:=f}) a
   simp only[if_neg g];exact rY a
 rw[x6 G]
 by_cases j:o.op=9
 ·rw[x7 j];unfold asksV;rw[x7 j];exact rY a
 rw[x6 j,x7 aH];have b:=C aH;rw[x7 b];unfold asksV;rw[x6 j,x7 aH];refine(rY a).trans ?_;rcases b with b|b
 ·simp[b]
 simp[b]
def T0(h:o.op=11)(I:o.tag=1\/(2<=o.tag/\o.tag<=4)/\0<o.a.length):Mach.step nm m n o (c.mx stk pc)=match act o.tag (actArg nm o.tag ((o.a[0]?).getD []) c) o.at_ c with| .error e=>.error e| .ok d=>.ok (d.mx stk pc):=by
 unfold Mach.step;rw[x6 aH,x6 aH,x6 aH,x6 aH,x6 aH,x6 aH,x6 aH,x6 aH,x7 h]
 unfold actI act addX;rw[x7 (I.imp id fun q=>⟨q.1.1,q.1.2,List.length_pos_iff.1 q.2⟩)];have M:actA nm o (c.mx stk pc)=actArg nm o.tag ((o.a[0]?).getD []) c:=rfl;simp only[M]
 generalize actArg nm o.tag ((o.a[0]?).getD []) c=x
 have O:actV o x=actX o.tag x:=rfl;rw[O]
 generalize actX o.tag x=X
 have g:(c.mx stk pc).acts=c.acts:=rfl;rw[g]
 by_cases a:o.tag=2/\rL x=false
 ·rw[x7 a,x7 a]<;>rfl
 rw[x6 a,x6 a]
 by_cases f:o.tag=3/\e8 x=false
 ·rw[x7 f,x7 f]<;>rfl
 rw[x6 f,x6 f]
 by_cases l:X∈c.acts
 ·rw[x7 l,x7 l]<;>rfl
 rw[x6 l,x6 l]
 by_cases z:∃b∈c.acts,X.1=4\/b.1=4
 ·rw[x7 z,x7 z]<;>rfl
 rw[x6 z,x6 z]
 by_cases F:c.acts.length=6
 ·rw[x7 F,x7 F]<;>rfl
 rw[x6 F,x6 F]<;>rfl
def T6(h:o.op=12)(I:0<=o.tag/\o.tag<=3)(s:o.a=x::as_)(r:o.b=v::bs):Mach.step nm m n o (c.mx stk pc)=.ok (({c with vars:=vput c.vars x (setV o.tag (cY nm c.vars c.parts v))}:Co).mx stk pc):=by
 unfold Mach.step;rw[x6 aH,x6 aH,x6 aH,x6 aH,x6 aH,x6 aH,x6 aH,x6 aH,x6 aH,x7 h]
 unfold setI;rw[x7 I,s,r];rfl
def step_dis(h:o.op=13):Mach.step nm m n o (c.mx stk pc)=.ok (({c with keep:=false}:Co).mx stk pc):=by
 unfold Mach.step;rw[x6 aH,x6 aH,x6 aH,x6 aH,x6 aH,x6 aH,x6 aH,x6 aH,x6 aH,x6 aH,x7 h];rfl
end
section
variable{o:Ins}{pc n d:Int}
def snd_1(c:snd o pc n d=true)(h:o.op=1):(o.n=0\/o.n=1)/\d<8:=by
 unfold snd at c;rw[x7 h]at c;exact gHK
def snd_2(c:snd o pc n d=true)(h:o.op=2):0<d:=by
 unfold snd at c;rw[x6 aH,x7 h]at c;exact gHK
theorem snd_3(c:snd o pc n d=true)(h:o.op=3):0<=o.n/\o.n<=n-pc-1:=by
 grind [snd]
theorem snd_4(c:snd o pc n d=true)(h:o.op=4\/o.op=5):(0<d/\0<=o.n)/\o.n<=n-pc-1:=by
 grind [snd]
def snd_6(c:snd o pc n d=true)(h:6<=o.op/\o.op<=10):(o.op<=8->1<=o.tag/\o.tag<=3)/\(o.op=10->o.tag=1\/o.tag=2)/\d<8:=by
 unfold snd at c;rw[x6 aH,x6 aH,x6 aH,x6 aH]at c
 split at c
 ·have:=xAX c;exact⟨fun _=>this.1,aH,this.2⟩
 split at c
 ·have:=xAX c;exact⟨aH,aH,this⟩
 split at c
 ·have:=xAX c;exact⟨aH,fun _=>this.1,this.2⟩
 omega
theorem snd_11(c:snd o pc n d=true)(h:o.op=11):o.tag=1\/(2<=o.tag/\o.tag<=4)/\0<o.a.length:=by
 grind [snd]
def snd_12(c:snd o pc n d=true)(h:o.op=12):((0<=o.tag/\o.tag<=3)/\0<o.a.length)/\0<o.b.length:=by
 unfold snd at c;rw[x6 aH,x6 aH,x6 aH,x6 aH,x6 aH,x6 aH,x6 aH,x6 aH,x7 h]at c;exact gHK
def snd_13(c:snd o pc n d=true)(h:¬(1<=o.op/\o.op<=12)):o.op=13\/o.op=14:=by
 unfold snd at c;rw[x6 aH,x6 aH,x6 aH,x6 aH,x6 aH,x6 aH,x6 aH,x6 aH,x6 aH]at c;exact gHK
def set_last{l:List Bool}{x:Bool}(h:l[l.length-1]?=some x):l.set (l.length-1) b=l.dropLast++[b]:=by
 have v:l≠[]:=by rintro rfl;cases h
 obtain⟨f,y,rfl⟩:∃f y,l=f++[y]:=⟨l.dropLast,l.getLast v,(List.dropLast_concat_getLast v).symm⟩;rw[List.dropLast_concat,xAE,xBI,Nat.add_sub_cancel,List.set_append_right _ _ (xAG _),Nat.sub_self]
 rfl
def cmd_act0{nm:Bool}{m:Msg}{k:Int}{c:Co}:cmd nm m (.act k (if k=1 then []else x) p) c=cmd nm m (.act k x p) c:=by
 by_cases h:k=1
 ·subst h;rfl
 rw[x6 h]
end
structure ExI where
 c:Co
 stk:List Bool
 pc:Nat
 st:Nat
 en:Bool
 e:Int
 p:Int
section
open Go.Proofs
def XEnd(nm:Bool)(m:Msg)(code:List Ins)(c:Co)(st:Nat)(en:Bool)(e p:Int):Prop:=∃r,tD r c en e p/\Bad r/\(∀x,r=.ok x->CInv x.2)/\Mach.run nm code m=⟨(out r).1,st,(out r).2⟩
def XInv(nm:Bool)(m:Msg)(code:List Ins)(q:ExI):Prop:=q.stk.length<=8/\q.st<=q.pc/\q.pc<=code.length/\((q.en=false/\q.e=0/\q.p=0/\CInv q.c/\q.c.vars.length<=q.st/\∃f,code.length<=f+q.pc/\Mach.run nm code m=Mach.loop nm m code (f+1) q.st (q.c.mx q.stk q.pc))\/(q.en=true/\XEnd nm m code q.c q.st true q.e q.p))
variable{nm:Bool}{m:Msg}{code:List Ins}{o:Ins}{c d:Co}{stk stk':List Bool}{pc pc' st:Nat}{q:ExI}
def XNext(nm:Bool)(m:Msg)(code:List Ins)(pc st:Nat)(q:ExI):Prop:=XInv nm m code q/\q.st=st+1/\(q.en=true\/pc<q.pc)
structure XAt (nm:Bool) (m:Msg) (code:List Ins) (c:Co) (stk:List Bool) (pc st:Nat) (o:Ins):Prop where
 inv:CInv c
 vn:c.vars.length<=st
 s8:stk.length<=8
 sp:st<=pc
 at_:code[pc]?=some o
 run:∃f,code.length<=f+pc/\Mach.run nm code m=Mach.loop nm m code (f+1) st (c.mx stk pc)
def XAt.lt(h:XAt nm m code c stk pc st o):pc<code.length:=(xAI.1 h.at_).1
def XAt.ok(h:XAt nm m code c stk pc st o)(a:o.op≠14)(b:Mach.step nm m code.length o (c.mx stk pc)=.ok (d.mx stk' pc'))(hd:CInv d)(hv:d.vars.length<=st+1)(e:stk'.length<=8):XInv nm m code ⟨d,stk',pc'+1,st+1,false,0,0⟩/\pc<pc'+1:=by
 have hp:=AK b h.lt;have hp:pc<=pc'/\pc'<code.length:=hp;have W:=h.sp;obtain⟨f,j,i⟩:=h.run;refine⟨⟨e,by show st+1<=pc'+1;omega,hp.2,.inl ⟨rfl,rfl,rfl,hd,hv,?_⟩⟩,aH⟩
 obtain⟨g,rfl⟩:∃g,f=g+1:=⟨f-1,by have:=h.lt;omega⟩;refine⟨g,by show _<=g+(pc'+1);omega,?_⟩
 rw[i,Mach.loop];rw[show (c.mx stk pc).pc=pc from rfl,h.at_];simp only[if_neg a,b]
 rfl
def XAt.err(h:XAt nm m code c stk pc st o){y:Int×Int}(a:o.op≠14)(b:Mach.step nm m code.length o (c.mx stk pc)=.error y)(P:y.1≠0):XEnd nm m code d (st+1) true y.1 y.2:=by
 refine⟨.error y,⟨Y,Y,Y⟩,(fun z N=>by cases N;exact P),(fun x e=>by cases e),?_⟩
 obtain⟨f,g,i⟩:=h.run;rw[i,Mach.loop,show (c.mx stk pc).pc=pc from rfl,h.at_];simp only[if_neg a,b]
 rfl
def XAt.stop(h:XAt nm m code c stk pc st o)(a:o.op=14):XEnd nm m code c (st+1) true 0 0:=by
 refine⟨.ok (true,c),⟨Y,Y,Y,Y⟩,(fun z N=>by cases N),(fun x b=>by cases b;exact h.inv),?_⟩
 obtain⟨f,d,i⟩:=h.run;rw[i,Mach.loop,show (c.mx stk pc).pc=pc from rfl,h.at_];simp only[if_pos a]
 rfl
def XAt.next(h:XAt nm m code c stk pc st o)(a:o.op≠14)(b:Mach.step nm m code.length o (c.mx stk pc)=.ok (d.mx stk' pc'))(hd:CInv d)(hv:d.vars=c.vars)(e:stk'.length<=8):XNext nm m code pc st ⟨d,stk',pc'+1,st+1,false,0,0⟩:=
 let q:=h.ok a b hd (by rw[hv];have:=h.vn;omega) e
 ⟨q.1,rfl,.inr q.2⟩
def XAt.last(h:XAt nm m code c stk pc st o)(a:o.op=14):XNext nm m code pc st ⟨c,stk,pc+1,st+1,true,0,0⟩:=⟨⟨h.s8,(by have:=h.sp;show st+1<=pc+1;omega),h.lt,.inr ⟨rfl,h.stop a⟩⟩,rfl,.inl rfl⟩
def XAt.act(h:XAt nm m code c stk pc st o)(E:o.op=11)(I:o.tag=1\/(2<=o.tag/\o.tag<=4)/\0<o.a.length)(b:tD (cmd nm m (.act o.tag ((o.a[0]?).getD []) o.at_) c) d en e p):XInv nm m code ⟨d,stk,pc+1,st+1,en,e,p⟩:=by
 have W:=T0 (nm:=nm) (m:=m) (c:=c) (stk:=stk) (pc:=pc) (n:=code.length) E I;have j:=AJ (nm:=nm) (m:=m) (k:=o.tag) (p:=o.at_) (a:=(o.a[0]?).getD []) h.inv;have r:=BK (nm:=nm) (m:=m) (k:=o.tag) (p:=o.at_) (a:=(o.a[0]?).getD []) (c:=c);have v:=h.lt;have i:=h.sp;have l:=h.vn;simp only[cmd]at b j r;cases s:Say.act o.tag (actArg nm o.tag ((o.a[0]?).getD []) c) o.at_ c with
 |error y=>
  rw[s]at W b r;obtain⟨rfl,rfl,rfl⟩:=b;exact⟨h.s8,by show st+1<=pc+1;omega,v,.inr ⟨rfl,h.err aH W (r y rfl)⟩⟩
 |ok f=>
  rw[s]at W b j;obtain⟨rfl,rfl,rfl,rfl⟩:d=f/\en=false/\e=0/\p=0:=b;obtain⟨Q,g⟩:=j _ rfl;refine(h.ok aH W Q ?_ h.s8).1
  have:(false,d).2.vars=c.vars:=by
   unfold Say.act at s;split at s
   ·cases s
   split at s
   ·cases s
   unfold addX at s;split at s
   ·cases s;rfl
   split at s
   ·cases s
   split at s
   ·cases s
   cases s;rfl
  rw[show d.vars=c.vars from this];omega
def AQ(k v:aP):∀vars:List (aP×aP),(vput vars k v).length<=vars.length+1
 | []=>by simp[vput]
 |(j,u)::r=>by
  unfold vput;split
  ·simp
  have:=AQ k v r;simp;omega
def XAt.set(h:XAt nm m code c stk pc st o)(a:o.op=12)(I:0<=o.tag/\o.tag<=3)(s:o.a=x::as_)(r:o.b=v::bs)(z:code.length<=100000)(b:tD (cmd nm m (.set_ x v o.tag) c) d en e p):XInv nm m code ⟨d,stk,pc+1,st+1,en,e,p⟩:=by
 have hd:=(MN (nm:=nm) (m:=m) (n:=x) (v:=v) (t:=o.tag) h.inv (by have:=h.vn;have:=h.sp;have:=h.lt;omega) _ rfl).1;obtain⟨rfl,rfl,rfl,rfl⟩:d={c with vars:=vput c.vars x (setV o.tag (cY nm c.vars c.parts v))}/\en=false/\e=0/\p=0:=b;exact(h.ok aH (T6 a I s r) hd (by have:=AQ x (setV o.tag (cY nm c.vars c.parts v)) c.vars;have:=h.vn;show (vput _ _ _).length<=_;omega) h.s8).1
end
end
end Go.Say
end
section
namespace Go.Proofs
open Go Go.SL Go.Syn Go.Mach Tryz
open Go.Say (Co)
open Go.Cmp (cnt)
def Jp(o:Go.Mach.Ins)(I L:Value)(pc n d:Int)(hp:0<=pc/\pc<=n)(P:n<=1000000)(K:Hl)(M:Ksl (aZ 9) K I o.a)(N:Ksl (aZ 9) K L o.b):Sp x3 116 [.agg #[i64 o.op,i64 o.n,i64 o.tag,.bool o.oct,I,L,i64 o.at_],i64 pc,i64 n,i64 d] K [] (Val (.bool (Say.snd o pc n d)) K):=by
 refine bL func116 Y ntmps116 Y Y fun F w=>Z3 ?_;refine aCJ fun O=>ZH ?_;refine aX 11 Y (fun E=>Z6 ?_) (fun E=>Z6 ?_)
 ·refine bV 16 Y (fun y=>ZG ?_) (fun y=>Z8 ?_)
  ·refine uAd ?_;refine Z1 ?_;refine⟨xAF (fun b=>Ending.returned (Value.bool b)) ?_,Y,Y⟩
   first|(simp_all[Say.snd];done)|(simp_all[Say.snd];omega)
  refine bV 21 Y (fun r=>ZB ?_) (fun r=>Z9 ?_)
  ·refine uAd ?_;refine Z1 ?_;refine⟨xAF (fun b=>Ending.returned (Value.bool b)) ?_,Y,Y⟩
   first|(simp_all[Say.snd];done)|(simp_all[Say.snd];omega)
  refine uAd ?_;refine Z1 ?_;refine⟨xAF (fun b=>Ending.returned (Value.bool b)) ?_,Y,Y⟩
  first|(simp_all[Say.snd];done)|(simp_all[Say.snd];omega)
 refine aX 25 Y (fun l=>ZA ?_) (fun l=>Z6 ?_)
 ·refine uAd ?_;refine Z1 ?_;refine⟨xAF (fun b=>Ending.returned (Value.bool b)) ?_,Y,Y⟩
  first|(simp_all[Say.snd];done)|(simp_all[Say.snd];omega)
 refine aX 29 Y (fun p=>Z6 ?_) (fun p=>Z7 ?_)
 ·refine bV 34 Y (fun s=>ZL ?_) (fun s=>ZE ?_)
  ·refine uAd ?_;refine Z1 ?_;refine⟨xAF (fun b=>Ending.returned (Value.bool b)) ?_,Y,Y⟩
   first|(simp_all[Say.snd];done)|(simp_all[Say.snd];omega)
  refine uAd ?_;refine Z1 ?_;refine⟨xAF (fun b=>Ending.returned (Value.bool b)) ?_,Y,Y⟩
  first|(simp_all[Say.snd];done)|(simp_all[Say.snd];omega)
 refine aX 43 Y (fun f=>Z8 ?_) (fun f=>Z5 ?_)
 ·refine bV 48 Y (fun e=>Z8 ?_) (fun e=>ZJ ?_)
  ·refine bV 53 Y (fun g=>ZL ?_) (fun g=>ZE ?_)
   ·refine uAd ?_;refine Z1 ?_;refine⟨xAF (fun b=>Ending.returned (Value.bool b)) ?_,Y,Y⟩
    first|(simp_all[Say.snd];done)|(simp_all[Say.snd];omega)
   refine uAd ?_;refine Z1 ?_;refine⟨xAF (fun b=>Ending.returned (Value.bool b)) ?_,Y,Y⟩
   first|(simp_all[Say.snd];done)|(simp_all[Say.snd];omega)
  refine uAd ?_;refine Z1 ?_;refine⟨xAF (fun b=>Ending.returned (Value.bool b)) ?_,Y,Y⟩
  first|(simp_all[Say.snd];done)|(simp_all[Say.snd];omega)
 refine aX 43 Y (fun f=>Z5 ?_) (fun f=>Z7 ?_)
 ·refine bV 48 Y (fun e=>Z8 ?_) (fun e=>ZJ ?_)
  ·refine bV 53 Y (fun g=>ZL ?_) (fun g=>ZE ?_)
   ·refine uAd ?_;refine Z1 ?_;refine⟨xAF (fun b=>Ending.returned (Value.bool b)) ?_,Y,Y⟩
    first|(simp_all[Say.snd];done)|(simp_all[Say.snd];omega)
   refine uAd ?_;refine Z1 ?_;refine⟨xAF (fun b=>Ending.returned (Value.bool b)) ?_,Y,Y⟩
   first|(simp_all[Say.snd];done)|(simp_all[Say.snd];omega)
  refine uAd ?_;refine Z1 ?_;refine⟨xAF (fun b=>Ending.returned (Value.bool b)) ?_,Y,Y⟩
  first|(simp_all[Say.snd];done)|(simp_all[Say.snd];omega)
 refine aX 62 Y (fun A=>Z9 ?_) (fun A=>Z6 ?_)
 ·refine bV 69 Y (fun c=>Z8 ?_) (fun c=>ZE ?_)
  ·refine bV 74 Y (fun a=>ZB ?_) (fun a=>Z9 ?_)
   ·refine uAd ?_;refine Z1 ?_;refine⟨xAF (fun b=>Ending.returned (Value.bool b)) ?_,Y,Y⟩
    first|(simp_all[Say.snd];done)|(simp_all[Say.snd];omega)
   refine uAd ?_;refine Z1 ?_;refine⟨xAF (fun b=>Ending.returned (Value.bool b)) ?_,Y,Y⟩
   first|(simp_all[Say.snd];done)|(simp_all[Say.snd];omega)
  refine uAd ?_;refine Z1 ?_;refine⟨xAF (fun b=>Ending.returned (Value.bool b)) ?_,Y,Y⟩
  first|(simp_all[Say.snd];done)|(simp_all[Say.snd];omega)
 refine aX 62 Y (fun A=>Z9 ?_) (fun A=>Z5 ?_)
 ·refine bV 69 Y (fun c=>Z8 ?_) (fun c=>ZE ?_)
  ·refine bV 74 Y (fun a=>ZB ?_) (fun a=>Z9 ?_)
   ·refine uAd ?_;refine Z1 ?_;refine⟨xAF (fun b=>Ending.returned (Value.bool b)) ?_,Y,Y⟩
    first|(simp_all[Say.snd];done)|(simp_all[Say.snd];omega)
   refine uAd ?_;refine Z1 ?_;refine⟨xAF (fun b=>Ending.returned (Value.bool b)) ?_,Y,Y⟩
   first|(simp_all[Say.snd];done)|(simp_all[Say.snd];omega)
  refine uAd ?_;refine Z1 ?_;refine⟨xAF (fun b=>Ending.returned (Value.bool b)) ?_,Y,Y⟩
  first|(simp_all[Say.snd];done)|(simp_all[Say.snd];omega)
 refine aX 62 Y (fun A=>Z6 ?_) (fun A=>Z6 ?_)
 ·refine bV 69 Y (fun c=>Z8 ?_) (fun c=>ZE ?_)
  ·refine bV 74 Y (fun a=>ZB ?_) (fun a=>Z9 ?_)
   ·refine uAd ?_;refine Z1 ?_;refine⟨xAF (fun b=>Ending.returned (Value.bool b)) ?_,Y,Y⟩
    first|(simp_all[Say.snd];done)|(simp_all[Say.snd];omega)
   refine uAd ?_;refine Z1 ?_;refine⟨xAF (fun b=>Ending.returned (Value.bool b)) ?_,Y,Y⟩
   first|(simp_all[Say.snd];done)|(simp_all[Say.snd];omega)
  refine uAd ?_;refine Z1 ?_;refine⟨xAF (fun b=>Ending.returned (Value.bool b)) ?_,Y,Y⟩
  first|(simp_all[Say.snd];done)|(simp_all[Say.snd];omega)
 refine aX 78 Y (fun u=>ZA ?_) (fun u=>Z6 ?_)
 ·refine uAd ?_;refine Z1 ?_;refine⟨xAF (fun b=>Ending.returned (Value.bool b)) ?_,Y,Y⟩
  first|(simp_all[Say.snd];done)|(simp_all[Say.snd];omega)
 refine aX 82 Y (fun z=>Z6 ?_) (fun z=>Z6 ?_)
 ·refine bV 87 Y (fun G=>ZG ?_) (fun G=>Z8 ?_)
  ·refine uAd ?_;refine Z1 ?_;refine⟨xAF (fun b=>Ending.returned (Value.bool b)) ?_,Y,Y⟩
   first|(simp_all[Say.snd];done)|(simp_all[Say.snd];omega)
  refine bV 92 Y (fun H=>ZB ?_) (fun H=>Z9 ?_)
  ·refine uAd ?_;refine Z1 ?_;refine⟨xAF (fun b=>Ending.returned (Value.bool b)) ?_,Y,Y⟩
   first|(simp_all[Say.snd];done)|(simp_all[Say.snd];omega)
  refine uAd ?_;refine Z1 ?_;refine⟨xAF (fun b=>Ending.returned (Value.bool b)) ?_,Y,Y⟩
  first|(simp_all[Say.snd];done)|(simp_all[Say.snd];omega)
 refine aX 96 Y (fun C=>Z6 ?_) (fun C=>Z6 ?_)
 ·refine bV 101 Y (fun t=>ZL ?_) (fun t=>Z8 ?_)
  ·refine uAd ?_;refine Z1 ?_;refine⟨xAF (fun b=>Ending.returned (Value.bool b)) ?_,Y,Y⟩
   first|(simp_all[Say.snd];done)|(simp_all[Say.snd];omega)
  refine bV 105 Y (fun v=>ZA ?_) (fun v=>ZK ?_)
  ·refine bV 110 Y (fun x=>Z5 ?_) (fun x=>ZD ?_)
   ·refine uAb ?_;refine ZB ?_;refine uAd ?_;refine Z1 ?_;refine⟨xAF (fun b=>Ending.returned (Value.bool b)) ?_,Y,Y⟩
    first|(simp_all[Say.snd];done)|(simp_all[Say.snd];omega)
   refine uAd ?_;refine Z1 ?_;refine⟨xAF (fun b=>Ending.returned (Value.bool b)) ?_,Y,Y⟩
   first|(simp_all[Say.snd];done)|(simp_all[Say.snd];omega)
  refine uAd ?_;refine Z1 ?_;refine⟨xAF (fun b=>Ending.returned (Value.bool b)) ?_,Y,Y⟩
  first|(simp_all[Say.snd];done)|(simp_all[Say.snd];omega)
 refine aX 117 Y (fun j=>Z6 ?_) (fun j=>Z7 ?_)
 ·refine bV 122 Y (fun B=>Z8 ?_) (fun B=>ZM ?_)
  ·refine bV 127 Y (fun h=>Z5 ?_) (fun h=>ZH ?_)
   ·refine uAb ?_;refine Z4 ?_;refine bV 133 Y (fun i=>Z5 ?_) (fun i=>ZB ?_)
    ·refine uAb ?_;refine Z9 ?_;refine uAd ?_;refine Z1 ?_;refine⟨xAF (fun b=>Ending.returned (Value.bool b)) ?_,Y,Y⟩
     first|(simp_all[Say.snd];done)|(simp_all[Say.snd];omega)
    refine uAd ?_;refine Z1 ?_;refine⟨xAF (fun b=>Ending.returned (Value.bool b)) ?_,Y,Y⟩
    first|(simp_all[Say.snd];done)|(simp_all[Say.snd];omega)
   refine uAd ?_;refine Z1 ?_;refine⟨xAF (fun b=>Ending.returned (Value.bool b)) ?_,Y,Y⟩
   first|(simp_all[Say.snd];done)|(simp_all[Say.snd];omega)
  refine uAd ?_;refine Z1 ?_;refine⟨xAF (fun b=>Ending.returned (Value.bool b)) ?_,Y,Y⟩
  first|(simp_all[Say.snd];done)|(simp_all[Say.snd];omega)
 refine aX 139 Y (fun q=>ZB ?_) (fun q=>Z5 ?_)
 ·refine uAd ?_;refine Z1 ?_;refine⟨xAF (fun b=>Ending.returned (Value.bool b)) ?_,Y,Y⟩
  first|(simp_all[Say.snd];done)|(simp_all[Say.snd];omega)
 refine aX 139 Y (fun q=>Z8 ?_) (fun q=>Z9 ?_)
 ·refine uAd ?_;refine Z1 ?_;refine⟨xAF (fun b=>Ending.returned (Value.bool b)) ?_,Y,Y⟩
  first|(simp_all[Say.snd];done)|(simp_all[Say.snd];omega)
 refine uAd ?_;refine Z1 ?_;refine⟨xAF (fun b=>Ending.returned (Value.bool b)) ?_,Y,Y⟩
 first|(simp_all[Say.snd];done)|(simp_all[Say.snd];omega)
def L6(p:Nat)(m:Msg)(hv:Value)(nm:Bool)(c:Co)(d:CInv c)(B:MsgOk m)(o:Go.Mach.Ins)(q:InsOk o)(hr:6<=o.op/\o.op<=10)(I:o.op<=8->1<=o.tag/\o.tag<=3)(C l:Value)(hf:o.op=9->lT C)(K:Hl)(b:Ksl (aZ 9) K C o.a)(g:Ksl (aZ 9) K l o.b)(A:Ksl hdEl K hv m.hs):Sp x3 117 [ptr p,.agg #[i64 o.op,i64 o.n,i64 o.tag,.bool o.oct,C,l,i64 o.at_]] K [stq p m hv nm c false 0 0] (Ret fun v K' L'=>v=.bool (Say.asksV nm m o c).1/\K'=K/\CInv (Say.asksV nm m o c).2/\(Say.asksV nm m o c).2.vars=c.vars/\L'=[stq p m hv nm (Say.asksV nm m o c).2 false 0 0]):=by
 have jh:=B.hn;have jb:=q.an;refine bL func117 Y ntmps117 Y Y fun F w=>Z3 ?_;refine aCJ fun E=>ZH ?_;refine aX 12 Y (fun s=>?_) (fun s=>Z6 ?_)
 ·have a:=s;have jg:=sI (N:=1000) (nm:=nm) (c:=c) B (names:=o.a);refine Z5 ?_;refine bA Y Y (uT p m hv nm c false 0 0 d B o.a C q.an q.a _ b A) bQ Y ?_;rintro P K _ ⟨rfl,rfl⟩ -;refine ZD ?_;refine bA Y Y (mD p m hv nm c d P l (jP nm m c o.a) o.b o.tag o.oct (I aH) aH q.bn (uI B) q.b _ g) bQ Y ?_;refine aCL (Z6 ?_);refine uAa ?_;refine Z1 ?_;have e:Say.asksV nm m o c=Say.matV nm o.tag o.oct (jP nm m c o.a) o.b c:=by simp only[Say.asksV,a];rw[x6 aH,x6 aH,Say.mat_V];exact xAF (fun z=>Say.matV nm o.tag o.oct z o.b c) (by simp[iL,a,jP])
  exact⟨_,Y,by rw[e],rfl,by rw[e];exact d.matV (uI B),by rw[e];exact q9,by rw[e]⟩
 refine aX 27 Y (fun t=>?_) (fun t=>Z6 ?_)
 ·have a:=t;have je:=De (m:=m) (names:=o.a);refine Z5 ?_;refine bA Y Y (Ce p m hv nm c false 0 0 o.a C q.an q.a _ b) bQ Y ?_;rintro W K _ ⟨rfl,rfl⟩ -;refine ZD ?_;refine bA Y Y (mD p m hv nm c d W l (o.a.flatMap (kV m)) o.b o.tag o.oct (I aH) aH q.bn (C0 B) q.b _ g) bQ Y ?_;refine aCL (Z6 ?_);refine uAa ?_;refine Z1 ?_;have e:Say.asksV nm m o c=Say.matV nm o.tag o.oct (o.a.flatMap (kV m)) o.b c:=by simp only[Say.asksV,a];rw[x6 aH,x6 aH,Say.mat_V];exact xAF (fun z=>Say.matV nm o.tag o.oct z o.b c) (by simp[iL,a,jP])
  exact⟨_,Y,by rw[e],rfl,by rw[e];exact d.matV (C0 B),by rw[e];exact q9,by rw[e]⟩
 refine aX 42 Y (fun f=>?_) (fun f=>Z6 ?_)
 ·have a:=f;have u:=hf f;refine Z5 ?_;refine bA Y Y (AG p m hv nm c false 0 0 d B o.a C u q.an q.a _ b A) bQ Y ?_;refine aCL (Z6 ?_);refine uAa ?_;exact gEG
 refine aX 48 Y (fun S=>?_) (fun S=>?_)
 ·have a:=S;refine l9 (aQ dQ (aQ cL bT)) (qO fun nv vv cv jc=>aI (cN [9] [] mixed gAD (cM _) (Z9 ?_)));refine gY Y (.none Y) Y Y Y Y (Cf m.size o.n o.tag _) Y (Z6 ?_);refine d8 (jV (m:=m) (c:=c)) (uAa ?_);exact gEG
 have a:o.op=8:=aH;refine ZF ?_;refine jC (fun(i:Nat) (r:Value)=>i<=o.a.length) (fun i r=>[(0,ptr p),(3,ptr E),(7,r),(8,i64 i)]) (fun _ _=>K) (fun i r=>[sl false (aZ 9) r ((o.a.take i).map (cY nm c.vars c.parts)),stq p m hv nm c false 0 0,pt E (bK [i64 o.op,i64 o.n,i64 o.tag,.bool o.oct,C,l,i64 o.at_] 41)]) (fun i _=>o.a.length-i) 0 (.slice none 0 0) (xAA _) bM Y (fun h A=>iQ (Tks.sat (show Tks [stq p m hv nm c false 0 0,pt E (bK [i64 o.op,i64 o.n,i64 o.tag,.bool o.oct,C,l,i64 o.at_] 41)] _ _ from (aQ dQ (aQ cL bT))) h A)) ?_;intro i r jf;refine Z6 ?_;refine aA (bU (k:=aZ 9) Y xAC Y (.known b)) Y (Z3 ?_);refine aX 64 Y (fun G=>?_) (fun G=>?_)
 ·have Q:i<o.a.length:=aH;obtain⟨x,H⟩:∃x,o.a[i]?=some x:=⟨o.a[i]'Q,x4 Q⟩;have L:=q.a x (x8 H);refine ZA ?_;refine aA (aW (k:=aZ 9) (j:=i) b0 Y (.known b) Y Y Q) Y (aA (cE (o:=0) (k:=aZ 9) ts9 Y (.known b) H Y) Y (bA Y Y (FH p m hv nm c false 0 0 d x L _) bQ Y ?_));refine aCL (Z6 ?_);refine cG (bJ (z0:=[(str [])]) b0 tz9 Y Y Y Y cW) Y ?_;refine aCJ fun jd=>cG (dJ (k:=(aZ 9)) (ys:=[cY nm c.vars c.parts x]) eE Y Y (.there (.there .here)) (fun w j=>dC xAC (SeesSl.at (.blk aL Y Y) j)) gAG gAG) Y ?_;rintro ji K _ ⟨rfl,rfl,ja⟩ -;refine Z9 ?_;refine uAp ?_;exact d9 (i+1) _ aH aH bM Y (fun _ h=>by rw[show (o.a.take (i+1)).map (cY nm c.vars c.parts)=(o.a.take i).map (cY nm c.vars c.parts)++[cY nm c.vars c.parts x]from by rw[xA2,H];simp];exact h)
 rw[xAJ aH];refine ZF ?_;refine bA Y Y (mD p m hv nm c d r l (o.a.map (cY nm c.vars c.parts)) o.b o.tag o.oct (I aH) (by rw[xAW];omega) q.bn (fun y M=>by obtain⟨z,O,rfl⟩:=xBM.1 M;exact iP (q.a z O)) q.b _ g) bQ Y ?_;refine aCL (Z4 ?_);refine uAa ?_;refine Z1 ?_;have e:Say.asksV nm m o c=Say.matV nm o.tag o.oct (o.a.map (cY nm c.vars c.parts)) o.b c:=by simp only[Say.asksV,a];rw[x6 aH,x6 aH,Say.mat_V];exact xAF (fun z=>Say.matV nm o.tag o.oct z o.b c) (by simp[iL,a,jP])
 exact⟨_,Y,by rw[e],rfl,by rw[e];exact d.matV (fun y M=>by obtain⟨z,O,rfl⟩:=xBM.1 M;exact iP (q.a z O)),by rw[e];exact q9,by rw[e]⟩
end Go.Proofs
end
section
namespace Go.Proofs
open Go Go.SL Go.Syn Go.Mach Tryz
open Go.Say (Co ExI XInv XEnd XAt)
open Go.Cmp (cnt cS RIs InsV)
section
variable{fn:Func}{P:Program}{v2:Value}
def Ll{t1 t2:Tmp}{a:TypeId}(h:fn.results= #[.cell t1 a,.tmp t2])(tmps:Array Value)(w:World){a1:Addr}{d:Value}(M:tmps.getD t1 undef=.pointer (some a1))(O:tmps.getD t2 undef=v2)(G:(loadVar a a1).run P w=.ok d w):(results fn tmps).run P w=.ok (.tuple #[d,v2]) w:=by
 have M:tmps[t1]?.getD undef=.pointer (some a1):=by simpa using M
 have O:tmps[t2]?.getD undef=v2:=by simpa using O
 simp[results,h,M,O,asAddr,Result.andThen,G]
attribute [local semireducible] Go.SL.T Go.SL.OL Go.SL.D Go.SL.DL Go.SL.Ev Go.SL.Ef Go.SL.EfS in
def yU{n:Nat}{q:World}{F E K:Hl}{g:Fr}{L L1 M:List Asn}{R:Ending->Hl->List Asn->Prop}{t t2 b m:Nat}{T u:TypeId}{l vs:List Value}{fz:Nat×Nat}
  (p:fn.results= #[.cell t T,.tmp t2]) (s:g.get t=some (ptr b)) (S:g.get t2=some v2) (e:aggB P T m=true) (r:Sees K L b (bK l u fz)) (hv:l.take m=vs) (j:vs.length=m) (le:E.le K) (v:Tks L1 L M) (h:R (.returned (.tuple #[.agg vs.toArray,v2])) K L1):
  D ⟨P,n,[],q,F⟩ .ret g K L (uY P fn q F E R):=fun a w f i=>by
 refine⟨f.defers,.tuple #[.agg vs.toArray,v2],?_,K,L1,h,le,(i.imp v.sat).left⟩
 refine Ll p _ _ (a1:=⟨b,0,none⟩) (by simp[f.get _ _ s]) (by simp[f.get _ _ S]) ?_;obtain⟨c,d⟩:=zU e w;unfold loadVar;rw[bH c];simp only[if_true];rw[bH d];have:=lJ (P:=P) (r.at i) m vs 0 0 [] (by simpa using hv) j;simp only[List.nil_append]at this;unfold loadCells;rw[bH this];rfl
def OutV(o:Mach.Out)(av:Value):Value:=.agg #[av,i64 (match o.err with|some y=>y.1|none=>0),i64 (match o.err with|some y=>y.2|none=>0)]
def SH{r:Res (Bool×Co)}{av:Value}{n:Nat}:ResV r av=OutV ⟨(Say.out r).1,n,(Say.out r).2⟩ av:=by cases r<;>rfl
section
variable{nm:Bool}{m:Msg}{code:List Mach.Ins}{c:Co}{stk:List Bool}{pc st:Nat}{en:Bool}{e p:Int}
def Wx(h:¬400<code.length):XInv nm m code ⟨Say.start,[],0,0,false,0,0⟩:=⟨xAA _,xAG _,xAA _,.inl ⟨rfl,rfl,rfl,FP,xAG _,code.length,by show _<=code.length+0;omega,by unfold Mach.run;rw[x6 h];rfl⟩⟩
def Y7(h:400<code.length):XInv nm m code ⟨Say.start,[],0,0,true,12,400⟩:=⟨xAA _,xAG _,xAA _,.inr ⟨rfl,.error (12,400),⟨rfl,rfl,rfl⟩,(fun y t=>by cases t;decide),(fun x a=>by cases a),by unfold Mach.run;rw[x7 h];rfl⟩⟩
def Y8(h:XInv nm m code ⟨c,stk,pc,st,en,e,p⟩)(hp:¬pc<code.length):XEnd nm m code c st en e p:=by
 obtain⟨b,g,l,z⟩:=h;rcases z with ⟨rfl,rfl,rfl,d,H,f,q,i⟩|⟨rfl,h⟩
 ·have j:pc=code.length:=by have l:pc<=code.length:=l;omega
  refine⟨.ok (false,c),⟨Y,Y,Y,Y⟩,(fun y t=>by cases t),(fun x a=>by cases a;exact d),?_⟩
  rw[i]
  show Mach.loop nm m code (f+1) st (c.mx stk pc)=_
  rw[Mach.loop,show (c.mx stk pc).pc=pc from rfl,xAH aH]
  rfl
 exact h
def Y6(h:XInv nm m code ⟨c,stk,pc,st,en,e,p⟩)(A:en=true):XEnd nm m code c st en e p:=by
 rcases h.2.2.2 with h|h
 ·exact absurd (A.symm.trans h.1) dD
 subst A;exact h.2
end
def DV(nm:Bool)(cv hv:Value)(vs:List InsV)(code:List Mach.Ins)(m:Msg)(K:Hl)(vp:Ksl cS K cv vs)(hR:RIs K vs code)(hf:∀v∈vs,v.op=9->lT v.a.1)(hh:Ksl hdEl K hv m.hs)(hm:MsgOk m)(L:∀o∈code,InsOk o)(vl:code.length<=100000):
  Sp x3 69 [.bool nm,cv,.agg #[str m.from_,str m.to_,i64 m.size,hv]] K [] (Ret fun v K' L'=>∃av,(∃x n c,av=.slice x n c)/\v=.tuple #[OutV (Mach.run nm code m) av,i64 (Mach.run nm code m).steps]/\(∀y,(Mach.run nm code m).err=some y->y.1≠0)/\K'=K/\L'=[sl false dI av (Mach.run nm code m).acts]):=by
 have S:vs.length=code.length:=hR.length;obtain⟨ha,hn,ql,rfl⟩:=hh.isSlice;refine bL func69 Y ntmps69 Y Y fun F w=>?_
 generalize vq:Value.slice ha hn ql=hv at*
 refine Z3 ?_;refine aCJ fun b5=>Z1 ?_;refine aCJ fun t=>Z7 ?_;refine aA (dA WI tb233f cW) Y (Z1 ?_);refine aCJ fun g=>Z3 ?_;refine dU (fun(q:Bool×Int×Int)=>XInv nm m code ⟨Say.start,[],0,0,q.1,q.2.1,q.2.2⟩) (fun q=>[(0,.bool nm),(1,cv),(6,ptr t),(8,ptr g)]) (fun _=>K) (fun q=>[stq g m hv nm Say.start q.1 q.2.1 q.2.2,pt t (bK [.slice none 0 0,i64 0,i64 0] 146)]) ?_ ?_
 ·refine aI (kQ (FR (m:=m) (hv:=hv) (nm:=nm)) (l9 (aQ cL (aQ cL bT)) (Z2 ?_)));refine aA (bU (k:=cS) Y xAN Y aL) Y (Z3 ?_);refine aX 24 Y (fun qj=>?_) (fun qj=>?_)
  ·refine qO fun nv vv ju av=>Z2 ?_;refine bA Y Y (pA g m hv nm nv vv ju av true false 0 12 400 _) bQ Y ?_;refine aCL (aG ?_);exact cB (true,12,400) (Y7 aH) bM Y (fun h hh=>jV h hh)
  refine aU ?_;exact cB (false,0,0) (Wx aH) bM Y a7
 intro ⟨qg,e0,p0⟩ hX0;refine ZH ?_;refine jC (fun(q:ExI) (I:Value)=>XInv nm m code q) (fun q I=>[(0,.bool nm),(1,cv),(6,ptr t),(8,ptr g),(9,I),(10,i64 q.st),(11,i64 q.pc)]) (fun _ _=>K) (fun q I=>[sl false d7 I q.stk,stq g m hv nm q.c q.en q.e q.p,pt t (bK [.slice none 0 0,i64 0,i64 0] 146)]) (fun q _=>if q.en=true then 0 else code.length+1-q.pc) ⟨Say.start,[],0,0,qg,e0,p0⟩ (.slice none 0 0) hX0 bM Y (fun _ h=>iQ h) ?_;intro ⟨c,stk,pc,st,en,e,p⟩ I Q;dsimp only;have vd:pc<=code.length:=Q.2.2.1;have qa:st<=pc:=Q.2.1;refine l9 (aQ dQ (aQ cL (aQ cL bT))) (qO fun nv vv ju av=>Z5 ?_);refine aA (bU (k:=cS) Y xAN Y aL) Y (Z2 ?_);refine bV 31 Y (fun qi=>Z9 ?_) (fun qi=>?_)
 ·refine aA gAB Y (Z3 ?_);refine dZ 37 Y (fun jf=>?_) (fun jf=>?_)
  ·have qp:en=false:=by simpa using jf
   refine kQ (jV (m:=m) (c:=c)) (l9 (aQ dQ (aQ cL (aQ cL bT))) ?_);have h8:stk.length<=8:=Q.1;obtain⟨_,_,_,Q⟩:=Q;obtain⟨rfl,rfl,rfl,i,qu,jy⟩:en=false/\e=0/\p=0/\CInv c/\c.vars.length<=st/\_:=(Q.resolve_right fun h=>absurd (qp.symm.trans h.1) dD);have vr:pc<code.length:=aH;obtain⟨v,qc⟩:∃v,vs[pc]?=some v:=⟨vs[pc]'(by omega),x4 aH⟩;obtain⟨o,ho,qr⟩:=hR.get qc;obtain⟨zb,vn,vh,vg,⟨va,vw⟩,⟨vb,vx⟩,za⟩:=v;obtain⟨rfl,rfl,rfl,rfl,rfl,b,G⟩:=qr;dsimp only at b G;have jw:=hf _ (x8 qc);obtain⟨sa,sn,sc,rfl⟩:=b.isSlice;obtain⟨ta,tn,tc,rfl⟩:=G.isSlice;have jp:=L o (x8 ho);have s:XAt nm m code c stk pc st o:=⟨i,qu,h8,qa,ho,jy⟩;refine Z7 ?_;refine aA (aW (k:=cS) eP Y aL Y Y gAJ) Y ?_;refine aA (fH (n:=0) (k:=cS) gT Y aL bZ) Y (Z1 ?_);refine aCJ fun P=>cA (cQ gT Y Y Y bP gBK (.cons (.cons (.cons (.cons (.cons (.cons (.cons .nil))))))) gAQ) ?_;refine aCK (Z3 ?_);refine kQ (L':=[pt P (bK [i64 o.op,i64 o.n,i64 o.tag,.bool o.oct,.slice sa sn sc,.slice ta tn tc,i64 o.at_] 41),sl false d7 I stk,stq g m hv nm c false 0 0,pt t (bK [.slice none 0 0,i64 0,i64 0] 146)]) a7 (ZG ?_);refine aA (bU (k:=d7) Y xBP Y aL) Y (Z9 ?_);refine aA (bU (k:=cS) Y xAN Y aL) Y (Z2 ?_);refine cH Y Y (Jp o (.slice sa sn sc) (.slice ta tn tc) pc vs.length _ ⟨aH,aH⟩ aH _ b G) Y (Z7 ?_);refine aA gAB Y (Z2 ?_);refine dZ 57 Y (fun jg=>?_) (fun jg=>?_)
   ·have C:Say.snd o pc code.length stk.length=false:=by rw[<-S,<-show (stk.length:Int)-1+1=stk.length by omega];simpa using jg
    refine l9 (aQ jS (aQ jS bT)) (qO fun jr js jd jc=>?_);obtain⟨jx,jq⟩:=Say.step_bad (nm:=nm) (m:=m) (c:=c) C;have hE:XEnd nm m code c (st+1) true 12 pc:=s.err jx jq (by show (12:Int)≠0;decide);refine Z4 ?_;refine bA Y Y (pA g m hv nm jr js jd jc c.keep false 0 12 pc _) bQ Y ?_;refine aCL (Z9 ?_)
    first|refine kQ (jV (m:=m) (c:=c)) ?_|skip
    (have hE2:=hE;skip)
    exact gDG
   have C:Say.snd o pc code.length stk.length=true:=by rw[<-S,<-show (stk.length:Int)-1+1=stk.length by omega];simpa using jg
   refine Z2 ?_;refine dU (fun(q:ExI×Value)=>Say.XNext nm m code pc st q.1) (fun q=>[(0,.bool nm),(1,cv),(6,ptr t),(8,ptr g),(9,q.2),(10,i64 ((st:Int)+1)),(13,i64 q.1.pc)]) (fun _=>K) (fun q=>[sl false d7 q.2 q.1.stk,stq g m hv nm q.1.c q.1.en q.1.e q.1.p,pt t (bK [.slice none 0 0,i64 0,i64 0] 146)]) ?_ ?_
   ·refine ZD ?_;refine aX 63 Y (fun jh=>?_) (fun jh=>Z6 ?_)
    ·have qs:=Say.snd_1 C jh;refine Z5 ?_;refine cG (bJ (z0:=[.bool false]) fF tz4 Y Y Y Y cW) Y ?_;refine aCJ fun vj=>cG (dJ (k:=d7) (ys:=[decide (o.n=1)]) sW Y Y (.there (.there .here)) (fun w j=>dC xBP (SeesSl.at (.blk aL Y Y) j)) gAG gAG) Y ?_;rintro vz K _ ⟨rfl,rfl,vc⟩ -;refine Z3 ?_
     (refine aV (aQ cL (aQ jS (aQ jS bT))) ?_;exact cB (⟨c,stk++[decide (o.n=1)],pc+1,st+1,false,0,0⟩,_) (s.next aH (Say.step_one jh ⟨qs.1,aH⟩) i Y gAG) bM Y a7)
    refine aX 71 Y (fun ji=>?_) (fun ji=>Z6 ?_)
    ·have vt:=Say.snd_2 C ji;obtain⟨x,d⟩:∃x,stk[stk.length-1]?=some x:=⟨stk[stk.length-1]'(by omega),x4 aH⟩;refine Z5 ?_;refine aA (aW (k:=d7) (j:=stk.length-1) fF Y aL Y aH aH) Y ?_;refine aA (cE (o:=0) (k:=d7) ts4 Y aL bZ Y) Y ?_;refine aA gAB Y (aA (aW (k:=d7) (j:=stk.length-1) fF Y aL Y aH aH) Y ?_);have qz:stk.length-1<stk.length:=aH;refine cA (iS (k:=d7) (y0:=!x) ts4 Y Y Y Y gAJ bP) ?_;refine aCK (Z2 ?_)
     (rw[Say.set_last d];(refine aV (aQ dQ (aQ dQ (aQ dQ bT))) ?_;exact cB (⟨c,stk.dropLast++[!x],pc+1,st+1,false,0,0⟩,_) (s.next aH (Say.step_two ji (Say.getLast_of d) h8) i Y gAG) bM Y a7))
    refine aX 81 Y (fun jj=>?_) (fun jj=>Z7 ?_)
    ·have vu:=Say.snd_3 C jj;refine Z8 ?_
     (refine aV (aQ dQ (aQ dQ (aQ dQ bT))) ?_;exact cB (⟨c,stk,pc+o.n.toNat+1,st+1,false,0,0⟩,_) (s.next aH (Say.step_jmp jj (by rw[<-S];omega)) i Y h8) (.cons 0 Y (.cons 1 Y (.cons 6 Y (.cons 8 Y (.cons 9 Y (.cons 10 Y (.cons 13 gBH .nil))))))) Y a7)
    refine aX 87 Y (fun jk=>?_) (fun jk=>Z5 ?_)
    ·have M:o.op=4\/o.op=5:=aH;have qt:=Say.snd_4 C M;obtain⟨x,d⟩:∃x,stk[stk.length-1]?=some x:=⟨stk[stk.length-1]'(by omega),x4 aH⟩;refine Z5 ?_;refine cN [] [] mixed gAD (cM _) (Z2 ?_);refine aJ Y Y (.none Y) Y Y (aW (k:=d7) (j:=stk.length-1) fF Y aL Y aH aH) Y ?_;refine aJ Y Y (.none Y) Y Y (cE (o:=0) (k:=d7) ts4 Y aL bZ Y) Y (Z3 ?_);refine aJ Y Y (.none Y) Y Y (Mw xBC Y Y) Y (Z2 ?_);refine dZ 97 Y (fun A=>ZB ?_) (fun A=>Z5 ?_)
     ·refine aA (mN (k:=d7) (m:=stk.length-1) fF Y (.there .here) (.there .here) Y aH aH) Y (Z3 ?_)
      (refine aV (aQ dQ (aQ dQ (aQ dQ bT))) ?_;refine d8 (gS (sU (m:=stk.length-1) aH)) ?_;rw[<-List.dropLast_eq_take];exact cB (⟨c,stk.dropLast,pc+o.n.toNat+1,st+1,false,0,0⟩,_) (s.next aH ((Say.step_if M (Say.getLast_of d) (by rw[<-S];omega)).trans (by rw[x7 (beq_iff_eq.1 A)])) i Y gAG) (.cons 0 Y (.cons 1 Y (.cons 6 Y (.cons 8 Y (.cons 9 Y (.cons 10 Y (.cons 13 gBH .nil))))))) Y a7)
     refine aA (mN (k:=d7) (m:=stk.length-1) fF Y (.there .here) (.there .here) Y aH aH) Y (Z3 ?_)
     (refine aV (aQ dQ (aQ dQ (aQ dQ bT))) ?_;refine d8 (gS (sU (m:=stk.length-1) aH)) ?_;rw[<-List.dropLast_eq_take];exact cB (⟨c,stk.dropLast,pc+1,st+1,false,0,0⟩,_) (s.next aH ((Say.step_if M (Say.getLast_of d) (by rw[<-S];omega)).trans (by rw[x6 (fun e=>absurd (beq_iff_eq.2 e) (by rw[A];decide))])) i Y gAG) bM Y a7)
    refine aX 87 Y (fun jk=>?_) (fun jk=>?_)
    ·have M:o.op=4\/o.op=5:=aH;have qt:=Say.snd_4 C M;obtain⟨x,d⟩:∃x,stk[stk.length-1]?=some x:=⟨stk[stk.length-1]'(by omega),x4 aH⟩;refine Z2 ?_;refine cN [] [] mixed gAD (cM _) (Z2 ?_);refine aJ Y Y (.none Y) Y Y (aW (k:=d7) (j:=stk.length-1) fF Y aL Y aH aH) Y ?_;refine aJ Y Y (.none Y) Y Y (cE (o:=0) (k:=d7) ts4 Y aL bZ Y) Y (Z3 ?_);refine aJ Y Y (.none Y) Y Y (Mw xBC Y Y) Y (Z2 ?_);refine dZ 97 Y (fun A=>ZB ?_) (fun A=>Z5 ?_)
     ·refine aA (mN (k:=d7) (m:=stk.length-1) fF Y (.there .here) (.there .here) Y aH aH) Y (Z3 ?_)
      (refine aV (aQ dQ (aQ dQ (aQ dQ bT))) ?_;refine d8 (gS (sU (m:=stk.length-1) aH)) ?_;rw[<-List.dropLast_eq_take];exact cB (⟨c,stk.dropLast,pc+o.n.toNat+1,st+1,false,0,0⟩,_) (s.next aH ((Say.step_if M (Say.getLast_of d) (by rw[<-S];omega)).trans (by rw[x7 (beq_iff_eq.1 A)])) i Y gAG) (.cons 0 Y (.cons 1 Y (.cons 6 Y (.cons 8 Y (.cons 9 Y (.cons 10 Y (.cons 13 gBH .nil))))))) Y a7)
     refine aA (mN (k:=d7) (m:=stk.length-1) fF Y (.there .here) (.there .here) Y aH aH) Y (Z3 ?_)
     (refine aV (aQ dQ (aQ dQ (aQ dQ bT))) ?_;refine d8 (gS (sU (m:=stk.length-1) aH)) ?_;rw[<-List.dropLast_eq_take];exact cB (⟨c,stk.dropLast,pc+1,st+1,false,0,0⟩,_) (s.next aH ((Say.step_if M (Say.getLast_of d) (by rw[<-S];omega)).trans (by rw[x6 (fun e=>absurd (beq_iff_eq.2 e) (by rw[A];decide))])) i Y gAG) bM Y a7)
    refine dU (fun(_:Unit)=>True) (fun _=>[(0,.bool nm),(1,cv),(6,ptr t),(8,ptr g),(9,I),(10,i64 ((st:Int)+1)),(12,ptr P),(13,i64 ((pc:Int)+1)),(62,i64 o.op),(105,.bool (decide (6<=o.op/\o.op<=10)))]) (fun _=>K) (fun _=>[pt P (bK [i64 o.op,i64 o.n,i64 o.tag,.bool o.oct,.slice sa sn sc,.slice ta tn tc,i64 o.at_] 41),sl false d7 I stk,stq g m hv nm c false 0 0,pt t (bK [.slice none 0 0,i64 0,i64 0] 146)]) ?_ ?_
    ·refine Z6 ?_;refine aX 105 Y (fun a=>?_) (fun a=>Z6 ?_)
     ·exact gE2
     refine aX 105 Y (fun a=>?_) (fun a=>Z6 ?_)
     ·exact gE2
     refine aX 105 Y (fun a=>?_) (fun a=>Z6 ?_)
     ·exact gE2
     refine aX 105 Y (fun a=>?_) (fun a=>Z4 ?_)
     ·exact gE2
     exact gDH
    intro _ _;refine aX 105 Y (fun a=>?_) (fun a=>Z6 ?_)
    ·have W:=Say.snd_6 C aH;refine Z4 ?_;refine bA Y Y (L6 g m hv nm c i hm o jp aH W.1 (.slice sa sn sc) (.slice ta tn tc) jw _ b G hh) bQ Y ?_;rintro _ K _ ⟨rfl,rfl,qk,qb,rfl⟩ -;refine Z6 ?_;refine cG (bJ (z0:=[.bool false]) fF tz4 Y Y Y Y cW) Y ?_;refine aCJ fun qy=>cG (dJ (k:=d7) (ys:=[(Say.asksV nm m o c).1]) sW Y Y (.there (.there (.there .here))) (fun w j=>dC xBP (SeesSl.at (.blk aL Y Y) j)) gAG gAG) Y ?_;rintro vf K _ ⟨rfl,rfl,qq⟩ -;refine Z3 ?_
     (refine aV (aQ cL (aQ dQ (aQ jS bT))) ?_;exact cB (⟨(Say.asksV nm m o c).2,stk++[(Say.asksV nm m o c).1],pc+1,st+1,false,0,0⟩,_) (s.next aH (Say.step_ask aH W.1 W.2.1 aH) qk qb gAG) bM Y a7)
    refine aX 118 Y (fun u=>?_) (fun u=>Z6 ?_)
    ·have jz:=Say.snd_11 C u;refine Z5 ?_;refine dU (fun(_:Unit)=>True) (fun _=>[(0,.bool nm),(1,cv),(6,ptr t),(8,ptr g),(9,I),(10,i64 ((st:Int)+1)),(12,ptr P),(13,i64 ((pc:Int)+1)),(17,str (if o.tag=1 then []else (o.a[0]?).getD []))]) (fun _=>K) (fun _=>[pt P (bK [i64 o.op,i64 o.n,i64 o.tag,.bool o.oct,.slice sa sn sc,.slice ta tn tc,i64 o.at_] 41),sl false d7 I stk,stq g m hv nm c false 0 0,pt t (bK [.slice none 0 0,i64 0,i64 0] 146)]) ?_ ?_
     ·refine Z7 ?_;refine aX 122 Y (fun jv=>?_) (fun jv=>?_)
      ·obtain⟨x,d⟩:∃x,o.a[0]?=some x:=⟨o.a[0]'(by omega),x4 aH⟩;refine Z3 ?_;refine aA (aW (k:=aZ 9) (j:=0) b0 Y (.known b) Y Y aH) Y (aA (cE (o:=0) (k:=aZ 9) ts9 Y (.known b) d Y) Y (Z2 ?_));exact gEK
      refine aU ?_;exact gEK
     intro _ _;refine Z7 ?_;refine bA Y Y (tP g m hv nm c o.tag _ o.at_ i aH (by split;simp;cases qv:o.a[0]? with|none=>simp|some y=>exact jp.a y (x8 qv)) _) bQ Y ?_;refine aCL (Z2 ?_)
     (rw[Say.cmd_act0];refine Af fun d6 je e6 p6 hS=>?_;refine aV (aQ jS (aQ cL (aQ dQ bT))) ?_;exact cB (⟨d6,stk,pc+1,st+1,je,e6,p6⟩,_) ⟨s.act u jz hS,Y,.inr (Nat.lt_succ_self pc)⟩ bM Y a7)
    refine aX 134 Y (fun B=>?_) (fun B=>?_)
    ·have H:=Say.snd_12 C B;obtain⟨x,vi,qd⟩:∃x l,o.a=x::l:=by cases jl:o.a with|nil=>rw[jl]at H;simp at H|cons x l=>exact⟨x,l,Y⟩
     obtain⟨y,vk,qe⟩:∃x l,o.b=x::l:=by cases jl:o.b with|nil=>rw[jl]at H;simp at H|cons x l=>exact⟨x,l,Y⟩
     have d:o.a[0]?=some x:=by rw[qd];rfl
     have E:o.b[0]?=some y:=by rw[qe];rfl
     refine cN [11] [11] mixed gAD (cM _) (Z3 ?_);refine aJ Y Y (.none Y) Y Y (aW (k:=aZ 9) (j:=0) b0 Y (.known b) Y Y aH) Y (aJ Y Y (.none Y) Y Y (cE (o:=0) (k:=aZ 9) ts9 Y (.known b) d Y) Y (Z2 ?_));refine aJ Y Y (.none Y) Y Y (aW (k:=aZ 9) (j:=0) b0 Y (.known G) Y Y aH) Y (aJ Y Y (.none Y) Y Y (cE (o:=0) (k:=aZ 9) ts9 Y (.known G) E Y) Y (Z2 ?_));refine eR Y (.none Y) Y Y Y (FO g m hv nm c x y o.tag i (jp.b y (x8 E)) _) bQ Y ?_;refine aCL (Z2 ?_)
     (refine Af fun d6 je e6 p6 hS=>?_;refine aV (aQ jS (aQ cL (aQ dQ bT))) ?_;exact cB (⟨d6,stk,pc+1,st+1,je,e6,p6⟩,_) ⟨s.set B H.1.1 qd qe aH hS,Y,.inr (Nat.lt_succ_self pc)⟩ bM Y a7)
    have ve:=Say.snd_13 C aH;refine Z6 ?_;refine aX 148 Y (fun N=>?_) (fun N=>Z6 ?_)
    ·refine l9 (aQ jS (aQ dQ (aQ dQ bT))) (qO fun jr js jd jc=>Z7 ?_)
     (refine d8 (jV (m:=m) (c:={c with keep:=false})) ?_;refine aV (aQ dQ (aQ cL (aQ cL bT))) ?_;exact cB (⟨{c with keep:=false},stk,pc+1,st+1,false,0,0⟩,_) (s.next aH (Say.step_dis N) ⟨i.vn,i.vars,i.parts,i.acts,fun h=>by cases h⟩ Y h8) bM Y a7)
    refine aX 153 Y (fun O=>?_) (fun O=>?_)
    ·refine l9 (aQ jS (aQ dQ (aQ dQ bT))) (qO fun jr js jd jc=>Z7 ?_)
     (refine d8 (jV (m:=m) (c:=c)) ?_;refine aV (aQ dQ (aQ cL (aQ cL bT))) ?_;exact cB (⟨c,stk,pc+1,st+1,true,0,0⟩,_) (s.last O) bM Y a7)
    omega
   intro ⟨⟨c2,qf,qw,vy,qh,e2,p2⟩,qx⟩ ⟨hX2,jb,ja⟩;dsimp only at hX2 jb ja ⊢;subst jb;refine Z5 ?_;refine uAq ?_;exact d9 ⟨c2,qf,qw,st+1,qh,e2,p2⟩ qx hX2 (by dsimp only;rw[x6 (by decide:¬false=true)];rcases ja with h|h;rw[x7 h];omega;split<;>omega) bM Y a7
  have hE:=Y6 Q (by simpa using jf);refine Z6 ?_
  first|refine kQ (jV (m:=m) (c:=c)) ?_|skip
  (have hE2:=hE;skip)
  exact gDG
 refine ZF ?_
 first|refine kQ (jV (m:=m) (c:=c)) ?_|skip
 (have hE:=Y8 Q aH)
 exact gDG
end
end Go.Proofs
end
section
namespace Go.Proofs
open Go Go.SL Go.Syn Go.Mach Tryz
set_option maxRecDepth 100000 in
def aA3:fN x3 324=some ([(str []),.int .i64 0,.int .i64 0,.int .i64 0,.int .u8 0,(str []),.int .i64 0,.int .i64 0],[(0,1),(1,1),(2,1),(3,1),(4,4)]):=cV
def IW(s:aP)(K:Hl):Sp x3 114 [str s] K [] (Ret fun v K' L'=>∃p e x,v=.tuple #[p,i64 e,i64 x]/\HE s p e x K'/\L'=[]):=by
 refine bL func114 Y ntmps114 Y Y fun F w=>ZF ?_;refine aX 12 Y (fun jc=>Z9 ?_) (fun jc=>?_)
 ·refine uAd ?_;refine uD Y Y Y Y gC2 ?_;exact⟨_,Y,_,_,_,Y,.inl ⟨aH,Y,Y,Y⟩,Y⟩
 have hs:s.length<=600:=aH;refine Z5 ?_;refine aA (dA aA3 tb324f cW) Y (Z1 ?_);refine aCJ fun P=>aA (dA tb326 tb326f cW) Y (Z1 ?_);refine aCJ fun E=>Z9 ?_;refine bA Y Y (DO P s 0 _ _ _ _ aH (xAA _) _) bQ Y ?_;refine aCL ?_;have je:=Ru (s:=s);refine Z4 ?_;refine m8 (fun(A:Hl) (O:Res St) (a:List (List UInt8)) (q:Value)=>K.le A/\ROk s O/\QInv s (gG s) O a/\a.length+1400*muR s O<=2000000) (fun _ _ _ _=>[(5,ptr E)]) (fun A _ _ _=>A) (fun _ O a q=>[sl false (aZ 9) q a,rdb E P q,rtx P s O]) (fun _ O _ _=>muR s O) K (Syn.next s 0) [] nilS ⟨xAB _,je,Li,by have:=D4 s (Syn.next s 0);simp;omega⟩ bM Y (fun h hh=>eO (aZ 9) _ (by simpa using Tks.sat (N:=[]) (aQ dQ (aQ cL bT)) h hh)) ?_;intro A O a q ⟨g,b,hQ,ju⟩;refine aI ?_;refine dU (fun(_:Unit)=>True) (fun _=>[(5,ptr E),(52,.bool (decide (rK O=119/\rS O=mG)))]) (fun _=>A) (fun _=>[sl false (aZ 9) q a,rdb E P q,rtx P s O]) ?_ ?_
 ·refine ZA ?_;refine bV 31 Y (fun d=>ZK ?_) (fun d=>ZM ?_)
  ·refine bV 42 Y (fun jb=>ZK ?_) (fun jb=>ZB ?_)
   ·exact gFL
   exact gFL
  exact gFL
 intro _ _;refine aX 52 Y (fun z=>Z9 ?_) (fun z=>Z8 ?_)
 ·refine bA Y Y (fY P s O b aH _) bQ Y ?_;refine aCL ?_;have Q:=lC b;refine Z5 ?_;refine bA Y Y (pQ E P s q 1 (nx s O) dD Q hs _) bQ Y ?_;rintro jk K4 _ ⟨r,r3,jg,G,jv,jq,rfl⟩ ji;refine fS fun K5 jj I=>ZA ?_;refine l5 (fun(i:Nat) (ms:List (List UInt8)) (y:Value)=>i<=r.length/\ms=iW a (r.take i)/\ms.length<=a.length+i) (fun i _ _=>[(5,ptr E),(6,jk),(7,i64 i)]) (fun _ _ _=>K5) (fun i ms y=>[sl false (aZ 9) y ms,rdb E P y,rtx P s r3]) (fun i _ _=>r.length-i) 0 a q ⟨xAA _,Y,xAG _⟩ bM Y (fun h hh=>by simpa using Tks.sat (N:=[]) (aQ jS (aQ cL (aQ cL bT))) h hh) ?_;intro i ms y ⟨js,H,jt⟩;refine Z5 ?_;refine aA (bU (k:=aZ 9) Y xAC Y (.known I)) Y (Z3 ?_);refine aX 63 Y (fun jd=>?_) (fun jd=>?_)
  ·have M:i<r.length:=aH;obtain⟨e,he⟩:∃e,r[i]?=some e:=⟨r[i]'M,x4 M⟩;refine Z5 ?_;refine cN [8] [8] mixed gAD (cM _) (Z6 ?_);refine aJ Y Y (.none Y) Y Y (aW (k:=aZ 9) (j:=i) b0 Y (.known I) Y Y M) Y (aJ Y Y (.none Y) Y Y (cE (o:=0) (k:=aZ 9) ts9 Y (.known I) he Y) Y (eR Y (.none Y) Y Y Y (pX y e ms _ [sl false (aZ 9) y ms] aL aH) bQ Y ?_));refine aCL (Z6 ?_);refine aA gAB Y (Z2 ?_)
   first|refine aX 76 Y (fun l=>?_) (fun l=>?_)|refine dZ 76 Y (fun l=>?_) (fun l=>?_)
   ·refine cN [9,10,13] [13] mixed gAD (aQ dQ bT) (Z7 ?_);refine aJ Y Y (.none Y) Y Y (aW (k:=aZ 9) (j:=i) b0 Y (.known I) Y Y M) Y (aJ Y Y (.none Y) Y Y (cE (o:=0) (k:=aZ 9) ts9 Y (.known I) he Y) Y (s6 Y Y (.none Y) Y Y (bJ (z0:=[(str [])]) b0 tz9 Y Y Y Y cW) Y ?_));refine aCJ fun jr=>?_;refine⟨_,(show Tks _ _ _ from (aQ dQ bT)).sat,?_⟩
    refine s6 Y Y (.none Y) Y Y (dJ (k:=(aZ 9)) (ys:=[e]) eE Y Y (.there (.there .here)) (fun w j=>dC xAC (SeesSl.at (.blk aL Y Y) j)) gAG gAH) Y ?_;rintro jx K _ ⟨rfl,rfl,jp⟩ -;refine⟨_,(show Tks _ _ _ from (aQ dQ bT)).sat,?_⟩
    refine Z2 ?_;refine l7 Y Y (.none Y) Y (bW eL Y Y cR bP aZe Y) ?_;rintro _ K _ ⟨rfl,rfl⟩ -;refine Z8 ?_
    (refine aV (aQ dQ (aQ cL (aQ dQ bT))) ?_;exact gJ (i+1) (ms++[e]) _ ⟨aH,by rw[pJ he,<-H];unfold addN;rw[x6 (by simpa using l)],by simp;omega⟩ aH bM Y a7)
   refine Z8 ?_;exact gJ (i+1) ms _ ⟨aH,by rw[pJ he,<-H];unfold addN;rw[x7 (by simpa using l)],aH⟩ aH bM Y a7
  have S:ms=iW a r:=(by rw[H,zS aH]);subst S;refine Z7 ?_;refine bA Y Y (lL E P s y r3 59 G aH _) bQ Y ?_;refine aCL (Z2 ?_);have ja:=OV b hQ z.1 z.2 G jg;refine uAo ?_;refine jQ _ (rsig s 59 r3) (iW a r) _ ⟨x5 g (x5 ji jj),qW G,ja.1,aH⟩ ja.2 bM Y a7
 refine fS fun K6 u hN=>?_;obtain⟨na,nn,nc,rfl⟩:=hN.isSlice;refine bA Y Y (DG E P s _ a hs aH 7 (xAG _) _ hN _ (xAB _) _ O aH b) bQ Y ?_;rintro jy K7 _ ⟨us,t,W,jf,Q,jh,jw,rfl⟩ L;have hP:=S2 b hQ z Q jf;refine fS fun K8 c h8=>?_;obtain⟨sa,sn,sc,rfl⟩:=h8.isSlice;have hX:=Ya (s:=s) (jh.mono c);refine Z3 ?_;refine dU (fun(_:Unit)=>True) (fun _=>[(5,ptr E),(9,.slice sa sn sc)]) (fun _=>K8) (fun _=>[rdb E P (.slice na nn nc),rtx P s (if rK W=0 then W else rf (4,rW s W) W)]) ?_ ?_
 ·refine ZD ?_;refine aX 102 Y (fun B=>?_) (fun B=>?_)
  ·refine cN [12] [12] mixed gAD (cM _) (ZC ?_);refine eR Y (.none Y) Y Y Y (mH P s W 4 (rW s W) Q aH _) bQ Y ?_;refine aCL (cI ?_)
   (rw[x6 (show ¬rK W=0 by omega)];refine aV (aQ dQ (aQ cL bT)) ?_;exact cB () trivial bM Y a7)
  refine aU ?_
  (rw[x7 (show rK W=0 by omega)];exact cB () trivial bM Y a7)
 intro _ _;have G:ROk s (if rK W=0 then W else rf (4,rW s W) W):=SJ Q (show (4:Int)≠0 by decide)
 generalize (if rK W=0 then W else rf (4,rW s W) W)=r3 at*
 refine ZD ?_;refine aX 123 Y (fun C=>?_) (fun C=>Z9 ?_)
 ·refine aI (cN [] [] mixed gAD (cM _) (ZL ?_));refine uAd ?_;refine uD Y Y Y Y gC2 ?_;exact⟨_,Y,_,_,_,Y,XT hs hP G C,Y⟩
 refine aA (dA tb242 tb242f cW) Y (Z1 ?_);refine aCJ fun jl=>Z6 ?_;refine fC fun K9 f h9=>uAd ?_;refine uD Y Y Y Y (x5 g (x5 u (x5 L (x5 c f)))) ?_;exact⟨_,Y,_,_,_,Y,aAP hs hP G C h9 (hN.mono (x5 L (x5 c f))) (h8.mono f) (hX.mono f),Y⟩
end Go.Proofs
end
end
