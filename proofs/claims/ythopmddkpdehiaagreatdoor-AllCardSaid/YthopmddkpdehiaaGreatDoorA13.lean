/- Part 13 of what the proof stands on: walks and plain laws. Conditions: as each theorem says. -/
import Derived.Lib.ItoaLen
import Derived.Test.YthopmddkpdehiaaGreatDoorA9
set_option linter.unusedVariables false
set_option linter.unusedSimpArgs false
set_option linter.defProp false
set_option maxRecDepth 4000
set_option maxHeartbeats 1000000
section
attribute [local irreducible] Go.SL.T Go.SL.OL Go.SL.D Go.SL.DL Go.SL.Ev Go.SL.Ef Go.SL.EfS
section
namespace Go.Mach
open Go.Syn
section
variable{i j:Nat}{c d x:UInt8}
theorem tB{α β:Type}{f:Nat->Option α}{g:Nat->Option β}(h:∀e,(f e).isSome=(g e).isSome):∀n e,(kL f n e).isSome=(kL g n e).isSome
 |0,_=>rfl
 |n+1,e=>by
  have A:=h e;simp only[kL];cases a:f e<;>cases H:g e<;>rw[a,H]at A
  ·exact tB h n (e+1)
  ·cases A
  ·cases A
  rfl
def BS{α:Type}{f:Nat->Option α}{x:α}:∀ {n e:Nat},kL f n e=some x->∃d,e<=d/\d<e+n/\f d=some x/\∀j,e<=j->j<d->f j=none
 |0,e,h=>by cases h
 |n+1,e,h=>by
  simp only[kL]at h;cases a:f e with
  |some y=>rw[a]at h;cases h;exact⟨e,xAG _,aH,a,fun j b c=>by omega⟩
  |none=>
   rw[a]at h;obtain⟨d,b,c,l,z⟩:=BS h;refine⟨d,aH,aH,l,fun j F G=>?_⟩
   rcases xAD e j with B|B
   ·exact z j B G
   rw[show j=e by omega];exact a
section
variable{w v k:aP}
theorem NS:∀(f:Nat) {g i j:Nat},j<=k.length->k.length<f+j->k.length<g+j->iI w v k f i j=iI w v k g i j:=by
 intro f;induction f with
 |zero=>intro g i j h b;omega
 |succ f l=>
  intro g i j h b p;obtain⟨g,rfl⟩:∃a,g=a+1:=⟨g-1,aH⟩;simp only[iI];cases d:k[j]? with
  |none=>rfl
  |some c=>
   have E:j<k.length:=(xAI.1 d).1;have M:∀e,iI w v k f e (j+1)=iI w v k g e (j+1):=fun e=>l aH aH aH;simp only[M];split<;>grind
def iV(w v k:aP)(i j:Nat):Option (List aP):=iI w v k (k.length+1-j) i j
theorem vL(h:j<k.length):iV w v k i j=iI w v k (k.length-j+1) i j:=by unfold iV;rw[show k.length+1-j=k.length-j+1 by omega]
theorem Ay{f:Nat}(h:j<=k.length)(a:k.length<f+j):iI w v k f i j=iV w v k i j:=NS f h a aH
def q8:iV w v k i k.length=if i=v.length then some []else none:=by
 unfold iV;rw[show k.length+1-k.length=0+1 by omega,iI,xAH (xAG _)]
theorem uJ(d:k[j]?=some c)(h:c.toNat=42):iV w v k i j=kL (fun e=>(iV w v k e (j+1)).map fun ps=>((w.take e).drop i)::ps) (v.length+1-i) i:=by
 grind [iI,vL,Ay]
theorem vM(d:k[j]?=some c)(h:¬c.toNat=42)(hv:v[i]?=none):iV w v k i j=none:=by
 grind [iI,vL]
theorem Bg(d:k[j]?=some c)(h:c.toNat=63)(hv:v[i]?=some x):iV w v k i j=(iV w v k (i+1) (j+1)).map fun ps=>((w.take (i+1)).drop i)::ps:=by
 grind [iI,vL,Ay]
theorem Bh(a:k[j]?=some c)(h:c.toNat=92)(hd:k[j+1]?=some d)(hv:v[i]?=some x):iV w v k i j=if x=d then iV w v k (i+1) (j+2)else none:=by
 have E:=(xAI.1 hd).1;rw[vL aH,iI,a];simp only[if_neg (show ¬c.toNat=42 by omega),hv,if_neg (show ¬c.toNat=63 by omega),if_pos h,hd];rw[Ay aH aH]
theorem Fw(d:k[j]?=some c)(h:¬c.toNat=42)(b:¬c.toNat=63)(l:c.toNat=92->k[j+1]?=none)(hv:v[i]?=some x):iV w v k i j=if x=c then iV w v k (i+1) (j+1)else none:=by
 grind [iI,vL,Ay]
def tab(v k:aP)(i j:Nat):Bool:=(iV v v k i j).isSome
theorem CE(w:aP):∀(n:Nat) {i j:Nat},j<=k.length->k.length<=n+j->(iV w v k i j).isSome=tab v k i j:=by
 intro n;unfold tab;induction n with
 |zero=>
  intro i j h b;obtain rfl:j=k.length:=aH;rw[q8,q8]
 |succ n e=>
  intro i j h b;rcases xAD j k.length with E|E
  ·obtain⟨c,a⟩:∃c,k[j]?=some c:=⟨_,x4 E⟩
   by_cases F:c.toNat=42
   ·grind [uJ,tB]
   cases H:v[i]? with
   |none=>rw[vM a F H,vM a F H]
   |some x=>
    by_cases L:c.toNat=63
    ·grind [Bg]
    by_cases u:c.toNat=92/\∃d,k[j+1]?=some d
    ·obtain⟨u,d,hd⟩:=u;have:=(xAI.1 hd).1;rw[Bh a u hd H,Bh a u hd H];split
     ·exact e aH aH
     rfl
    grind [Fw]
  obtain rfl:j=k.length:=aH;rw[q8,q8]
def Wa:tab v k i k.length=decide (i=v.length):=by unfold tab;rw[q8];split<;>simp[*]
theorem TA(d:k[j]?=some c)(h:c.toNat=42)(p:i<=v.length):tab v k i j=(tab v k i (j+1)||(decide (i<v.length)&&tab v k (i+1) j)):=by
 unfold tab;rw[uJ d h,show v.length+1-i=(v.length-i)+1 by omega,kL];cases b:iV v v k i (j+1)with
 |some f=>rfl
 |none=>
  show (kL _ (v.length-i) (i+1)).isSome=(false||_)
  rw[Bool.false_or];rcases xAD i v.length with a|a
  ·grind [uJ,tB]
  rw[xAQ aH,show v.length-i=0 by omega];rfl
theorem T9(d:k[j]?=some c)(h:c.toNat=63):tab v k i j=(decide (i<v.length)&&tab v k (i+1) (j+1)):=by
 grind [tab,Bg,vM]
def u4(k:aP)(j n:Nat)(d:UInt8):Prop:=(n=2/\(∃c,k[j]?=some c/\c.toNat=92)/\k[j+1]?=some d)\/(n=1/\k[j]?=some d/\¬d.toNat=42/\¬d.toNat=63/\(d.toNat=92->k[j+1]?=none))
theorem Fv{n:Nat}(h:u4 k j n d)(hv:v[i]?=some x):iV w v k i j=if x=d then iV w v k (i+1) (j+n)else none:=by
 grind [u4,Bh,Fw]
theorem Dp{n:Nat}(h:u4 k j n d)(hv:v[i]?=none):iV w v k i j=none:=by
 grind [u4,vM]
theorem Wb{n:Nat}(h:u4 k j n d):tab v k i j=(decide (i<v.length)&&(decide (v[i]?=some d)&&tab v k (i+1) (j+n))):=by
 grind [tab,u4,Dp,Fv]
theorem PD{ps:List aP}(b:k[j]?=some c)(h:c.toNat=42)(H:iV w v k i j=some ps):∃e C,i<=e/\e<=v.length/\iV w v k e (j+1)=some C/\ps=(w.take e).drop i::C/\∀d,i<=d->d<e->tab v k d (j+1)=false:=by
 have E:=(xAI.1 b).1;rw[uJ b h]at H;obtain⟨e,f,g,l,z⟩:=BS H;cases a:iV w v k e (j+1)with
 |none=>rw[a]at l;cases l
 |some C=>
  rw[a]at l;refine⟨e,C,f,aH,a,(xA0 l).symm,fun d F G=>?_⟩;have:=z d F G;rw[<-CE w k.length aH aH];cases t:iV w v k d (j+1)<;>grind [CE]
end
end
end Go.Mach
end
section
namespace Go.Mach
open Go Go.SL Go.Syn Go.Proofs
section
variable{r:Cell×List Bool}{q:Int}{ys:List Bool}{i:Nat}{v:Value}
def rowP(r:Cell×List Bool):Asn:=sl false d7 r.1.1 r.2
abbrev oV(v:Value)(rs:List (Cell×List Bool)):List Asn:=sl false (cC 176) v (rs.map (·.1))::rs.map rowP
def R2{α:Type}{f:α->Asn}{x:α}:∀ {l:List α} {i:Nat},l[i]?=some x->Hs (f x) (l.map f)
 | [],i,h=>by simp at h
 |a::l,0,h=>by simp at h;subst h;exact .here
 |a::l,i+1,h=>.there (R2 (i:=i) gBW)
def M0{α:Type}{f:α->Asn}{x y:α}:∀ {l:List α} {i:Nat},l[i]?=some x->Fnd (f x) (f y) (l.map f) ((l.set i y).map f)
 | [],i,h=>by simp at h
 |a::l,0,h=>by simp at h;subst h;exact .here
 |a::l,i+1,h=>.there (M0 (i:=i) gBW)
def lI{rs:List (Cell×List Bool)}(h:rs[i]?=some r):Hs (sl false d7 r.1.1 r.2) (oV v rs):=.there (R2 (f:=rowP) h)
theorem UO{rs:List (Cell×List Bool)}(h:rs[i]?=some r):(rs.set i (r.1,ys)).map (·.1)=rs.map (·.1):=by
 rw[List.map_set];refine List.ext_getElem? fun j=>?_;rw[List.getElem?_set];split<;>grind
def M3{rs:List (Cell×List Bool)}(h:rs[i]?=some r):Fnd (sl false d7 r.1.1 r.2) (sl false d7 r.1.1 ys) (oV v rs) (oV v (rs.set i (r.1,ys))):=by
 unfold oV;rw[UO h];exact .there (M0 (f:=rowP) (y:=(r.1,ys)) h)
def pW{rs:List (Cell×List Bool)}(h:rs[i]?=some r):Fnd (sl false d7 r.1.1 r.2) (sl false d7 r.1.1 ys) (oV v rs++[]) (oV v (rs.set i (r.1,ys))):=by rw[xAL];exact M3 h
def AD:∀ {L M:List Asn} {h:Hl},Sat (L++M) h->Sat (M++L) h:=by
 intro L M h c;obtain⟨a,b,s,r,hd,rfl⟩:=eT.1 c;exact gH2
def Pg{rs:List (Cell×List Bool)}:∀h,Sat (sl false (cC 176) v (rs.map (·.1)++[r.1])::sl false d7 r.1.1 r.2::rs.map rowP) h->Sat (oV v (rs++[r])) h:=by
 intro h c;unfold oV;rw[List.map_append,List.map_append];refine fB (fun g H=>?_) c
 exact AD (L:=[rowP r]) H
section
variable{a b:aP}
def sG(a b:aP)(rs:List (Cell×List Bool))(z:Int):Prop:=rs.length=a.length+1/\∀(j:Nat) r,rs[j]?=some r->r.2.length=b.length+1/\(z<j->∀k,k<=b.length->r.2[k]?=some (tab a b j k))
def EW(a b:aP)(rs:List (Cell×List Bool))(i:Nat)(q:Int):Prop:=sG a b rs i/\∀r,rs[i]?=some r->∀k:Nat,q<k->k<=b.length->r.2[k]?=some (tab a b i k)
def Lt{rs:List (Cell×List Bool)}(h:sG a b rs i):EW a b rs i b.length:=⟨h,fun r _ k c d=>by omega⟩
theorem SN{rs:List (Cell×List Bool)}(h:EW a b rs i q)(g:q<0):sG a b rs ((i:Int)-1):=by
 grind [EW,sG]
def oH{rs:List (Cell×List Bool)}{k:Nat}{v:Bool}(h:EW a b rs i q)(d:rs[i]?=some r)(t:q=k)(s:k<=b.length)(hv:v=tab a b i k):EW a b (rs.set i (r.1,r.2.set k v)) i (q-1):=by
 obtain⟨Q,O⟩:=xAI.1 d;have p:(rs.set i (r.1,r.2.set k v))[i]?=some (r.1,r.2.set k v):=by rw[List.getElem?_set];simp[Q]
 refine⟨⟨by rw[xBD];exact h.1.1,fun j x c=>?_⟩,fun x c f l g=>?_⟩
 ·by_cases e:j=i
  ·subst e;rw[p]at c;cases c
   exact⟨by rw[xBD];exact(h.1.2 j r d).1,fun N=>by omega⟩
  rw[List.getElem?_set,x6 (fun O=>e O.symm)]at c;exact h.1.2 j x c
 rw[p]at c;cases c
 show (r.2.set k v)[f]?=_
 rw[List.getElem?_set]
 by_cases e:k=f
 ·subst e;have:=(h.1.2 i r d).1;rw[x7 rfl,x7 aH,hv]
 rw[x6 e];exact h.2 r d f aH g
def rZ{rs:List (Cell×List Bool)}{z:Int}(h:sG a b rs z){j:Nat}(E:j<=a.length):∃r,rs[j]?=some r/\r.2.length=b.length+1/\(z<j->∀k,k<=b.length->r.2[k]?=some (tab a b j k)):=by
 obtain⟨r,i⟩:∃r,rs[j]?=some r:=⟨_,x4 (by rw[h.1];omega)⟩;exact⟨r,i,h.2 j r i⟩
end
end
end Go.Mach
end
section
namespace Go.Mach
open Go.Syn
def qM(s:aP):Nat:=(s.takeWhile (fun c=>decide (¬c.toNat=125))).length
theorem Q6(s:aP):qM s<=s.length:=(List.takeWhile_prefix _).length_le
def kA(vars:List (aP×aP))(parts:List aP)(s:aP):aP×Nat:=
 if qM s=s.length then ([],0)else if (held vars parts (s.take (qM s))).2=true then ((held vars parts (s.take (qM s))).1,qM s+1)else ([],0)
theorem SM(vars:List (aP×aP))(parts:List aP)(s:aP):(kA vars parts s).2<=s.length:=by
 grind [kA,Q6]
def Dl(vars:List (aP×aP))(parts:List aP):Nat->aP->aP
 |0,_=>[]
 |f+1,s=>
  match s with
  | []=>[]
  |c::t=>if (c.toNat=36/\((t[0]?).getD 0).toNat=123)/\0<(kA vars parts (t.drop 1)).2 then (kA vars parts (t.drop 1)).1++Dl vars parts f (t.drop (1+(kA vars parts (t.drop 1)).2))else c::Dl vars parts f t
theorem Bd{vars:List (aP×aP)}{parts:List aP}:∀ {f g:Nat} {s:aP},s.length<f->s.length<g->Dl vars parts f s=Dl vars parts g s
 |0,_,s,h,_=>by omega
 |_+1,0,s,_,h=>by omega
 |f+1,g+1,[],_,_=>rfl
 |f+1,g+1,c::t,a,b=>by
  simp only[List.length_cons]at a b;simp only[Dl];rw[Bd (f:=f) (g:=g) gBB gBB,Bd (f:=f) (g:=g) (s:=t) aH aH]
def exp2(vars:List (aP×aP))(parts:List aP)(s:aP):aP:=Dl vars parts (s.length+1) s
section
variable{vars:List (aP×aP)}{parts:List aP}{s:aP}{i:Nat}{c d:UInt8}
def Aq:exp2 vars parts []=[]:=rfl
theorem xH{t:aP}:exp2 vars parts (c::t)=if (c.toNat=36/\((t[0]?).getD 0).toNat=123)/\0<(kA vars parts (t.drop 1)).2 then (kA vars parts (t.drop 1)).1++exp2 vars parts (t.drop (1+(kA vars parts (t.drop 1)).2))else c::exp2 vars parts t:=by
 grind [exp2,Dl,kA,Bd]
def n9(d:s[i]?=some c):s.drop i=c::s.drop (i+1):=by
 obtain⟨h,e⟩:=xAI.1 d;rw[xAV h,e]
def Ro(a:s[i]?=some c)(B:c.toNat=36)(hd:s[i+1]?=some d)(C:d.toNat=123)(u:0<(kA vars parts (s.drop (i+2))).2):exp2 vars parts (s.drop i)=(kA vars parts (s.drop (i+2))).1++exp2 vars parts (s.drop (i+2+(kA vars parts (s.drop (i+2))).2)):=by
 rw[n9 a,xH,List.drop_drop,List.drop_drop,show i+1+1=i+2 from rfl];rw[x7 ⟨⟨B,by rw[xBB];show ((s[i+1]?).getD 0).toNat=123;rw[hd];exact C⟩,u⟩,show i+1+(1+(kA vars parts (s.drop (i+2))).2)=i+2+(kA vars parts (s.drop (i+2))).2 from aH]
def UK(d:s[i]?=some c)(u:(c.toNat=36/\((s[i+1]?).getD 0).toNat=123)->(kA vars parts (s.drop (i+2))).2=0):exp2 vars parts (s.drop i)=c::exp2 vars parts (s.drop (i+1)):=by
 rw[n9 d,xH,List.drop_drop,show i+1+1=i+2 from rfl,x6];rintro⟨⟨h,b⟩,l⟩;rw[xBB]at b;have:=u ⟨h,b⟩;omega
def yZ:∀(n:Nat) (s:aP),n<=s.length->(∀j,j<n->Lib.occAt s [36,123] j=false)->exp2 vars parts s=s.take n++exp2 vars parts (s.drop n)
 |0,s,_,_=>rfl
 |n+1,[],h,_=>absurd h cD
 |n+1,c::t,h,a=>by
  have P:=a 0 aH;have w:=yZ n t gBW (fun j E=>by have:=a (j+1) aH;unfold Lib.occAt at this ⊢;simpa using this);rw[xH,x6,w]
  ·rfl
  rintro⟨⟨e,b⟩,_⟩;cases t with
  |nil=>cases b
  |cons d u=>
   have M:c=36:=xBJ.1 gAO;have O:d=123:=xBJ.1 (by simpa using b);subst M;subst O
   simp[Lib.occAt]at P
def JV{o:Nat}(h:Lib.indexByte s 125=o):qM s=o:=by
 obtain⟨b,c⟩:=Lib.indexByte_some h;obtain⟨v,A⟩:=xAI.1 b;have:s=s.take o++125::s.drop (o+1):=by rw[<-A,<-xAV v,List.take_append_drop]
 unfold qM;rw[this,List.takeWhile_append_of_pos,xB5]
 ·simp;omega
 intro a d;obtain⟨j,E,e⟩:=List.getElem_of_mem d;rw[xA6]at E;have l:=c j aH;rw[List.getElem_take]at e;rw[x4 aH,e]at l;exact gFP
theorem JU(h:Lib.indexByte s 125= -1):qM s=s.length:=by
 have b:=Lib.indexByte_none h;unfold qM
 congr 1
 have L:∀a∈s,decide (¬a.toNat=125)=true:=?_
 ·have:=List.takeWhile_append_of_pos (p:=fun c:UInt8=>decide (¬c.toNat=125)) (l₁:=s) (l₂:=[]) L
  exact gF0
 intro a d;obtain⟨j,E,e⟩:=List.getElem_of_mem d;have l:=b j;rw[x4 E,e]at l;exact gFP
theorem G9:∀(f:Nat) (s acc:aP),s.length<=f->kK vars parts (f+1) s acc=acc++exp2 vars parts s:=by
 intro f;induction f with
 |zero=>
  intro s acc h;cases s with
  |nil=>simp[kK,Aq]
  |cons c t=>simp at h
 |succ f L=>
  intro s acc h;rw[kK]
  by_cases P:s=[]
  ·subst P;simp[Aq]
  rw[x6 P];rcases Lib.index_spec s [36,123]with ⟨e,b⟩|⟨i,e,I,r,b⟩
  ·rw[x7 aH,yZ s.length s (xAG _) (fun j K=>b j aH),List.drop_length,Aq,xBG,xAL]
  have B:=Lib.occAt_room r;simp at B;rw[x6 aH,e];simp only[Int.toNat_natCast];rw[yZ i s aH b];have W:=Lib.occAt_head rfl r;have v:=Lib.occAt_second rfl r;have p:s.drop i=36::123::s.drop (i+2):=by rw[n9 W,n9 v]
  obtain⟨u,C⟩:∃u,s.drop (i+2)=u:=⟨_,rfl⟩;have N:u.length+2+i=s.length:=by rw[<-C,xBF];omega
  rw[p,C,xH];have F:Lib.indexByte (36::123::u) 125=if Lib.indexByte u 125<0 then -1 else Lib.indexByte u 125+2:=by
   have q:=Lib.indexByte_ge u 125;have M:∀(c:UInt8) (l:aP),(c==125)=false->Lib.indexByte (c::l) 125=if Lib.indexByte l 125= -1 then -1 else Lib.indexByte l 125+1:=fun c l w=>by simp[Lib.indexByte,w]
   rw[M _ _ dD,M _ _ dD]
   generalize Lib.indexByte u 125=y at q ⊢
   repeat' split
   all_goals omega
  have G:=Lib.indexByte_ge u 125;rw[F]
  show _=acc++(s.take i++if ((36:UInt8).toNat=36/\((123:UInt8)).toNat=123)/\0<(kA vars parts u).2 then (kA vars parts u).1++exp2 vars parts (u.drop (kA vars parts u).2 |> fun x=>(123::u).drop (1+(kA vars parts u).2))else 36::exp2 vars parts (123::u))
  by_cases z:Lib.indexByte u 125<0
  ·grind [kA,JU]
  obtain⟨o,d⟩:∃o:Nat,Lib.indexByte u 125=o:=⟨(Lib.indexByte u 125).toNat,aH⟩;have g:=JV d;have A:o<u.length:=(xAI.1 (Lib.indexByte_some d).1).1;rw[x6 z,d];have a:((36::123::u).take (max ((o:Int)+2) 2).toNat).drop 2=u.take o:=by
   rw[show (max ((o:Int)+2) 2).toNat=o+2 from aH];rfl
  have E:kA vars parts u=if (held vars parts (u.take o)).2=true then ((held vars parts (u.take o)).1,o+1)else ([],0):=by
   unfold kA;rw[g,x6 aH]
  rw[a]
  by_cases H:(held vars parts (u.take o)).2=true
  ·grind
  grind
def BP{nm:Bool}:cY nm vars parts s=if nm=true then (exp2 vars parts s).take 1024 else s:=by
 unfold cY;rw[G9 _ _ _ (xAG _)];rfl
end
end Go.Mach
end
section
namespace Go.Mach
open Go.Syn Go.Proofs
def JE{k v:aP}:∀ {vars:List (aP×aP)} {i:Nat},vars[i]?=some (k,v)->(∀j,j<i->(vars.map (·.1))[j]?≠some k)->vget vars k=v
 | [],i,h,_=>by simp at h
 |(a,b)::r,0,h,_=>by simp at h;unfold vget;rw[x7 h.1];exact h.2
 |(a,b)::r,i+1,h,u=>by
  have P:=u 0 aH;unfold vget;rw[x6 (fun e=>P gC4)];exact JE (i:=i) gBW (fun j E=>by have:=u (j+1) aH;simpa using this)
def Gn{k:aP}:∀ {vars:List (aP×aP)},(∀j:Nat,j<vars.length->(vars.map (·.1))[j]?≠some k)->vget vars k=[]
 | [],_=>rfl
 |(a,b)::r,u=>by
  have P:=u 0 cD;unfold vget;rw[x6 (fun e=>P gC4)];exact Gn (fun j E=>by have:=u (j+1) (by simpa using E);simpa using this)
def JF{k v u:aP}:∀ {vars:List (aP×aP)} {i:Nat},vars[i]?=some (k,v)->(∀j,j<i->(vars.map (·.1))[j]?≠some k)->(vput vars k u).map (·.1)=vars.map (·.1)/\(vput vars k u).map (·.2)=(vars.map (·.2)).set i u
 | [],i,h,_=>by simp at h
 |(a,b)::r,0,h,_=>by simp at h;unfold vput;rw[x7 h.1];simp
 |(a,b)::r,i+1,h,c=>by
  have P:=c 0 aH;unfold vput;rw[x6 (fun e=>P gC4)];obtain⟨d,f⟩:=JF (u:=u) (i:=i) (vars:=r) (k:=k) (v:=v) gBW (fun j E=>by have:=c (j+1) aH;simpa using this);exact⟨by simp[d],by simp[f]⟩
def Gp{k u:aP}:∀ {vars:List (aP×aP)},(∀j:Nat,j<vars.length->(vars.map (·.1))[j]?≠some k)->(vput vars k u).map (·.1)=vars.map (·.1)++[k]/\(vput vars k u).map (·.2)=vars.map (·.2)++[u]
 | [],_=>⟨rfl,rfl⟩
 |(a,b)::r,c=>by
  have P:=c 0 cD;unfold vput;rw[x6 (fun e=>P gC4)];obtain⟨h,d⟩:=Gp (u:=u) (vars:=r) (k:=k) (fun j E=>by have:=c (j+1) (by simpa using E);simpa using this);exact⟨by simp[h],by simp[d]⟩
theorem AQ(vars:List (aP×aP))(k u:aP):(vput vars k u).length<=vars.length+1:=by
 induction vars<;>grind [vput]
section
variable{vars:List (aP×aP)}{parts:List aP}{s:aP}{i:Nat}
def Q5(p:i<=s.length)(h:∀j c,j<i->s[j]?=some c->¬c.toNat=125)(A:¬(i<s.length/\¬((s[i]?).getD 0).toNat=125)):qM s=i:=by
 have L:∀(n:Nat) (s:aP),n<=s.length->(∀j c,j<n->s[j]?=some c->¬c.toNat=125)->¬(n<s.length/\¬((s[n]?).getD 0).toNat=125)->qM s=n:=by
  intro n;induction n with
  |zero=>
   intro s _ _ A;cases s with
   |nil=>rfl
   |cons c t=>
    have:c.toNat=125:=xA3 fun a=>A ⟨cD,a⟩
    unfold qM;rw[xB5,x6 (by simp[this])];rfl
  |succ n w=>
   intro s u h A;cases s with
   |nil=>simp at u
   |cons c t=>
    have a:=h 0 c aH rfl;have:=w t (by simpa using u) (fun j d E hd=>h (j+1) d aH (by simpa using hd)) (fun⟨b,e⟩=>A ⟨by simpa using b,by simpa using e⟩);unfold qM at this ⊢;rw[xB5,x7 (by simp[a]),xBT,this]
 exact L i s p h A
def Lq(r:qM s=i)(h:i=s.length):kA vars parts s=([],0):=by unfold kA;rw[x7 aH]
def Pe{d:UInt8}(r:qM s=i)(h:¬i=s.length)(e:s.take i=[d])(hd:48<=d.toNat/\d.toNat<=57):kA vars parts s=((parts[d.toNat-48]?).getD [],i+1):=by
 unfold kA;rw[r,x6 h,e,zA hd];rfl
def IT(r:qM s=i)(h:¬i=s.length)(u:¬(∃d,s.take i=[d]/\48<=d.toNat/\d.toNat<=57)):kA vars parts s=if named (s.take i)=true then (vget vars (dY (s.take i)),i+1)else ([],0):=by
 unfold kA;rw[r,x6 h,uK u]
def OP{j:Nat}(h:j<=9):(parts.take 10)[j]?=parts[j]?:=by rw[List.getElem?_take,x7 aH]
def Gx{a b:aP}(h:i+b.length<=a.length)(e:(a.take (i+b.length)).drop i=b):0<=Lib.index a b:=by
 rcases Lib.index_spec a b with ⟨_,d⟩|⟨j,E,_⟩
 ·have c:=d i aH;rw[Lib.occAt_iff_take a b i h]at c;rw[List.drop_take,show i+b.length-i=b.length by omega]at e;rw[e]at c;simp at c
 omega
def HO{a b:aP}(h:∀j,j<i->¬(a.take (j+b.length)).drop j=b)(p:a.length<i+b.length):¬0<=Lib.index a b:=by
 rcases Lib.index_spec a b with ⟨e,_⟩|⟨j,E,x,q,_⟩
 ·omega
 exfalso
 have c:j+b.length<=a.length:=by
  rcases Lib.occAt_room q with h|h
  ·exact h
  subst h;simpa using x
 rw[Lib.occAt_iff_take a b j c]at q;refine h j aH ?_;rw[List.drop_take,show j+b.length-j=b.length by omega]
 simpa using q
end
end Go.Mach
end
section
namespace Go.Mach
open Go.Syn
section
variable{s:aP}{n:Nat}{c:UInt8}
def is64(s:aP)(j:Nat):Prop:=((s[j]?).getD 0).toNat=64
def Bl(h:is64 s n):s[n]?=some 64:=by
 unfold is64 at h;cases a:s[n]? with
 |none=>rw[a]at h;cases h
 |some c=>rw[a]at h;rw[xBJ.1 (show c.toNat=(64:UInt8).toNat from h)]
def EX(h:is64 s n)(a:∀j,j<n->¬is64 s j):e8 s=(decide (s.take n≠[])&&decide (s.drop (n+1)≠[])&&!(s.any fW)&&!((s.drop (n+1)).any fun c=>decide (c=64))&&decide (s.length<=32)):=by
 have d:=Bl h;have b:s.findIdx? (fun x=>decide (x=64))=some n:=by
  rw[xBE];obtain⟨v,e⟩:=xAI.1 d;refine⟨v,by simp[e],fun j E=>?_⟩
  have:=a j E;simp only[decide_eq_true_eq];intro O;exact this (by unfold is64;rw[x4 aH,O];rfl)
 unfold e8;rw[b]
def Nn(h:∀j,j<s.length->¬is64 s j):e8 s=false:=by
 have a:s.findIdx? (fun x=>decide (x=64))=none:=by
  rw[List.findIdx?_eq_none_iff];intro x b;obtain⟨j,E,e⟩:=List.getElem_of_mem b;have:=h j E;simp only[decide_eq_false_iff_not];intro O;exact this (by unfold is64;rw[x4 E,e,O];rfl)
 unfold e8;rw[a]
theorem CQ(d:s[n]?=some c)(r:fW c=true):e8 s=false:=by
 grind [e8]
def Qu{i:Nat}(p:i<n)(h:is64 s i)(a:∀j,j<i->¬is64 s j)(b:is64 s n):e8 s=false:=by
 have d:=Bl b;have:((s.drop (i+1)).any fun c=>decide (c=64))=true:=by
  refine List.any_eq_true.2 ⟨64,x8 (i:=n-(i+1)) ?_,cD⟩
  rw[xBB,show i+1+(n-(i+1))=n by omega];exact d
 rw[EX h a,this];simp
def Qt(h:is64 s n)(f:∀j,j<s.length->¬j=n->¬is64 s j)(r:∀(j:Nat) (c:UInt8),s[j]?=some c->fW c=false):e8 s=decide (0<n/\n+1<s.length/\s.length<=32):=by
 have i:=Bl h;have v:=(xAI.1 i).1;have e:s.any fW=false:=by
  rw[Bool.eq_false_iff];intro b;obtain⟨c,d,a⟩:=List.any_eq_true.1 b;obtain⟨j,E⟩:=xA4 d;rw[r j c E]at a;cases a
 have g:((s.drop (n+1)).any fun c=>decide (c=64))=false:=by
  rw[Bool.eq_false_iff];intro b;obtain⟨c,d,a⟩:=List.any_eq_true.1 b;obtain⟨j,E⟩:=xA4 d;rw[xBB]at E;have x:=(xAI.1 E).1;refine f (n+1+j) x aH ?_;unfold is64;rw[E]
  have:c=64:=by simpa using a
  rw[this];rfl
 rw[EX h (fun j E=>f j aH aH),e,g];rw[xCC];have M:s.take n≠[]↔0<n:=by rw[<-List.length_pos_iff,xA6];omega
 have O:s.drop (n+1)≠[]↔n+1<s.length:=by rw[<-List.length_pos_iff,xBF];omega
 simp only[Bool.and_eq_true,decide_eq_true_eq,Bool.not_false,M,O,and_true,true_and]
 constructor
 ·rintro⟨⟨l,z⟩,F⟩;exact⟨l,z,F⟩
 rintro⟨l,z,F⟩;exact⟨⟨l,z⟩,F⟩
end
end Go.Mach
end
section
namespace Go.Proofs
open Go Go.SL Go.Syn Go.Mach Tryz
section
variable{s:aP}{i:Nat}{c:UInt8}
def letB(c:UInt8):Bool:=(decide (97<=c.toNat)&&decide (c.toNat<=122))||(decide (65<=c.toNat)&&decide (c.toNat<=90))||decide (c.toNat=95)
def digB(c:UInt8):Bool:=decide (48<=c.toNat)&&decide (c.toNat<=57)
def xK(c:UInt8):(letB c||digB c)=jT c:=by
 have h:∀n:Fin 256,(letB (UInt8.ofNat n.1)||digB (UInt8.ofNat n.1))=jT (UInt8.ofNat n.1):=by decide+kernel
 simpa using h ⟨c.toNat,c.toNat_lt⟩
def m6(c:UInt8)(K:Hl):Sp x3 85 [.int .u8 c.toNat] K [] (Val (.bool (letB c)) K):=by
 refine bL func85 Y ntmps85 Y Y fun F w=>ZA ?_;refine bV 5 Y (fun a=>Z6 ?_) (fun a=>ZA ?_)
 ·refine bV 9 Y (fun b=>ZG ?_) (fun b=>Z6 ?_)
  ·refine j4 ?_ _
   unfold letB
   generalize c.toNat=y at*
   exact gDI
  refine bV 12 Y (fun g=>Z8 ?_) (fun g=>ZG ?_)
  ·refine bV 17 Y (fun N=>Z8 ?_) (fun N=>ZA ?_)
   ·refine j4 ?_ _
    unfold letB
    generalize c.toNat=y at*
    exact gDI
   refine j4 ?_ _
   unfold letB
   generalize c.toNat=y at*
   exact gDI
  refine j4 ?_ _
  unfold letB
  generalize c.toNat=y at*
  exact gDI
 refine bV 12 Y (fun g=>Z8 ?_) (fun g=>ZG ?_)
 ·refine bV 17 Y (fun N=>Z8 ?_) (fun N=>ZA ?_)
  ·refine j4 ?_ _
   unfold letB
   generalize c.toNat=y at*
   exact gDI
  refine j4 ?_ _
  unfold letB
  generalize c.toNat=y at*
  exact gDI
 refine j4 ?_ _
 unfold letB
 generalize c.toNat=y at*
 exact gDI
def mP(c:UInt8)(K:Hl):Sp x3 86 [.int .u8 c.toNat] K [] (Val (.bool (digB c)) K):=by
 refine bL func86 Y ntmps86 Y Y fun F w=>ZA ?_;refine bV 5 Y (fun a=>ZA ?_) (fun a=>Z8 ?_)
 ·refine j4 ?_ _
  unfold digB
  generalize c.toNat=y at*
  exact gDI
 refine j4 ?_ _
 unfold digB
 generalize c.toNat=y at*
 exact gDI
def IM(s:List UInt8)(K:Hl)(t:s.length<=140737488355328):Sp x3 88 [str s] K [] (Val (.bool (rL s)) K):=by
  refine bL func88 Y ntmps88 Y Y fun F w=>?_;refine ZC ?_;refine eD (fun(i:Nat)=>i<=s.length/\∀j c,j<i->s[j]?=some c->iU j c=true) (fun i=>[(0,str s),(3,i64 i)]) (fun _=>_) (fun i=>[]) (fun i=>s.length-i) 0 ⟨xAA _,fun j c h _=>by omega⟩ (.cons 0 Y (.cons 3 Y .nil)) Y a7 ?_;intro i ⟨O,G⟩;refine Z9 ?_;refine aX 9 Y (fun p=>?_) (fun p=>?_)
  · have M:i<s.length:=aH;obtain⟨c,d⟩:∃c,s[i]?=some c:=⟨s[i]'M,x4 M⟩;refine Z9 ?_;refine cH Y Y (m6 c _) Y ?_;refine Z8 ?_;refine cH Y Y (mP c _) Y ?_;refine Z6 ?_;refine aA gAB Y ?_;refine Z1 ?_;refine kH 22 Y (fun u=>?_) (fun u=>?_)
    · refine Z3 ?_;refine aA gAB Y ?_;refine Z2 ?_;refine kH 26 Y (fun g=>?_) (fun g=>?_)
      · refine ZA ?_;refine bV 32 Y (fun q=>ZA ?_) (fun q=>ZK ?_)
        · refine bV 37 Y (fun b=>ZJ ?_) (fun b=>Z9 ?_)
          · refine uAd ?_;refine Z1 ?_;refine j4 ?_ _
            (symm; rw [Bool.eq_false_iff]; intro a
             have:=((nY s).1 a).1 i c d;unfold iU at this;simp only[Bool.or_eq_true,Bool.and_eq_true,decide_eq_true_eq]at this;have v:jT c=false:=by rw[<-xK];simp only[Bool.not_eq_true']at u g;rw[u,g];rfl
             rw[v]at this;simp at this;omega)
          refine aX 41 Y (fun l=>ZB ?_) (fun l=>Z8 ?_)
          · refine uAd ?_;refine Z1 ?_;refine j4 ?_ _
            (symm; rw [Bool.eq_false_iff]; intro a
             have:=((nY s).1 a).1 i c d;unfold iU at this;simp only[Bool.or_eq_true,Bool.and_eq_true,decide_eq_true_eq]at this;have v:jT c=false:=by rw[<-xK];simp only[Bool.not_eq_true']at u g;rw[u,g];rfl
             rw[v]at this;simp at this;omega)
          have r:iU i c=true:=gAN;refine cX (i+1) ⟨aH,fun j N E z=>?_⟩ aH (.cons 0 Y (.cons 3 Y .nil)) Y a7
          rcases xAD j i with h|h
          · exact G j N h z
          exact gDX
        have r:iU i c=true:=gAN;refine cX (i+1) ⟨aH,fun j N E z=>?_⟩ aH (.cons 0 Y (.cons 3 Y .nil)) Y a7
        rcases xAD j i with h|h
        · exact G j N h z
        exact gDX
      refine ZQ ?_;have r:iU i c=true:=gAN;refine cX (i+1) ⟨aH,fun j N E z=>?_⟩ aH (.cons 0 Y (.cons 3 Y .nil)) Y a7
      rcases xAD j i with h|h
      · exact G j N h z
      exact gDX
    refine ZU ?_;have r:iU i c=true:=gAN;refine cX (i+1) ⟨aH,fun j N E z=>?_⟩ aH (.cons 0 Y (.cons 3 Y .nil)) Y a7
    rcases xAD j i with h|h
    · exact G j N h z
    exact gDX
  have B:∀j c,s[j]?=some c->iU j c=true:=fun j c d=>G j c gCW d
  refine ZB ?_;refine bV 45 Y (fun f=>ZB ?_) (fun f=>Z8 ?_)
  · refine uAd ?_;refine Z1 ?_;refine j4 ?_ _
    (rw [xCC,nY]
     simp only[decide_eq_true_eq];exact⟨fun h=>⟨B,by rintro rfl;simp at*,aH⟩,fun h=>by omega⟩)
  refine uAd ?_;refine Z1 ?_;refine j4 ?_ _
  (symm;rw[Bool.eq_false_iff];intro a;have:=((nY s).1 a).2.1;cases s<;>simp at*;done)
def mZ(c:UInt8):letB c=gE c:=by
 have h:∀n:Fin 256,letB (UInt8.ofNat n.1)=gE (UInt8.ofNat n.1):=by decide+kernel
 simpa using h ⟨c.toNat,c.toNat_lt⟩
def pM(c:UInt8):digB c=fX c:=rfl
def PA(h:65<=c.toNat)(b:c.toNat<=90):mA 65 90 32 c=c+32:=x7 ⟨h,b⟩
def Jf(h:¬(65<=c.toNat/\c.toNat<=90)):mA 65 90 32 c=c:=x6 h
def NW(h:97<=c.toNat)(b:c.toNat<=122):mA 97 122 224 c=c+224:=x7 ⟨h,b⟩
def Im(h:¬(97<=c.toNat/\c.toNat<=122)):mA 97 122 224 c=c:=x6 h
def Dq(s:aP):(qI s).length=s.length:=by simp[qI]
def wN(d:s[i]?=some c):dY (s.take (i+1))=dY (s.take i)++[mA 65 90 32 c]:=by
 rw[xA2,d];simp[dY]
def vN(d:s[i]?=some c):qI (s.take (i+1))=qI (s.take i)++[mA 97 122 224 c]:=by
 rw[xA2,d];simp[qI]
def kB(s:List UInt8)(K:Hl)(f:s.length<=140737488351232):Sp x3 216 [str s] K [] (Val (str (dY s)) K):=by
  refine bL func216 Y ntmps216 Y Y fun F w=>ZH ?_;refine eD (fun(i:Nat)=>i<=s.length) (fun i=>[(0,str s),(3,str (dY (s.take i))),(4,i64 i)]) (fun _=>K) (fun _=>[]) (fun i=>s.length-i) 0 (xAA _) bM Y a7 ?_;intro i p;refine Z9 ?_;refine aX 9 Y (fun j=>?_) (fun j=>?_)
  · have M:i<s.length:=aH;obtain⟨c,e⟩:∃c,s[i]?=some c:=⟨s[i]'M,x4 M⟩;have b:(dY (s.take i)).length=i:=by rw[pB,xA6];omega
    refine ZI ?_;refine bV 17 Y (fun N=>Z7 ?_) (fun N=>ZB ?_)
    · refine aX 20 Y (fun d=>Z2 ?_) (fun d=>Z5 ?_)
      · refine aA (Mu c 32 Y Y) Y (Z6 ?_);refine cG (bJ (z0:=[.int .u8 0]) iG tz5 Y Y Y Y cW) Y ?_;refine aCJ fun A=>aA gA0 Y ?_;refine aA (eG Y Y gBG) Y (Z9 ?_);refine uAd ?_
        (have I : mA 65 90 32 c = c + 32 := PA aH aH
         exact cX (i+1) aH aH (.cons 0 Y (.cons 3 (by rw[wN e,I];rfl) bM)) Y a7)
      refine cG (bJ (z0:=[.int .u8 0]) iG tz5 Y Y Y Y cW) Y ?_;refine aCJ fun A=>aA gA0 Y ?_;refine aA (eG Y Y gBG) Y (Z9 ?_);refine uAd ?_
      (have I : mA 65 90 32 c = c := Jf aH
       exact cX (i+1) aH aH (.cons 0 Y (.cons 3 (by rw[wN e,I];rfl) bM)) Y a7)
    refine cG (bJ (z0:=[.int .u8 0]) iG tz5 Y Y Y Y cW) Y ?_;refine aCJ fun A=>aA gA0 Y ?_;refine aA (eG Y Y gBG) Y (Z9 ?_);refine uAd ?_
    (have I : mA 65 90 32 c = c := Jf aH
     exact cX (i+1) aH aH (.cons 0 Y (.cons 3 (by rw[wN e,I];rfl) bM)) Y a7)
  exact gGO
def BY(c:UInt8)(K:Hl):Sp x3 287 [.int .u8 c.toNat] K [] (Val (.bool (fW c)) K):=by
 refine bL func287 Y ntmps287 Y Y fun F w=>ZA ?_;refine bV 5 Y (fun b=>ZG ?_) (fun b=>Z6 ?_)
 ·refine j4 ?_ _
  unfold fW
  generalize c.toNat=y at*
  exact gDI
 refine bV 9 Y (fun d=>ZC ?_) (fun d=>Z6 ?_)
 ·refine j4 ?_ _
  unfold fW
  generalize c.toNat=y at*
  exact gDI
 refine bV 13 Y (fun a=>Z8 ?_) (fun a=>ZA ?_)
 ·refine j4 ?_ _
  unfold fW
  generalize c.toNat=y at*
  exact gDI
 refine j4 ?_ _
 unfold fW
 generalize c.toNat=y at*
 exact gDI
def IS(s:List UInt8)(K:Hl)(f:s.length<=140737488351232):Sp x3 217 [str s] K [] (Val (str (qI s)) K):=by
  refine bL func217 Y ntmps217 Y Y fun F w=>ZH ?_;refine eD (fun(i:Nat)=>i<=s.length) (fun i=>[(0,str s),(3,str (qI (s.take i))),(4,i64 i)]) (fun _=>K) (fun _=>[]) (fun i=>s.length-i) 0 (xAA _) bM Y a7 ?_;intro i p;refine Z9 ?_;refine aX 9 Y (fun j=>?_) (fun j=>?_)
  · have M:i<s.length:=aH;obtain⟨c,e⟩:∃c,s[i]?=some c:=⟨s[i]'M,x4 M⟩;have b:(qI (s.take i)).length=i:=by rw[Dq,xA6];omega
    refine ZI ?_;refine bV 17 Y (fun N=>Z7 ?_) (fun N=>ZB ?_)
    · refine aX 20 Y (fun d=>Z2 ?_) (fun d=>Z5 ?_)
      · refine aA (kD (v:=.int .u8 ((c+224).toNat:Int)) (Ao (m:=c.toNat) (n:=32) aH aH Y Y) (by rw[UInt8.toNat_add];congr 1;show _=(((c.toNat+224)%256:Nat):Int);omega)) Y (Z6 ?_);refine cG (bJ (z0:=[.int .u8 0]) iG tz5 Y Y Y Y cW) Y ?_;refine aCJ fun A=>aA gAZ Y ?_;refine aA (eG Y Y gBG) Y (Z9 ?_);refine uAd ?_
        (have I : mA 97 122 224 c = c + 224 := NW aH aH
         exact cX (i+1) aH aH (.cons 0 Y (.cons 3 (by rw[vN e,I];rfl) bM)) Y a7)
      refine cG (bJ (z0:=[.int .u8 0]) iG tz5 Y Y Y Y cW) Y ?_;refine aCJ fun A=>aA gAZ Y ?_;refine aA (eG Y Y gBG) Y (Z9 ?_);refine uAd ?_
      (have I : mA 97 122 224 c = c := Im aH
       exact cX (i+1) aH aH (.cons 0 Y (.cons 3 (by rw[vN e,I];rfl) bM)) Y a7)
    refine cG (bJ (z0:=[.int .u8 0]) iG tz5 Y Y Y Y cW) Y ?_;refine aCJ fun A=>aA gAZ Y ?_;refine aA (eG Y Y gBG) Y (Z9 ?_);refine uAd ?_
    (have I : mA 97 122 224 c = c := Im aH
     exact cX (i+1) aH aH (.cons 0 Y (.cons 3 (by rw[vN e,I];rfl) bM)) Y a7)
  exact gGO
def AA:∀(n:Nat),n<=4294967296->∀(K:Hl),Sp x3 87 [i64 n] K [] (Val (str (Lib.decDigits n)) K):=by
 intro n;induction n using Nat.strongRecOn with
 |ind n c=>
 intro u K;refine bL func87 Y ntmps87 Y Y fun F w=>ZC ?_;refine aX 5 Y (fun b=>?_) (fun b=>?_)
 ·have G:n<10:=aH;have e:Lib.decDigits n=[UInt8.ofNat (48+n)]:=Lib.decDigits_one G;refine Z4 ?_;refine aA (kD (v:=.int .u8 ((UInt8.ofNat (48+n)).toNat:Int)) (pU xAZ xAM Y) gCI) Y (cG (bJ (z0:=[.int .u8 0]) iG tz5 Y Y Y Y cW) Y ?_);refine aCJ fun d=>aA (fV (xs:=[UInt8.ofNat (48+n)]) xAP xAZ x9 Y (.blk aL Y Y)) Y (Z5 ?_);refine uAd ?_;refine Z1 ?_;rw[e];exact gDP
 have a:¬n<10:=aH;have e:Lib.decDigits n=Lib.decDigits (n/10)++[UInt8.ofNat (48+n%10)]:=(by rw[Lib.decDigits,dif_neg a]);have B:n%10<10:=Nat.mod_lt _ aH;have f:(Lib.decDigits (n/10)).length<=21:=(by rw[<-Lib.itoa_nonneg];exact Lib.itoa_length_le _ aH aH);refine Z5 ?_;refine aA (kD (v:=i64 (n/10:Nat)) (Kw (n:=10) Y Y dD) (by rw[Int.tdiv_eq_ediv_of_nonneg aH,tY aH aH];rfl)) Y (cH Y Y (c (n/10) aH aH _) Y (Z7 ?_));refine aA (kD (v:=i64 (n%10:Nat)) (G4 (n:=10) Y Y dD) (by rw[Int.tmod_eq_emod_of_nonneg aH];rfl)) Y (Z1 ?_);refine aA (kD (v:=.int .u8 ((UInt8.ofNat (48+n%10)).toNat:Int)) (pU xAZ xAM Y) gCI) Y (cG (bJ (z0:=[.int .u8 0]) iG tz5 Y Y Y Y cW) Y ?_);refine aCJ fun W=>aA (fV (xs:=[UInt8.ofNat (48+n%10)]) xAP xAZ x9 Y (.blk aL Y Y)) Y ?_;refine aA (eG Y Y gAH) Y (Z4 ?_);refine uAd ?_;refine Z1 ?_;rw[e];exact gDP
end
end Go.Proofs
end
section
namespace Go.Syn
open Go.Proofs
section
variable{s:aP}{a i j:Nat}{o:Option UInt8}{f p:UInt8->Bool}
def H4(b:i<=j)(E:j<=s.length)(B:∀m c,i<=m->m<j->s[m]?=some c->p c=true)(h:∀c,s[j]?=some c->p c=false):(s.drop i).takeWhile p=(s.drop i).take (j-i):=by
 have O:i+(j-i)=j:=aH;refine Plain.takeWhile_stop p _ _ gAG ?_ (fun c d=>h c (by rw[xBB,O]at d;exact d))
 rw[xB6];intro x f;obtain⟨k,a,e⟩:=List.mem_iff_getElem.1 f;rw[xA6,xBF]at a;have:s[i+k]?=some x:=by
  rw[<-e,List.getElem_take,List.getElem_drop];exact x4 aH
 exact B (i+k) x aH aH this
def CH(b:i<=j)(E:j<=s.length)(B:∀m c,i<=m->m<j->s[m]?=some c->p c=true)(h:∀c,s[j]?=some c->p c=false):i+((s.drop i).takeWhile p).length=j:=by
 rw[H4 b E B h,xA6,xBF];omega
def optB(o:Option UInt8)(f:UInt8->Bool):Bool:=match o with|some c=>f c|none=>false
def rX(h:optB o f=true):∃c,o=some c/\f c=true:=by
 cases o with
 |none=>cases h
 |some c=>exact⟨c,Y,h⟩
def xO(h:optB o f=false):∀c,o=some c->f c=false:=by
 rintro c rfl;exact h
def NoC(s:aP)(a j:Nat):Prop:=∀m,a<=m->m<j->¬(((s[m]?).getD 0).toNat=42/\((s[m+1]?).getD 0).toNat=47)
def MA(h:NoC s (a+2) j)(c:a+2<=s.length):Lib.NoOcc (s.drop (min (a+2) s.length)) [42,47] (j-(a+2)):=by
 intro k d;rw[Nat.min_eq_left c];cases q:Lib.occAt (s.drop (a+2)) [42,47] k with
 |false=>rfl
 |true=>
  exfalso
  have P:=Lib.occAt_head rfl q;have b:=Lib.occAt_second rfl q;rw[xBB]at P b;refine h (a+2+k) aH aH ⟨?_,?_⟩
  ·rw[P];rfl
  rw[show a+2+k+1=a+2+(k+1)from rfl,b];rfl
def U5(h:NoC s (a+2) j)(c:a+2<=j)(E:j+1<s.length)(P:((s[j]?).getD 0).toNat=42)(b:((s[j+1]?).getD 0).toNat=47):Lib.index (s.drop (min (a+2) s.length)) [42,47]=((j-(a+2):Nat):Int):=by
 refine Lib.index_hit (MA h aH) gBB ?_;rw[Nat.min_eq_left aH];unfold Lib.occAt;rw[List.drop_drop,show a+2+(j-(a+2))=j from aH];rw[xAV aH,xAV aH];rw[x4 aH]at P b;have p:s[j]=42:=xBJ.1 (by simpa using P);have M:s[j+1]=47:=xBJ.1 (by simpa using b);rw[p,M];simp
def QG(h:NoC s (a+2) j)(c:a+2<=s.length)(E:s.length<=j+1):Lib.index (s.drop (min (a+2) s.length)) [42,47]= -1:=by
 have d:=MA h c;rcases Lib.index_spec (s.drop (min (a+2) s.length)) [42,47]with ⟨e,_⟩|⟨i,e,p,q,_⟩
 ·exact e
 exfalso
 have b:=Lib.occAt_room q;rw[xBF]at b p;rw[Nat.min_eq_left c]at b p;simp at b;have:=d i aH;rw[q]at this;cases this
def Sb:NoC s a a:=fun m h b=>by omega
def Sa(h:NoC s a j)(u:¬(((s[j]?).getD 0).toNat=42/\((s[j+1]?).getD 0).toNat=47)):NoC s a (j+1):=fun m b c=>by
 rcases xAD m j with l|l
 ·exact h m b l
 have:m=j:=aH;subst this;exact u
end
end Go.Syn
end
section
namespace Go.Proofs
open Go Go.SL Go.Syn Go.Mach Tryz
abbrev rtc(b:Nat)(s:List UInt8)(e err bad:Int)(I ws x P:Value):Asn:=pt b (bK [str s,i64 e,i64 err,i64 bad,I,ws,x,P] 324)
abbrev FC(b:Nat)(s:List UInt8)(e p:Int):Asn:=rtc b s s.length e p (.int .u8 0) (str []) (i64 0) (i64 s.length)
def nV(b:Nat)(s:List UInt8)(a:Int)(I ws x P:Value)(e p:Int)(K:Hl)(g:s.length<=140737488351232):Sp x3 207 [ptr b,i64 e,i64 p] K [rtc b s a 0 0 I ws x P]
  (Ret fun v d L'=>v=.tuple #[]/\d=K/\L'=[FC b s e p]):=by
 refine bL func207 Y ntmps207 Y Y fun F w=>Z9 ?_;refine aX 10 Y (fun C=>ZQ ?_) (fun C=>?_)
 ·refine aA (dA tb322 tb322f cW) Y (Z2 ?_);refine cA (cQ ta322_4 Y Y Y bP gAU (.skip (.skip (.skip (.skip (.cons (.cons (.cons (.cons .nil)))))))) gBA) ?_;refine aCK (ZE ?_);exact gDF
 omega
def SK(b:Nat)(s:List UInt8)(a err bad:Int)(I ws x P:Value)(e p:Int)(K:Hl)(A:err≠0):Sp x3 207 [ptr b,i64 e,i64 p] K [rtc b s a err bad I ws x P]
  (Ret fun v c L'=>v=.tuple #[]/\c=K/\L'=[rtc b s a err bad I ws x P]):=by
 refine bL func207 Y ntmps207 Y Y fun F w=>Z9 ?_;refine aX 10 Y (fun C=>?_) (fun C=>Z2 ?_)
 ·omega
 exact gDF
def DN(b:Nat)(s:List UInt8)(a:Nat)(err bad:Int)(I ws x P:Value)(B:s.length<=1000000)(A:a<=s.length)(K:Hl):
  Sp x3 280 [ptr b] K [rtc b s a err bad I ws x P] (Ret fun v y L'=>v=str (dY (lM s a))/\y=K/\L'=[rtc b s (a+(lM s a).length:Nat) err bad I ws x P]):=by
 refine bL func280 Y ntmps280 Y Y fun F w=>ZG ?_;refine eD (fun(i:Nat)=>a<=i/\i<=s.length/\∀m c,a<=m->m<i->s[m]?=some c->eS c=true) (fun i=>[(0,ptr b),(3,i64 a)]) (fun _=>K) (fun i=>[rtc b s i err bad I ws x P]) (fun i=>s.length-i) a ⟨xAG _,A,fun m c _ _=>by omega⟩ bM Y a7 ?_;intro i ⟨G,C,S⟩;refine Z2 ?_;refine cN [] [] mixed gAD (cM _) (ZC ?_);refine aX 19 Y (fun L=>?_) (fun L=>?_)
 ·have f:i<s.length:=aH;obtain⟨c,j⟩:∃c,s[i]?=some c:=⟨s[i]'f,x4 f⟩;refine Z4 ?_;refine cN [9] [] mixed gAD (cM _) (Z9 ?_);refine gY Y (.none Y) Y Y Y Y (m6 c _) Y (Z4 ?_);refine cN [9] [] mixed gAD (cM _) (Z9 ?_);refine gY Y (.none Y) Y Y Y Y (mP c _) Y (Z7 ?_);refine aA gAB Y (Z1 ?_);refine kH 42 Y (fun d=>?_) (fun d=>?_)
  ·refine Z3 ?_;refine aA gAB Y (Z3 ?_);refine dZ 45 Y (fun M=>?_) (fun M=>?_)
   ·have W:∀N,s[i]?=some N->eS N=false:=(by intro N u;rw[j]at u;cases u;unfold eS;rw[<-mZ,<-pM,Bool.or_eq_false_iff];exact⟨by simpa using d,by simpa using M⟩);refine Z7 ?_;refine cN [10] [] mixed gAD (cM _) (Z9 ?_);refine uAl ?_;refine gY Y (.none Y) Y Y Y Y (kB _ _ gAG) Y (Z5 ?_);have q:=H4 (p:=eS) G C S W;have l:=CH (p:=eS) G C S W;refine⟨_,Y,?_,Y,?_⟩
    ·unfold lM;rw[q,List.drop_take]
    unfold lM;rw[l];rfl
   refine ZD ?_;have r:eS c=true:=gCJ;refine cX (i+1) ⟨aH,aH,fun m N g t z=>?_⟩ aH bM Y a7
   rcases xAD m i with h|h
   ·exact S m N g h z
   have e:m=i:=aH;subst e;rw[j]at z;cases z;exact r
  refine ZJ ?_;have r:eS c=true:=gCJ;refine cX (i+1) ⟨aH,aH,fun m N g t z=>?_⟩ aH bM Y a7
  rcases xAD m i with h|h
  ·exact S m N g h z
  have e:m=i:=aH;subst e;rw[j]at z;cases z;exact r
 have W:∀c,s[i]?=some c->eS c=false:=fun c j=>by rw[xAH aH]at j;cases j
 refine Z6 ?_;refine cN [10] [] mixed gAD (cM _) (Z9 ?_);refine uAl ?_;refine gY Y (.none Y) Y Y Y Y (kB _ _ gAG) Y (Z5 ?_);have q:=H4 (p:=eS) G C S W;have l:=CH (p:=eS) G C S W;refine⟨_,Y,?_,Y,?_⟩
 ·unfold lM;rw[q,List.drop_take]
 unfold lM;rw[l];rfl
def DP(b:Nat)(s:List UInt8)(a:Nat)(err bad:Int)(I ws A P:Value)(hs:s.length<=1000000)(ha:a<=s.length)(he:(err=0/\bad=0)\/a=s.length)(K:Hl):
  Sp x3 279 [ptr b] K [rtc b s a err bad I ws A P] (Ret fun v K' L'=>v=.tuple #[]/\K'=K/\L'=[match skip s a with| .ok a'=>rtc b s a' err bad I ws A P| .error e=>FC b s e.1 e.2]):=by
 refine bL func279 Y ntmps279 Y Y fun F w=>bC (eD (fun(i:Nat)=>a<=i/\i<=s.length/\∃f,s.length<i+(f+1)/\skip s a=lN s (f+1) i) (fun i=>[(0,ptr b)]) (fun _=>K) (fun i=>[rtc b s i err bad I ws A P]) (fun i=>s.length-i) a ⟨xAG _,ha,s.length-a,aH,by unfold skip;congr 1;omega⟩ bM Y a7 ?_);intro i ⟨jk,jl,f,jp,l⟩;refine Z2 ?_;refine cN [] [] mixed gAD (cM _) (ZC ?_);refine aX 14 Y (fun je=>?_) (fun je=>?_)
 ·have M:i<s.length:=aH;obtain⟨c,y⟩:∃c,s[i]?=some c:=⟨s[i]'M,x4 M⟩;obtain⟨rfl,rfl⟩:err=0/\bad=0:=he.elim id (fun h=>absurd h aH);refine Z4 ?_;refine cN [] [] mixed gAD (cM _) (ZF ?_);refine cH Y Y (BY c _) Y (ZA ?_);refine dZ 26 Y (fun B=>?_) (fun B=>?_)
  ·refine ZC ?_
   (have hf:∃f0,f=f0+1:=⟨f-1,aH⟩;obtain⟨f0,rfl⟩:=hf;exact cX (i+1) ⟨aH,aH,f0,aH,by rw[l,p8 y (by simpa[fW]using B)]⟩ aH bM Y a7)
  have jr:¬(c.toNat=32\/c.toNat=9\/c.toNat=13\/c.toNat=10):=by simpa[fW]using B
  refine Z7 ?_;refine aX 35 Y (fun jf=>?_) (fun jf=>?_)
  ·refine bC (eD (fun(j:Nat)=>i<=j/\j<=s.length/\∀m N,i<=m->m<j->s[m]?=some N->decide (¬N.toNat=10)=true) (fun j=>[(0,ptr b)]) (fun _=>K) (fun j=>[rtc b s j 0 0 I ws A P]) (fun j=>s.length-j) i ⟨xAG _,aH,fun m c _ _=>by omega⟩ bM Y a7 ?_);intro j ⟨E,S,r⟩;refine aI ?_;refine dU (fun(_:Unit)=>True) (fun _=>[(0,ptr b),(59,.bool (optB (s[j]?) fun c=>decide (¬(c.toNat:Int)=10)))]) (fun _=>K) (fun _=>[rtc b s j 0 0 I ws A P]) ?_ ?_
   ·refine cN [] [] mixed gAD (cM _) (ZB ?_);refine eV 48 Y (fun jb=>?_) (fun jb=>?_)
    ·obtain⟨N,z⟩:∃N,s[j]?=some N:=⟨s[j]'(by omega),x4 aH⟩;exact gF5
    have z:s[j]?=none:=xAH aH;exact gF5
   intro _ _;refine dZ 59 Y (fun W=>?_) (fun W=>?_)
   ·obtain⟨N,z,O⟩:=rX W;have O:=xAX O;have ji:=kP z;refine ZE ?_;refine cX (j+1) ⟨aH,aH,fun m c3 jh jq C=>?_⟩ aH bM Y a7
    rcases xAD m j with h|h
    ·exact r m c3 jh h C
    have e:m=j:=aH;subst e;rw[z]at C;cases C;exact xAO aH
   have ja:=CH (p:=fun c:UInt8=>decide (¬c.toNat=10)) E S r (fun c y=>by have:=xO W c y;simp only[decide_eq_false_iff_not]at this ⊢;omega);refine Z6 ?_
   (have hh:=Ip y aH;rw[ja]at hh;exact cX j ⟨aH,aH,f-1,aH,by rw[l,DW y aH,ja];congr 1;omega⟩ aH bM Y a7)
  refine dU (fun(_:Unit)=>True) (fun _=>[(0,ptr b),(67,.bool (decide (c.toNat=47)&&optB (s[i+1]?) fun d=>decide ((d.toNat:Int)=42)))]) (fun _=>K) (fun _=>[rtc b s i 0 0 I ws A P]) ?_ ?_
  ·refine cN [] [] mixed gAD (cM _) (Z3 ?_);refine eV 70 Y (fun jc=>ZD ?_) (fun jc=>ZR ?_)
   ·refine eV 83 Y (fun jd=>?_) (fun jd=>?_)
    ·obtain⟨d,hd⟩:∃d,s[i+1]?=some d:=⟨s[i+1]'(by omega),x4 aH⟩;refine ZE ?_;exact gFM
    have hd:c.toNat=47->s[i+1]?=none:=(fun u=>xAH aH);refine ZE ?_;exact gFM
   exact gFM
  intro _ _;refine dZ 67 Y (fun t=>?_) (fun t=>?_)
  ·rw[Bool.and_eq_true,decide_eq_true_eq]at t;obtain⟨u,hd⟩:=t;obtain⟨d,hd,Q⟩:=rX hd;have Q:=xAX Q;have jg:=kP hd;have jj:((s[i+1]?).getD 0).toNat=d.toNat:=by rw[hd];rfl
   refine ZO ?_;refine eD (fun(j:Nat)=>i+2<=j/\j<=s.length/\NoC s (i+2) j) (fun j=>[(0,ptr b),(4,i64 i)]) (fun _=>K) (fun j=>[rtc b s j 0 0 I ws A P]) (fun j=>s.length-j) (i+2) ⟨xAG _,aH,Sb⟩ bM Y a7 ?_;intro j ⟨E,S,r⟩;refine aI ?_;refine dU (fun(_:Unit)=>True) (fun _=>[(0,ptr b),(4,i64 i),(143,.bool (decide (j+1<s.length/\¬(((s[j]?).getD 0).toNat=42/\((s[j+1]?).getD 0).toNat=47))))]) (fun _=>K) (fun _=>[rtc b s j 0 0 I ws A P]) ?_ ?_
   ·refine cN [] [] mixed gAD (cM _) (ZC ?_);refine eV 119 Y (fun G=>?_) (fun G=>ZP ?_)
    ·obtain⟨p,hp⟩:∃p,s[j]?=some p:=⟨s[j]'(by omega),x4 aH⟩;obtain⟨q,hq⟩:∃q,s[j+1]?=some q:=⟨s[j+1]'(by omega),x4 aH⟩;have js:((s[j]?).getD 0).toNat=p.toNat:=by rw[hp];rfl
     have jt:((s[j+1]?).getD 0).toNat=q.toNat:=by rw[hq];rfl
     refine ZB ?_;refine eV 130 Y (fun H=>ZE ?_) (fun H=>ZE ?_)
     ·exact gEU
     exact gEU
    exact gEU
   intro _ _;refine dZ 143 Y (fun g=>?_) (fun g=>?_)
   ·have g:=xAX g;refine ZE ?_;exact cX (j+1) ⟨aH,aH,Sa r g.2⟩ aH bM Y a7
   have g:=xBA g;refine Z7 ?_;refine cN [] [] mixed gAD (cM _) (ZD ?_);refine aX 161 Y (fun L=>?_) (fun L=>?_)
   ·have hk:skip s a=.error (2,(i:Int)):=(by have hx:=QG r aH aH;rw[l];exact FK y aH aH (by rw[hx];decide));refine Z4 ?_;refine bA Y Y (nV b s j I ws A P 2 i _ aH) bQ Y ?_;refine aCL (Z8 ?_);refine jJ Y (xAB _) ?_;rw[hk];exact gDF
   refine ZF ?_
   (have hx:=U5 r E aH aH aH;exact cX (j+2) ⟨aH,aH,f-1,aH,by rw[l,yP y aH aH aH,hx];congr 1<;>omega⟩ aH bM Y a7)
  have hk:skip s a=.ok i:=(by rw[l];by_cases u:c.toNat=47;exact sT y u (by rw[xAO u,Bool.true_and]at t;cases hx:s[i+1]? with|none=>decide|some d=>have:=xBA (xO t d hx);show ¬d.toNat=42;omega);exact sS y aH);refine Z5 ?_;refine jJ Y (xAB _) ?_;rw[hk];exact gDF
 have hk:skip s a=.ok i:=(by rw[l];exact tQ aH);refine Z5 ?_;rw[hk];exact gDF
end Go.Proofs
end
section
namespace Go.Syn
open Go.Proofs
section
variable{e:Int×Int}{a1:Nat}{r:Res St}{w:Word}
def P9{s:aP}{i:Nat}{c:UInt8}(d:s[i]?=some c):(s.take (i+1)).drop i=[c]:=by
 rw[xA2,d];have p:i<s.length:=by
  rcases xAD i s.length with h|h
  ·exact h
  rw[xAH h]at d;cases d
 rw[List.drop_append,xAS gBU,xA6,show i-min i s.length=0 from aH]
 rfl
def rk(w:Word):Nat:=if w.kind=1 then 119 else if w.kind=2 then 58 else if w.kind=3 then 34 else if w.kind=4 then 48 else if w.kind=5 then ((w.s[0]?).getD 0).toNat else 0
def rs(w:Word):aP:=if w.kind=5 then []else w.s
def WOk(w:Word):Prop:=w.kind<=5/\(w.kind=5->∃c,w.s=[c]/\eF c=true)/\w.kind=5\/w.kind<=4
theorem pO(h:WOk w):rk w=119↔w.kind=1:=by
 unfold rk;rcases h with ⟨_,h,F⟩|z
 ·exact gDZ
 grind [WOk]
theorem Hb(h:WOk w):rk w=58↔w.kind=2:=by
 unfold rk;rcases h with ⟨_,h,F⟩|z
 ·exact gDZ
 grind [WOk]
theorem V3(h:WOk w):rk w=34↔w.kind=3:=by
 unfold rk;rcases h with ⟨_,h,F⟩|z
 ·exact gDZ
 grind [WOk]
theorem XS(h:WOk w):rk w=48↔w.kind=4:=by
 unfold rk;rcases h with ⟨_,h,F⟩|z
 ·exact gDZ
 grind [WOk]
theorem V4(h:WOk w):rk w=0↔w.kind=0:=by
 unfold rk;rcases h with ⟨_,h,F⟩|z
 ·exact gDZ
 grind [WOk]
theorem qV{c:UInt8}(h:WOk w)(a:eF c=true):rk w=c.toNat↔w.kind=5/\w.s=[c]:=by
 have H:c.toNat≠119/\c.toNat≠58/\c.toNat≠34/\c.toNat≠48/\c.toNat≠0:=by unfold eF at a;simp at a;omega
 rcases h with ⟨_,h,F⟩|z
 ·obtain⟨d,e,hd⟩:=h F;unfold rk;rw[F,e];simp only[if_neg (show ¬(5=1)from by decide),if_neg (show ¬(5=2)from by decide),if_neg (show ¬(5=3)from by decide),if_neg (show ¬(5=4)from by decide),if_true]
  show d.toNat=c.toNat↔_
  constructor
  ·intro O;exact⟨trivial,by rw[xBJ.1 O]⟩
  rintro⟨_,O⟩;cases O;rfl
 grind [rk,WOk]
theorem I8{s:aP}{a:Nat}{r:St}(h:next s a=.ok r):WOk r.2:=by
 grind [next,kM,WOk]
def r9{s:aP}:∀ {f i:Nat} {e:Int×Int},lN s f i=.error e->e.1=2
 |0,i,e,h=>by cases h
 |f+1,i,e,h=>by
  simp only[lN]at h;split at h
  ·cases h
  split at h
  ·exact r9 h
  split at h
  ·exact r9 h
  split at h
  ·split at h
   ·cases h
   split at h
   ·cases h;rfl
   exact r9 h
  cases h
def wA{s:aP}{w:Int}:∀ {f i:Nat} {acc:aP} {e:Int×Int},jA s w f i acc=.error e->e.1=2
 |0,i,acc,e,h=>by cases h;rfl
 |f+1,i,acc,e,h=>by
  simp only[jA]at h;split at h
  ·cases h
  split at h
  ·split at h
   ·cases h;rfl
   exact wA h
  split at h
  ·cases h;rfl
  exact wA h
theorem RS{s:aP}{a:Nat}(h:next s a=.error e):e.1≠0:=by
 unfold next at h;split at h
 ·rename_i O b;cases h
  rw[r9 b];decide
 split at h
 ·cases h
 unfold kM at h;split at h
 ·cases h
 split at h
 ·split at h
  ·rename_i O b;cases h;rw[wA b];decide
  cases h
 grind [number]
section
variable{s:aP}{a:Nat}{c:UInt8}
theorem rC(h:eF c=true):c.toNat=59\/c.toNat=44\/c.toNat=40\/c.toNat=41\/c.toNat=123\/c.toNat=125\/c.toNat=91\/c.toNat=93:=by unfold eF at h;exact xAX h
theorem D0(h:gE c=true):(65<=c.toNat/\c.toNat<=90)\/(97<=c.toNat/\c.toNat<=122)\/c.toNat=95:=by
 have k:∀n:Fin 256,(gE (UInt8.ofNat n.1)=true->(65<=(UInt8.ofNat n.1).toNat/\(UInt8.ofNat n.1).toNat<=90)\/(97<=(UInt8.ofNat n.1).toNat/\(UInt8.ofNat n.1).toNat<=122)\/(UInt8.ofNat n.1).toNat=95):=by decide+kernel
 have:=k ⟨c.toNat,c.toNat_lt⟩;simp only[UInt8.ofNat_toNat]at this;exact this h
theorem OF(h:gE c=true):kM s a c=.ok (a+(lM s a).length,⟨1,dY (lM s a),0,a⟩):=by
 grind [kM,gE,lM,dY,D0,rC]
theorem OH(h:c.toNat=58)(v:gE ((s[a+1]?).getD 0)=true):kM s a c=.ok (a+1+(lM s (a+1)).length,⟨2,dY (lM s (a+1)),0,a⟩):=by
 grind [kM,rC]
theorem KY(h:c.toNat=58)(v:gE ((s[a+1]?).getD 0)=false):kM s a c=.error (2,a):=by
 grind [kM,rC]
def HQ(h:fX c=true):48<=c.toNat/\c.toNat<=57:=by unfold fX at h;simpa using h
def OE(h:fX c=true):kM s a c=match number s a a with| .error e=>.error e| .ok r=>.ok (r.1,⟨4,[],r.2,a⟩):=by
 have d:=HQ h;unfold kM;rw[x6 (by intro b;have:=rC b;omega),x6 aH,x6 aH,x6 (by intro v;have:=D0 v;omega),x7 h]<;>cases number s a a<;>rfl
theorem OG(h:c.toNat=34):kM s a c=match quoted s a a with| .error e=>.error e| .ok r=>.ok (r.1,⟨3,r.2,0,a⟩):=by
 grind [kM,rC]
def KX(h:eF c=true):kM s a c=.ok (a+1,⟨5,[c],0,a⟩):=by
 unfold kM;rw[x7 h]
theorem OD(h:gE c=false)(b:¬c.toNat=58)(l:fX c=false)(z:¬c.toNat=34)(F:eF c=false):kM s a c=.error (2,a):=by
 grind [kM]
def RQ(h:skip s a=.ok a1)(v:s.length<=a1):next s a=.ok (a1,⟨0,[],0,a1⟩):=by
 unfold next;rw[h];simp only[];rw[xAH v]
def Vj(h:skip s a=.ok a1)(d:s[a1]?=some c):next s a=kM s a1 c:=by
 unfold next;rw[h];simp only[];rw[d]
def RZ(h:skip s a=.error e):next s a=.error e:=by
 unfold next;rw[h]
end
def rA(s:aP):Res St->Nat| .ok st=>st.1| .error _=>s.length
def rE:Res St->Int| .ok _=>0| .error e=>e.1
def rP:Res St->Int| .ok _=>0| .error e=>e.2
def rK:Res St->Nat| .ok st=>rk st.2| .error _=>0
def rS:Res St->aP| .ok st=>rs st.2| .error _=>[]
def rN:Res St->Int| .ok st=>st.2.n| .error _=>0
def rW(s:aP):Res St->Int| .ok st=>st.2.at_| .error _=>s.length
def ROk(s:aP):Res St->Prop| .ok st=>Ok s st/\WOk st.2| .error e=>e.1≠0
def nx(s:aP):Res St->Res St| .ok st=>next s st.1| .error e=>.error e
def rf(e:Int×Int):Res St->Res St| .ok _=>.error e| .error x=>.error x
theorem lC{s:aP}(h:ROk s r):ROk s (nx s r):=by
 cases r with
 |error e=>exact h
 |ok a=>
  show ROk s (next s a.1)
  cases u:next s a.1 with
  |error e=>exact RS u
  |ok q=>exact⟨fU h.1.1 u,I8 u⟩
theorem FA{s:aP}(h:ROk s r)(A:e.1≠0):ROk s (rf e r):=by
 cases r with
 |error x=>exact h
 |ok a=>exact A
def WD{s:aP}(h:ROk s r):(rS r).length<=s.length:=by
 cases r with
 |error e=>exact xAA _
 |ok a=>show (rs a.2).length<=_;unfold rs;split;exact xAA _;exact h.1.2
end
end Go.Syn
end
section
namespace Go.Proofs
open Go Go.SL Go.Syn Go.Mach Tryz
def Am{E:Env}{g:Fr}{K:Hl}{L:List Asn}{o:_}{s:aP}{i:Nat}{c:UInt8}(h:Ev E g K L o (str ((s.take (i+1)).drop i)))(d:s[i]?=some c):Ev E g K L o (str [c]):=by rw[P9 d]at h;exact h
def Hc(b:Nat)(s:List UInt8)(a:Nat)(I ws C P:Value)(hs:s.length<=1000000)(ha:a<s.length)(K:Hl):
  Sp x3 282 [ptr b] K [rtc b s a 0 0 I ws C P] (Ret fun v K' L'=>v=.tuple #[]/\K'=K/\L'=[match Syn.quoted s a a with| .ok r=>rtc b s r.1 0 0 (.int .u8 34) (str r.2) (i64 0) (i64 a)| .error e=>FC b s e.1 e.2]):=by
 refine bL func282 Y ntmps282 Y Y fun F w=>ZQ ?_;refine dU (fun(p:Nat×List UInt8)=>p.1<=s.length/\(p.1<s.length->Syn.quoted s a a=.ok (p.1+1,p.2))/\(¬p.1<s.length->Syn.quoted s a a=.error (2,(a:Int)))) (fun p=>[(0,ptr b),(2,i64 a),(3,str p.2)]) (fun _=>K) (fun p=>[rtc b s p.1 0 0 I ws C P]) ?_ ?_
 ·refine bC (jC (fun(i:Nat) (g:List UInt8)=>a+1<=i/\i<=s.length/\g.length<=i/\∃f,s.length+2<=i+(f+1)/\Syn.quoted s a a=jA s a (f+1) i g) (fun i g=>[(0,ptr b),(2,i64 a),(3,str g)]) (fun _ _=>K) (fun i g=>[rtc b s i 0 0 I ws C P]) (fun i g=>s.length-i) (a+1) [] ⟨aH,aH,cD,s.length-a,aH,by unfold Syn.quoted;congr 1;omega⟩ bM Y a7 ?_);intro i g ⟨jb,jc,jd,f,je,q⟩;refine aI ?_;refine dU (fun(_:Unit)=>True) (fun _=>[(0,ptr b),(2,i64 a),(3,str g),(36,.bool (optB (s[i]?) fun c=>decide (¬(c.toNat:Int)=34)))]) (fun _=>K) (fun _=>[rtc b s i 0 0 I ws C P]) ?_ ?_
  ·refine cN [] [] mixed gAD (cM _) (ZB ?_);refine eV 25 Y (fun G=>?_) (fun G=>?_)
   ·obtain⟨c,u⟩:∃c,s[i]?=some c:=⟨s[i]'(by omega),x4 aH⟩;refine ZC ?_;exact cB () trivial (.cons 0 Y (.cons 2 Y (.cons 3 Y (.cons 36 (by rw[u];rfl) .nil)))) Y a7
   have u:s[i]?=none:=xAH aH;refine ZC ?_;exact cB () trivial (.cons 0 Y (.cons 2 Y (.cons 3 Y (.cons 36 (by rw[u];rfl) .nil)))) Y a7
  intro _ _;refine dZ 36 Y (fun B=>?_) (fun B=>?_)
  ·obtain⟨c,u,y⟩:=rX B;have y:=xAX y;have W:=kP u;have l:((s[i]?).getD 0)=c:=by rw[u];rfl
   refine Z5 ?_;refine cN [] [] mixed gAD (cM _) (ZC ?_);refine aX 46 Y (fun H=>ZD ?_) (fun H=>Z3 ?_)
   ·refine cN [] [] mixed gAD (cM _) (ZC ?_);refine aX 63 Y (fun L=>?_) (fun L=>?_)
    ·refine Z5 ?_
     first|exact cB (i,g) ⟨aH,z,A⟩ bM Y a7|exact cB (i+1,g) ⟨aH,fun h=>absurd h aH,fun _=>by rw[q];exact uR gC3 gC3 aH⟩ bM Y a7
    have t:i+1<s.length:=aH;obtain⟨d,hd⟩:∃d,s[i+1]?=some d:=⟨s[i+1]'t,x4 t⟩;have N:((s[i+1]?).getD 0)=d:=by rw[hd];rfl
    refine Z3 ?_;refine cN [] [] mixed gAD (cM _) (ZE ?_);refine aJ Y Y (.none Y) Y Y (by first|exact Am (fP (m:=i) (n:=i+1) x9 Y Y Y Y aH aH aH) u|exact Am (fP (m:=i+1) (n:=i+1+1) x9 Y Y Y Y aH aH aH) hd) Y (aJ Y Y (.none Y) Y Y (eG Y Y gAH) Y (ZE ?_));obtain⟨x,rfl⟩:∃x,f=x+1:=⟨f-1,aH⟩;exact d9 (i+2) (g++[d]) ⟨aH,aH,by simp;omega,x,aH,by rw[q,wB gC3 gC3 aH,N]⟩ aH bM Y a7
   refine cN [] [] mixed gAD (cM _) (ZE ?_);refine aJ Y Y (.none Y) Y Y (by first|exact Am (fP (m:=i) (n:=i+1) x9 Y Y Y Y aH aH aH) u|exact Am (fP (m:=i+1) (n:=i+1+1) x9 Y Y Y Y aH aH aH) hd) Y (aJ Y Y (.none Y) Y Y (eG Y Y gAH) Y (ZE ?_));obtain⟨x,rfl⟩:∃x,f=x+1:=⟨f-1,aH⟩;exact d9 (i+1) (g++[c]) ⟨aH,aH,by simp;omega,x,aH,by rw[q,uQ gC3 gC3 aH,l]⟩ aH bM Y a7
  have z:i<s.length->Syn.quoted s a a=.ok (i+1,g):=(fun E=>by rw[q];refine BX E ?_;have:=xO B _ (x4 E);rw[x4 E];simp only[decide_eq_false_iff_not,Classical.not_not]at this;show (s[i]).toNat=34;omega);have A:¬i<s.length->Syn.quoted s a a=.error (2,(a:Int)):=(fun E=>by have ja:((s[i]?).getD 0).toNat=0:=(by rw[xAH aH];rfl);rw[q];exact pN aH aH aH);refine Z4 ?_
  first|exact cB (i,g) ⟨aH,z,A⟩ bM Y a7|exact cB (i+1,g) ⟨aH,fun h=>absurd h aH,fun _=>by rw[q];exact uR gC3 gC3 aH⟩ bM Y a7
 intro p ⟨jf,O,Q⟩;refine Z2 ?_;refine cN [] [] mixed gAD (cM _) (ZC ?_);refine aX 96 Y (fun M=>?_) (fun M=>?_)
 ·have S:=Q aH;refine Z4 ?_;refine bA Y Y (nV b s _ I ws C P 2 a _ aH) bQ Y ?_;refine aCL (Z4 ?_);refine jJ Y (xAB _) ?_;rw[S];exact gDF
 have S:=O aH;refine ZI ?_;refine aA (dA tb322 tb322f cW) Y (Z2 ?_);refine cA (cQ ta322_4 Y Y Y bP (by first|(simp[Value.oneCell'];done)|exact fun c u=>El.one _ _ c u) (.skip (.skip (.skip (.skip (.cons (.cons (.cons (.cons .nil)))))))) gAQ) ?_;refine aCK (Z2 ?_);rw[S];exact gDF
def EN(b:Nat)(s:List UInt8)(a:Nat)(I ws H:Value)(d:Int)(hs:s.length<=1000000)(ha:a<=s.length)(K:Hl):
    Sp x3 281 [ptr b] K [rtc b s a 0 0 I ws H (i64 d)] (Ret fun v K' L'=>v=.tuple #[]/\K'=K/\L'=[match Syn.number s a d with| .ok r=>rtc b s r.1 0 0 (.int .u8 48) (str []) (i64 r.2) (i64 d)| .error e=>FC b s e.1 e.2]):=by
  refine bL func281 Y ntmps281 Y Y fun F w=>ZC ?_;refine jC (fun(i:Nat) (f:Bool)=>a<=i/\i<=s.length/\(∀m c,a<=m->m<i->s[m]?=some c->fX c=true)/\(f=true->j7 ((s.drop a).take (i-a))=2147483648)) (fun i f=>[(0,ptr b),(2,i64 (j7 ((s.drop a).take (i-a)))),(3,.bool f)]) (fun _ _=>K) (fun i _=>[rtc b s i 0 0 I ws H (i64 d)]) (fun i _=>s.length-i) a false ⟨xAG _,ha,fun m c _ _=>by omega,fun h=>by cases h⟩ (.cons 0 Y (.cons 2 (by rw[Nat.sub_self];rfl) bM)) Y a7 ?_;intro i f ⟨jh,ji,S,jb⟩;have jr:=tG ((s.drop a).take (i-a));refine aI ?_;refine dU (fun(_:Unit)=>True) (fun _=>[(0,ptr b),(2,i64 (j7 ((s.drop a).take (i-a)))),(3,.bool f),(25,.bool (optB (s[i]?) digB))]) (fun _=>K) (fun _=>[rtc b s i 0 0 I ws H (i64 d)]) ?_ ?_
  · refine cN [20] [] mixed gAD (cM _) (ZB ?_);refine eV 14 Y (fun jk=>?_) (fun jk=>?_)
    · obtain⟨c,G⟩:∃c,s[i]?=some c:=⟨s[i]'(by omega),x4 aH⟩;refine Z9 ?_;refine gY Y (.on Y Y Y) Y Y Y Y (mP c _) Y (Z2 ?_);exact cB () trivial (.cons 0 Y (.cons 2 Y (.cons 3 Y (.cons 25 (by rw[G];rfl) .nil)))) Y a7
    have G:s[i]?=none:=xAH aH;refine ZC ?_;exact cB () trivial (.cons 0 Y (.cons 2 Y (.cons 3 Y (.cons 25 (by rw[G];rfl) .nil)))) Y a7
  intro _ _;refine dZ 25 Y (fun Q=>?_) (fun Q=>?_)
  · obtain⟨c,G,ja⟩:=rX Q;have O:=kP G;have jt:48<=c.toNat/\c.toNat<=57:=by simpa[digB]using ja
    refine Z4 ?_;refine cN [] [] mixed gAD (cM _) (ZB ?_);refine aJ Y Y (.none Y) Y Y (Ao (m:=c.toNat) (n:=48) aH aH Y Y) Y (aJ Y Y (.none Y) Y Y (pT xAM xAZ Y aH aH) Y (ZB ?_));refine aX 41 Y (fun jp=>ZK ?_) (fun jp=>ZD ?_)
    · have C:∀m N,a<=m->m<i+1->s[m]?=some N->fX N=true:=gB4;have t:=vD (ds:=s.drop a) (i:=i-a) (c:=c) (by rw[xBB,show a+(i-a)=i from aH];exact G);rw[show i-a+1=i+1-a from aH]at t;unfold Ag at t
      (have hv : j7 ((s.drop a).take (i + 1 - a)) = 2147483648 := (by rw [t]; split <;> omega)
       exact d9 (i+1) true ⟨aH,aH,C,fun _=>hv⟩ aH (.cons 0 Y (.cons 2 (by rw[hv];rfl) bM)) Y a7)
    have C:∀m N,a<=m->m<i+1->s[m]?=some N->fX N=true:=gB4;have t:=vD (ds:=s.drop a) (i:=i-a) (c:=c) (by rw[xBB,show a+(i-a)=i from aH];exact G);rw[show i-a+1=i+1-a from aH]at t;unfold Ag at t
    (rw [x6 aH] at t
     have jq:f=true->j7 ((s.drop a).take (i+1-a))=2147483648:=(fun hb=>by have:=jb hb;omega);exact d9 (i+1) f ⟨aH,aH,C,jq⟩ aH (.cons 0 Y (.cons 2 (by rw[t];rfl) bM)) Y a7)
  have je:=xO Q;have hT2:(s.drop a).take (i-a)=fG s a:=(H4 (p:=fX) jh ji S je).symm;rw[hT2]at jb jr ⊢;have hL2:a+(fG s a).length=i:=CH (p:=fX) jh ji S je;have E:numC s a=((s[i]?).getD 0).toNat:=(by unfold numC;rw[hL2]);clear hT2 je;refine Z5 ?_;refine dU (fun(_:Unit)=>True) (fun _=>[(0,ptr b),(2,i64 (numN s a)),(3,.bool f)]) (fun _=>K) (fun _=>[rtc b s (numA s a:Nat) 0 0 I ws H (i64 d)]) ?_ ?_
  · refine dU (fun(_:Unit)=>True) (fun _=>[(0,ptr b),(2,i64 (j7 (fG s a))),(3,.bool f),(82,.bool (optB (s[i]?) fun k=>decide ((k.toNat:Int)=75)||decide ((k.toNat:Int)=107)))]) (fun _=>K) (fun _=>[rtc b s i 0 0 I ws H (i64 d)]) ?_ ?_
    · refine cN [] [] mixed gAD (cM _) (ZB ?_);refine eV 59 Y (fun jl=>?_) (fun jl=>?_)
      · obtain⟨k,l⟩:∃k,s[i]?=some k:=⟨s[i]'(by omega),x4 aH⟩;refine ZB ?_;refine eV 70 Y (fun L=>ZD ?_) (fun L=>ZD ?_)
        · exact cB () trivial (.cons 0 Y (.cons 2 Y (.cons 3 Y (.cons 82 gBR .nil)))) Y a7
        exact gGE
      have l:s[i]?=none:=xAH aH;refine ZO ?_;exact gGE
    intro _ _;refine dZ 82 Y (fun W=>?_) (fun W=>?_)
    · obtain⟨k,l,jc⟩:=rX W;have O:=kP l;rw[l]at E;have jj:numC s a=k.toNat:=E;simp only[Bool.or_eq_true,decide_eq_true_eq]at jc;refine ZH ?_
      (have eN : numN s a = j7 (fG s a) * 1024 := gC1
       have eA:numA s a=i+1:=(by (unfold numA;rw[x7 aH,hL2]));exact cB () trivial (.cons 0 Y (.cons 2 (by rw[eN];rfl) bM)) Y (by rw[eA];exact fun _ h=>h))
    have jv:numC s a≠75/\numC s a≠107:=(by rw[E];cases hx:s[i]? with|none=>exact⟨by decide,by decide⟩|some k=>have P:=xO W k hx;simp only[Bool.or_eq_false_iff,decide_eq_false_iff_not]at P;exact⟨fun e=>P.1 (by have e2:k.toNat=75:=e;omega),fun e=>P.2 (by have e2:k.toNat=107:=e;omega)⟩);refine dU (fun(_:Unit)=>True) (fun _=>[(0,ptr b),(2,i64 (j7 (fG s a))),(3,.bool f),(125,.bool (optB (s[i]?) fun k=>decide ((k.toNat:Int)=77)||decide ((k.toNat:Int)=109)))]) (fun _=>K) (fun _=>[rtc b s i 0 0 I ws H (i64 d)]) ?_ ?_
    · refine cN [] [] mixed gAD (cM _) (ZB ?_);refine eV 102 Y (fun jf=>?_) (fun jf=>?_)
      · obtain⟨k,l⟩:∃k,s[i]?=some k:=⟨s[i]'(by omega),x4 aH⟩;refine ZB ?_;refine eV 113 Y (fun g=>ZD ?_) (fun g=>ZD ?_)
        · exact cB () trivial (.cons 0 Y (.cons 2 Y (.cons 3 Y (.cons 125 gBQ .nil)))) Y a7
        exact gF9
      have l:s[i]?=none:=xAH aH;refine ZO ?_;exact gF9
    intro _ _;refine dZ 125 Y (fun A=>?_) (fun A=>?_)
    · obtain⟨k,l,jc⟩:=rX A;have O:=kP l;rw[l]at E;have jj:numC s a=k.toNat:=E;simp only[Bool.or_eq_true,decide_eq_true_eq]at jc;refine ZI ?_
      (have eN : numN s a = j7 (fG s a) * 1024 * 1024 := (by (unfold numN; rw [x7 aH]))
       have eA:numA s a=i+1:=(by (unfold numA;rw[x7 aH,hL2]));exact cB () trivial (.cons 0 Y (.cons 2 (by rw[eN];rfl) bM)) Y (by rw[eA];exact fun _ h=>h))
    have jw:numC s a≠77/\numC s a≠109:=(by rw[E];cases hx:s[i]? with|none=>exact⟨by decide,by decide⟩|some k=>have P:=xO A k hx;simp only[Bool.or_eq_false_iff,decide_eq_false_iff_not]at P;exact⟨fun e=>P.1 (by have e2:k.toNat=77:=e;omega),fun e=>P.2 (by have e2:k.toNat=109:=e;omega)⟩);refine aU ?_
    (have eN : numN s a = j7 (fG s a) := (by (unfold numN; rw [x6 aH, x6 aH]))
     have eA:numA s a=i:=(by (unfold numA;rw[x6 aH,hL2]));exact cB () trivial (.cons 0 Y (.cons 2 (by rw[eN];rfl) bM)) Y (by rw[eA];exact fun _ h=>h))
  intro _ _;have ju:numA s a<=s.length:=GU s a ha;have M:f=true->2147483647<numN s a:=(by intro hb;have:=jb hb;unfold numN;split;omega;split<;>omega);refine aI ?_;refine dU (fun(_:Unit)=>True) (fun _=>[(0,ptr b),(2,i64 (numN s a)),(3,.bool f),(169,.bool (eS ((s[numA s a]?).getD 0)))]) (fun _=>K) (fun _=>[rtc b s (numA s a:Nat) 0 0 I ws H (i64 d)]) ?_ ?_
  · refine cN [20,31] [] mixed gAD (cM _) (ZB ?_);refine eV 146 Y (fun jg=>?_) (fun jg=>?_)
    · obtain⟨k,l⟩:∃k,s[numA s a]?=some k:=⟨s[numA s a]'(by omega),x4 aH⟩;refine Z9 ?_;refine gY Y (.on Y Y Y) Y Y Y Y (m6 k _) Y (Z1 ?_);refine vF 157 Y (fun q=>ZD ?_) (fun q=>Z9 ?_)
      · exact cB () trivial (.cons 0 Y (.cons 2 Y (.cons 3 Y (.cons 169 gBI .nil)))) Y a7
      refine gY Y (.on Y Y Y) Y Y Y Y (mP k _) Y (Z3 ?_);exact gF8
    have l:s[numA s a]?=none:=xAH aH;refine ZO ?_;exact gF8
  intro _ _;refine dZ 169 Y (fun u=>?_) (fun u=>Z3 ?_)
  · have hq:Syn.number s a d=.error (2,d):=by unfold Syn.number;rw[x7 u]
    refine Z8 ?_;refine bA Y Y (nV b s _ I ws H (i64 d) 2 d _ aH) bQ Y ?_;refine aCL (Z4 ?_);refine jJ Y (xAB _) ?_;rw[hq];exact gDF
  refine dU (fun(_:Unit)=>True) (fun _=>[(0,ptr b),(2,i64 (numN s a)),(181,.bool (decide (2147483647<numN s a)))]) (fun _=>K) (fun _=>[rtc b s (numA s a:Nat) 0 0 I ws H (i64 d)]) ?_ ?_
  · refine Z3 ?_;refine kH 178 Y (fun y=>Z4 ?_) (fun y=>Z6 ?_)
    · exact cB () trivial (.cons 0 Y (.cons 2 Y (.cons 181 (by first|rfl|(rw[xAO (M y)];rfl)) .nil))) Y a7
    exact cB () trivial (.cons 0 Y (.cons 2 Y (.cons 181 (by first|rfl|(rw[xAO (M y)];rfl)) .nil))) Y a7
  intro _ _;refine dZ 181 Y (fun B=>?_) (fun B=>?_)
  · have hq:Syn.number s a d=.error (3,d):=(by unfold Syn.number;rw[x6 (by simp[u]),x7 (xAX B)]);refine Z8 ?_;refine bA Y Y (nV b s _ I ws H (i64 d) 3 d _ aH) bQ Y ?_;refine aCL (Z4 ?_);refine jJ Y (xAB _) ?_;rw[hq];exact⟨_,Y,Y,Y,Y⟩
  have hq:Syn.number s a d=.ok (numA s a,numN s a):=(by unfold Syn.number;rw[x6 (by simp[u]),x6 (xBA B)]);refine ZA ?_;refine aA (dA tb322 tb322f cW) Y (Z2 ?_);refine cA (cQ ta322_4 Y Y Y bP (by first|(simp[Value.oneCell'];done)|exact fun c G=>El.one _ _ c G) (.skip (.skip (.skip (.skip (.cons (.cons (.cons (.cons .nil)))))))) gAQ) ?_;refine aCK (Z2 ?_);rw[hq];exact gDF
abbrev rtx(b:Nat)(s:List UInt8)(r:Res St):Asn:=rtc b s (rA s r) (rE r) (rP r) (.int .u8 (rK r)) (str (rS r)) (i64 (rN r)) (i64 (rW s r))
def DO(b:Nat)(s:List UInt8)(a:Nat)(wk ws wn P:Value)(C:s.length<=1000000)(I:a<=s.length)(K:Hl):
    Sp x3 203 [ptr b] K [rtc b s a 0 0 wk ws wn P] (Ret fun v K' L'=>v=.tuple #[]/\K'=K/\L'=[rtx b s (Syn.next s a)]):=by
  refine bL func203 Y ntmps203 Y Y fun F w=>Z3 ?_;refine bA Y Y (DP b s a 0 0 wk ws wn P C I (.inl ⟨Y,Y⟩) _) bQ Y ?_;refine aCL (Z2 ?_);rcases S:skip s a with e|f
  · dsimp only;have u:=RZ S;have jc:=r9 S;refine ZA ?_;refine aX 13 Y (fun M=>Z2 ?_) (fun M=>?_)
    · refine jJ Y (xAB _) ?_;rw[u];exact⟨_,Y,Y,Y,Y⟩
    omega
  dsimp only;have ja:=(xX I S).2;refine ZA ?_;refine aX 13 Y (fun M=>?_) (fun M=>Z9 ?_)
  · omega
  refine aA (dA tb322 tb322f cW) Y (Z2 ?_);refine cA (cQ ta322_4 Y Y Y bP gBE (.skip (.skip (.skip (.skip (.cons (.cons (.cons (.cons .nil)))))))) (by intro j O;simp)) ?_;refine aCK (Z4 ?_);refine cN [] [] mixed gAD (cM _) (ZC ?_);refine aX 31 Y (fun G=>?_) (fun G=>?_)
  · have u:=RQ S aH;refine Z2 ?_;refine jJ Y (xAB _) ?_;rw[u]
    first|exact⟨_,Y,Y,Y,Y⟩|(cases Syn.number s f f<;>exact⟨_,Y,Y,Y,Y⟩)|(cases Syn.quoted s f f<;>exact⟨_,Y,Y,Y,Y⟩)
  obtain⟨c,l⟩:∃c,s[f]?=some c:=⟨s[f]'(by omega),x4 aH⟩;have jb:=kP l;have u:=Vj S l;refine Z3 ?_;refine cN [] [] mixed gAD (cM _) (ZF ?_);refine cH Y Y (m6 c _) Y (Z6 ?_);refine cH Y Y (mP c _) Y (ZA ?_);refine dZ 51 Y (fun y=>?_) (fun y=>Z7 ?_)
  · rw[OF ((mZ c).symm.trans y)]at u;have N:=j5 eS s f aH;refine Z3 ?_;refine bA Y Y (DN b s f 0 0 _ _ _ _ C aH _) bQ Y ?_;refine aCL (ZB ?_);refine aA (dA tb322 tb322f cW) Y (Z2 ?_);refine cA (cQ ta322_4 Y Y Y bP gBE (.skip (.skip (.skip (.skip (.cons (.cons (.cons (.cons .nil)))))))) (by intro j O;simp)) ?_;refine aCK (Z3 ?_);rw[u]
    first|exact⟨_,Y,Y,Y,Y⟩|(cases Syn.number s f f<;>exact⟨_,Y,Y,Y,Y⟩)|(cases Syn.quoted s f f<;>exact⟨_,Y,Y,Y,Y⟩)
  refine aX 65 Y (fun H=>ZD ?_) (fun H=>Z6 ?_)
  · refine dU (fun(_:Unit)=>True) (fun _=>[(0,ptr b),(97,.bool (!(gE ((s[f+1]?).getD 0))))]) (fun _=>K) (fun _=>[rtc b s (f+1:Nat) 0 0 (.int .u8 0) (str []) (i64 0) (i64 f)]) ?_ ?_
    · refine cN [20] [] mixed gAD (cM _) (ZB ?_);refine eV 85 Y (fun E=>?_) (fun E=>?_)
      · have hd:s[f+1]?=none:=xAH aH;refine ZD ?_;exact cB () trivial (.cons 0 Y (.cons 97 gC9 .nil)) Y a7
      obtain⟨d,hd⟩:∃d,s[f+1]?=some d:=⟨s[f+1]'(by omega),x4 aH⟩;refine Z9 ?_;refine gY Y (.on Y Y Y) Y Y Y Y (m6 d _) Y (aJ Y Y (.on Y Y Y) Y Y gAB Y (Z2 ?_));exact cB () trivial (.cons 0 Y (.cons 97 gC9 .nil)) Y a7
    intro _ _;refine dZ 97 Y (fun A=>?_) (fun A=>?_)
    · rw[KY aH (by simpa using A)]at u;refine Z8 ?_;refine bA Y Y (nV b s _ _ _ _ _ 2 f _ aH) bQ Y ?_;refine aCL (Z5 ?_);refine jJ Y (xAB _) ?_;rw[u]
      first|exact⟨_,Y,Y,Y,Y⟩|(cases Syn.number s f f<;>exact⟨_,Y,Y,Y,Y⟩)|(cases Syn.quoted s f f<;>exact⟨_,Y,Y,Y,Y⟩)
    rw[OH aH (by simpa using A)]at u;have L:f+1<s.length:=(by rcases xAD (f+1) s.length with h|h;exact h;(rw[xAH h]at A;cases A));have N:=j5 eS s (f+1) aH;refine Z5 ?_;refine bA Y Y (DN b s (f+1) 0 0 _ _ _ _ C aH _) bQ Y ?_;refine aCL (ZB ?_);refine aA (dA tb322 tb322f cW) Y (Z2 ?_);refine cA (cQ ta322_4 Y Y Y bP gBE (.skip (.skip (.skip (.skip (.cons (.cons (.cons (.cons .nil)))))))) (by intro j O;simp)) ?_;refine aCK (Z3 ?_);rw[u]
    first|exact⟨_,Y,Y,Y,Y⟩|(cases Syn.number s f f<;>exact⟨_,Y,Y,Y,Y⟩)|(cases Syn.quoted s f f<;>exact⟨_,Y,Y,Y,Y⟩)
  refine dZ 117 Y (fun g=>Z2 ?_) (fun g=>Z7 ?_)
  · refine bA Y Y (EN b s f _ _ _ f C aH _) bQ Y ?_;refine aCL ?_;rw[OE ((pM c).symm.trans g)]at u;refine Z3 ?_;rw[u]
    first|exact⟨_,Y,Y,Y,Y⟩|(cases Syn.number s f f<;>exact⟨_,Y,Y,Y,Y⟩)|(cases Syn.quoted s f f<;>exact⟨_,Y,Y,Y,Y⟩)
  refine aX 121 Y (fun Q=>Z2 ?_) (fun Q=>?_)
  · refine bA Y Y (Hc b s f _ _ _ _ C aH _) bQ Y ?_;refine aCL ?_;rw[OG aH]at u;refine Z3 ?_;rw[u]
    first|exact⟨_,Y,Y,Y,Y⟩|(cases Syn.number s f f<;>exact⟨_,Y,Y,Y,Y⟩)|(cases Syn.quoted s f f<;>exact⟨_,Y,Y,Y,Y⟩)
  refine dU (fun(_:Unit)=>True) (fun _=>[(0,ptr b),(2,.int .u8 c.toNat),(126,.bool (eF c))]) (fun _=>K) (fun _=>[rtc b s f 0 0 (.int .u8 0) (str []) (i64 0) (i64 f)]) ?_ ?_
  · refine Z4 ?_;refine bV 129 Y (fun p=>?_) (fun p=>Z6 ?_)
    · refine ZT ?_
      (have r : eF c = true := gAL
       exact cB () trivial (.cons 0 Y (.cons 2 Y (.cons 126 (by rw[r];rfl) .nil))) Y a7)
    refine bV 133 Y (fun q=>?_) (fun q=>Z6 ?_)
    · refine ZP ?_
      (have r : eF c = true := gAL
       exact cB () trivial (.cons 0 Y (.cons 2 Y (.cons 126 (by rw[r];rfl) .nil))) Y a7)
    refine bV 137 Y (fun t=>?_) (fun t=>Z6 ?_)
    · refine ZL ?_
      (have r : eF c = true := gAL
       exact cB () trivial (.cons 0 Y (.cons 2 Y (.cons 126 (by rw[r];rfl) .nil))) Y a7)
    refine bV 141 Y (fun x=>?_) (fun x=>Z6 ?_)
    · refine ZH ?_
      (have r : eF c = true := gAL
       exact cB () trivial (.cons 0 Y (.cons 2 Y (.cons 126 (by rw[r];rfl) .nil))) Y a7)
    refine bV 145 Y (fun W=>?_) (fun W=>Z6 ?_)
    · refine ZD ?_
      (have r : eF c = true := gAL
       exact cB () trivial (.cons 0 Y (.cons 2 Y (.cons 126 (by rw[r];rfl) .nil))) Y a7)
    refine bV 149 Y (fun z=>?_) (fun z=>Z6 ?_)
    · refine Z9 ?_
      (have r : eF c = true := gAL
       exact cB () trivial (.cons 0 Y (.cons 2 Y (.cons 126 (by rw[r];rfl) .nil))) Y a7)
    refine bV 153 Y (fun B=>?_) (fun B=>?_)
    · refine Z5 ?_
      (have r : eF c = true := gAL
       exact cB () trivial (.cons 0 Y (.cons 2 Y (.cons 126 (by rw[r];rfl) .nil))) Y a7)
    refine Z7 ?_
    (have r : eF c = decide ((c.toNat : Int) = 93) := (by unfold eF; rw [decide_eq_decide]; omega)
     exact cB () trivial (.cons 0 Y (.cons 2 Y (.cons 126 (by rw[r];rfl) .nil))) Y a7)
  intro _ _;refine dZ 126 Y (fun i=>?_) (fun i=>?_)
  · rw[KX i]at u;refine ZM ?_;rw[u]
    first|exact⟨_,Y,Y,Y,Y⟩|(cases Syn.number s f f<;>exact⟨_,Y,Y,Y,Y⟩)|(cases Syn.quoted s f f<;>exact⟨_,Y,Y,Y,Y⟩)
  rw[OD ((mZ c).symm.trans y) aH ((pM c).symm.trans g) aH i]at u;refine Z6 ?_;refine bA Y Y (nV b s _ _ _ _ _ 2 f _ aH) bQ Y ?_;refine aCL (Z3 ?_);rw[u]
  first|exact⟨_,Y,Y,Y,Y⟩|(cases Syn.number s f f<;>exact⟨_,Y,Y,Y,Y⟩)|(cases Syn.quoted s f f<;>exact⟨_,Y,Y,Y,Y⟩)
def Pf(b:Nat)(s:List UInt8)(e p:Int)(A:e≠0)(c:s.length<=1000000)(K:Hl):
  Sp x3 203 [ptr b] K [FC b s e p] (Ret fun v a L'=>v=.tuple #[]/\a=K/\L'=[FC b s e p]):=by
 have S:skip s s.length=.ok s.length:=(by unfold skip;rw[show s.length+1-s.length=0+1 by omega];exact tQ (xAG _));refine bL func203 Y ntmps203 Y Y fun F w=>Z3 ?_;refine bA Y Y (DP b s s.length e p _ _ _ _ c (xAG _) (.inr Y) _) bQ Y ?_;refine aCL ?_;rw[S];dsimp only;refine ZC ?_;refine aX 13 Y (fun M=>Z2 ?_) (fun M=>?_)
 ·refine jJ Y (xAB _) ?_;exact gDF
 omega
def fY(b:Nat)(s:List UInt8)(r:Res St)(i:ROk s r)(c:s.length<=1000000)(K:Hl):
  Sp x3 203 [ptr b] K [rtx b s r] (Ret fun v a L'=>v=.tuple #[]/\a=K/\L'=[rtx b s (nx s r)]):=by
 cases r with
 |error e=>exact Pf b s e.1 e.2 i c K
 |ok d=>exact DO b s d.1 _ _ _ _ c i.1.1 K
def mH(b:Nat)(s:List UInt8)(r:Res St)(e p:Int)(i:ROk s r)(c:s.length<=1000000)(K:Hl):
  Sp x3 207 [ptr b,i64 e,i64 p] K [rtx b s r] (Ret fun v a L'=>v=.tuple #[]/\a=K/\L'=[rtx b s (rf (e,p) r)]):=by
 cases r with
 |error x=>exact SK b s _ _ _ _ _ _ _ e p K i
 |ok d=>exact nV b s _ _ _ _ _ e p K aH
end Go.Proofs
end
section
namespace Go.Syn
open Go.Proofs
section
variable{s:aP}{ff:aP->Int}{e:Int×Int}{acc:List aP}{c:Nat}{r:Res St}{α:Type}{a:α}
def bd{β:Type}(r:Res St)(F:St->Res β):Res β:=match r with| .ok a=>F a| .error e=>.error e
def RV{α:Type}(x:Res (α×St))(a:α)(r:Res St):Prop:=match x with| .ok p=>p.1=a/\r=.ok p.2| .error e=>r=.error e
def RV.err(h:RV (.error e) a r):r=.error e:=h
def RV.ok{p:α×St}(h:RV (.ok p) a r):p.1=a/\r=.ok p.2:=h
theorem RV.bad{x:Res (α×St)}(h:RV x a (.error e)):x=.error e:=by
 cases x<;>grind [RV]
def WC(h:ROk s r)(A:rE r=0):∃st,r=.ok st:=by
 cases r with
 |ok st=>exact⟨st,Y⟩
 |error e=>exact absurd A h
theorem yL(h:rK r≠0):∃st,r=.ok st:=by
 cases r with
 |ok st=>exact⟨st,Y⟩
 |error e=>exact absurd Y h
def rsig(s:aP)(c:Nat)(r:Res St):Res St:=if rK r=c then nx s r else rf (4,rW s r) r
theorem AB(h:rK r=c):rsig s c r=nx s r:=x7 h
def Hd(h:¬rK r=c):rsig s c r=rf (4,rW s r) r:=x6 h
def qW(h:ROk s r):ROk s (rsig s c r):=by
 unfold rsig;split
 ·exact lC h
 exact FA h (fun h=>by cases h)
theorem kI(d:c≠0):rsig s c (.error e)=.error e:=by
 exact x6 (show ¬(0=c) by omega)
def VL{c:UInt8}(d:eF c=true):c.toNat≠0:=by have:=rC d;omega
theorem mC{c:UInt8}(d:eF c=true)(h:ROk s r):rsig s c.toNat r=bd r (fun st=>sign s st [c]):=by
 cases r with
 |error e=>exact kI (VL d)
 |ok st=>
  have j:=qV h.2 d
  show _=sign s st [c]
  unfold sign take
  by_cases t:rk st.2=c.toNat
  ·obtain⟨F,a⟩:=j.1 t;rw[AB (show rK (.ok st)=_ from t),x6 (by rintro(h|⟨_,h⟩);exact h F;exact h (by simp[a]))]
   show next s st.1=_
   cases next s st.1<;>rfl
  rw [Hd (show ¬ rK (.ok st) = _ from t), x7 (by
   by_cases F:st.2.kind=5
   ·refine .inr ⟨cD,fun B=>t (j.2 ⟨F,by simpa using B⟩)⟩
   exact .inl F)]
  rfl
theorem FB{k:Nat}{st:St}(j:rk st.2=c↔st.2.kind=k):RV (take s st k []) st.2 (rsig s c (.ok st)):=by
 unfold take
 by_cases t:rk st.2=c
 ·rw[AB (show rK (.ok st)=_ from t),x6 (by rintro(h|⟨h,_⟩);exact h (j.1 t);exact h Y)];show RV _ _ (next s st.1);cases next s st.1<;>grind [rK,RV,AB]
 rw[Hd (show ¬rK (.ok st)=_ from t),x7 (.inl fun h=>t (j.2 h))]
 rfl
def rone(s:aP)(ff:aP->Int)(r:Res St):aP×Res St:=if rK r=34/\ff (rS r)≠0 then ([],rf (ff (rS r),rW s r) r)else (rS r,rsig s 34 r)
def pP(h:ROk s r):ROk s (rone s ff r).2/\(rone s ff r).1.length<=s.length:=by
 unfold rone
 by_cases d:rK r=34/\ff (rS r)≠0
 ·rw[x7 d];exact⟨FA h d.2,xAA _⟩
 rw[x6 d];exact⟨qW h,WD h⟩
theorem xS(h:ROk s r):RV (bd r fun st=>text s st ff) (rone s ff r).1 (rone s ff r).2:=by
 cases r with
 |error e=>
  unfold rone;rw[x6 (by rintro⟨h,_⟩;cases h)];exact kI (s:=s) (c:=34) dD
 |ok st=>
  have j:=V3 h.2
  show RV (text s st ff) _ _
  unfold rone text
  by_cases d:rk st.2=34/\ff (rs st.2)≠0
  ·have l:=j.1 d.1;have a:rs st.2=st.2.s:=by unfold rs;rw[x6 aH]
   rw[x7 (show rK (.ok st)=34/\ff (rS (.ok st))≠0 from d),x7 ⟨l,a▸d.2⟩]
   show Except.error (ff (rs st.2),st.2.at_)=_
   rw[a]
  rw[x6 (show ¬(rK (.ok st)=34/\ff (rS (.ok st))≠0)from d)];have z:¬(st.2.kind=3/\ff st.2.s≠0):=by
   rintro⟨l,b⟩;have a:rs st.2=st.2.s:=by unfold rs;rw[x6 aH]
   exact d ⟨j.2 l,a▸b⟩
  rw[x6 z];have I:=FB (s:=s) j
  show RV _ (rs st.2) (rsig s 34 (.ok st))
  cases f:take s st 3 []with
  |error e=>rw[f]at I;exact I
  |ok q=>
   grind [take,rs,ROk,RV]
def muR(s:aP)(r:Res St):Nat:=match r with| .ok e=>mu s e+1| .error _=>0
def LInv(s:aP)(ff:aP->Int)(T:Res (List aP×St))(r:Res St)(acc:List aP):Prop:=match r with
 | .ok a=>∃f,mu s a<=f/\T=oD s ff (f+1) a acc
 | .error e=>T=.error e
def HInv(s:aP)(ff:aP->Int)(T:Res (List aP×St))(r:Res St)(acc:List aP):Prop:=match r with
 | .ok a=>match text s a ff with| .error e=>T=.error e| .ok x=>∃f,mu s x.2<=f/\T=oD s ff (f+1) x.2 (acc++[x.1])
 | .error e=>T=.error e
def R1{T:Res (List aP×St)}(h:ROk s r)(p:HInv s ff T r acc):LInv s ff T (rone s ff r).2 (acc++[(rone s ff r).1])/\muR s (rone s ff r).2<=muR s r:=by
 have H:=xS (ff:=ff) h;cases r with
 |error e=>
  have:(rone s ff (.error e)).2=.error e:=H;rw[this];exact⟨p,xAG _⟩
 |ok a=>
  have z:RV (text s a ff) _ _:=H;unfold HInv at p;simp only[]at p;cases b:text s a ff with
  |error e=>
   rw[b]at z p;have:(rone s ff (.ok a)).2=.error e:=z;rw[this];exact⟨p,xAA _⟩
  |ok x=>
   rw[b]at z p;obtain⟨f,i,g⟩:=p;obtain⟨c,d⟩:=z.ok;have B:=nA h.1.1 b;rw[d,<-c];exact⟨⟨f,i,g⟩,by show mu s x.2+1<=mu s a+1;omega⟩
theorem rO:eF 44=true:=by decide
def Oe{T:Res (List aP×St)}(h:ROk s r)(p:LInv s ff T r acc)(j:rK r=44):HInv s ff T (nx s r) acc/\muR s (nx s r)<muR s r:=by
 obtain⟨b,rfl⟩:=yL (by rw[j];decide);obtain⟨f,l,a⟩:=p;obtain⟨F,i⟩:=(qV h.2 rO).1 j;simp only[oD,eat]at a;rw[x7 ⟨F,i⟩]at a
 show HInv s ff T (next s b.1) acc/\muR s (next s b.1)<_
 cases u:next s b.1 with
 |error e=>rw[u]at a;exact⟨a,Nat.succ_pos _⟩
 |ok q=>
  rw[u]at a;have B:=(j1 h.1.1 aH u).1;obtain⟨g,rfl⟩:∃g,f=g+1:=⟨f-1,aH⟩;refine⟨?_,by show mu s q+1<mu s b+1;omega⟩
  simp only[if_true]at a;unfold HInv;simp only[];cases c:text s q ff with
  |error e=>rw[c]at a;exact a
  |ok x=>
   rw[c]at a;have d:=(nA (fU h.1.1 u).1 c).1;exact⟨g,aH,a⟩
theorem CW:eF 93=true:=by decide
theorem RA{T:Res (List aP×St)}(h:ROk s r)(p:LInv s ff T r acc)(j:rK r≠44):RV T acc (rsig s 93 r):=by
 cases r with
 |error e=>rw[show T=.error e from p];exact kI dD
 |ok b=>
  obtain⟨f,c,a⟩:=p;have u:¬(b.2.kind=5/\b.2.s=[44]):=fun y=>j ((qV h.2 rO).2 y);simp only[oD,eat]at a;rw[x6 u]at a;simp only[]at a;rw[x6 dD]at a;have:=mC (s:=s) CW h;rw[show (93:UInt8).toNat=93 from rfl]at this;rw[this];show RV T acc (sign s b [93]);rw[a];cases sign s b [93]<;>grind [oD,eat,RV,ROk,LInv,qV,rO,mC,CW]
theorem Br:eF 91=true:=by decide
theorem RE(h:ROk s r)(j:rK r≠91):RV (bd r fun st=>list s st ff) [(rone s ff r).1] (rone s ff r).2:=by
 have H:=xS (ff:=ff) h;cases r with
 |error e=>exact H
 |ok st=>
  have u:¬(st.2.kind=5/\st.2.s=[91]):=fun y=>j ((qV h.2 Br).2 y);show RV (list s st ff) _ _;unfold list eat;rw[x6 u];simp only[];have z:RV (text s st ff) _ _:=H;cases a:text s st ff<;>grind [list,eat,RV,ROk,qV,Br]
def Oi(h:ROk s r)(j:rK r=91):HInv s ff (bd r fun st=>list s st ff) (nx s r) []/\muR s (nx s r)<muR s r:=by
 obtain⟨st,rfl⟩:=yL (by rw[j];decide);obtain⟨F,c⟩:=(qV h.2 Br).1 j
 show HInv s ff (list s st ff) (next s st.1) []/\muR s (next s st.1)<_
 unfold list eat;rw[x7 ⟨F,c⟩];cases u:next s st.1 with
 |error e=>exact⟨Y,Nat.succ_pos _⟩
 |ok q=>
  have B:=(j1 h.1.1 aH u).1;refine⟨?_,by show mu s q+1<mu s st+1;omega⟩
  simp only[if_true];unfold HInv;simp only[];cases a:text s q ff with
  |error e=>rfl
  |ok x=>exact⟨mu s x.2,xAG _,Y⟩
end
end Go.Syn
end
section
namespace Go.Proofs
open Go Go.SL Go.Syn Go.Mach Tryz
section
variable{s x:aP}
def pX(v:Value)(x:List UInt8)(xs:List (List UInt8))(K:Hl)(L:List Asn)(hv:SeesSl (aZ 9) K L v xs)(f:xs.length<=10000000):Sp x3 124 [v,str x] K L (Ret fun u c L'=>u=.bool (decide (x∈xs))/\c=K/\L'=L):=by
 refine bL func124 Y ntmps124 Y Y fun F w=>ZC ?_;refine eD (fun(i:Nat)=>i<=xs.length/\∀j:Nat,j<i->xs[j]?≠some x) (fun i=>[(0,v),(1,str x),(5,i64 i)]) (fun _=>K) (fun _=>L) (fun i=>xs.length-i) 0 ⟨xAA _,fun j h=>by omega⟩ bM Y a7 ?_;intro i ⟨G,C⟩;refine Z5 ?_;refine aA (bU (k:=aZ 9) Y xAC Y hv) Y (Z3 ?_);refine aX 9 Y (fun d=>?_) (fun d=>ZC ?_)
 ·obtain⟨y,t⟩:∃y,xs[i]?=some y:=⟨xs[i]'(by omega),x4 aH⟩;have S:i<xs.length:=aH;refine Z8 ?_;refine aA (aW (k:=aZ 9) b0 Y hv Y Y S) Y (aA (cE (o:=0) (k:=aZ 9) ts9 Y hv t Y) Y (Z4 ?_));refine aX 17 Y (fun a=>ZC ?_) (fun a=>Z8 ?_)
  ·have B:x∈xs:=x8 (a▸t);exact⟨_,Y,by rw[xAO B],rfl,rfl⟩
  refine cX (i+1) ⟨aH,?_⟩ aH bM Y a7
  intro j E e
  by_cases b:j=i
  ·subst b;rw[t]at e;exact a (xA0 e)
  exact C j aH e
 have B:¬x∈xs:=(fun B=>by obtain⟨j,E,e⟩:=List.getElem_of_mem B;exact C j aH (by rw[x4 E,e]));exact⟨_,Y,by rw[xAQ B],rfl,rfl⟩
def Pd(K:Hl):Sp x3 343 [] K [] (Ret fun u a L'=>a=K/\∃b,u=.slice (some ⟨b,0,none⟩) 4 4/\L'=[pt b (bK [str dK,str fO,str hU,str dS] 9)]):=by
 refine bL func343 Y ntmps343 Y Y fun F w=>Z7 ?_;refine cG (bJ (z0:=[(str []),(str []),(str []),(str [])]) b0 tz9 Y Y Y Y cW) Y ?_;refine aCJ fun j=>Z5 ?_;exact⟨_,Y,Y,_,Y,Y⟩
def OC(h:∀m c,s[m]?=some c->eS c=true/\(m=0->gE c=true)):named s=decide (0<s.length):=by
 cases s with
 |nil=>rfl
 |cons c t=>
  have P:=h 0 c rfl;have b:(c::t).all eS=true:=xB6.2 fun x a=>by
   obtain⟨m,B,e⟩:=List.getElem_of_mem a;exact(h m x (by rw[x4 B,e])).1
  have hd:fX c=false:=by
   have d:=D0 (P.2 rfl);cases a:fX c with
   |false=>rfl
   |true=>have:=HQ a;omega
  unfold named;rw[b]
  show (true&&(decide (c::t≠[])&&!fX c))=_
  rw[hd];simp
def KW{c:UInt8}(d:s[0]?=some c)(h:gE c=false):named s=false:=by
 cases hd:fX c with
 |false=>exact D6 d (by unfold eS;rw[h,hd];rfl)
 |true=>unfold named;rw[d];simp[hd]
def Ca(s:List UInt8)(K:Hl)(f:s.length<=140737488355328):Sp x3 321 [str s] K [] (Val (.bool (named s)) K):=by
 refine bL func321 Y ntmps321 Y Y fun F w=>ZC ?_;refine eD (fun(i:Nat)=>i<=s.length/\∀m c,m<i->s[m]?=some c->eS c=true/\(m=0->gE c=true)) (fun i=>[(0,str s),(3,i64 i)]) (fun _=>K) (fun i=>[]) (fun i=>s.length-i) 0 ⟨xAA _,fun m c h _=>by omega⟩ bM Y a7 ?_;intro i ⟨O,G⟩;refine Z9 ?_;refine aX 9 Y (fun j=>?_) (fun j=>?_)
 ·have M:i<s.length:=aH;obtain⟨c,d⟩:∃c,s[i]?=some c:=⟨s[i]'M,x4 M⟩;refine Z9 ?_;refine cH Y Y (m6 c _) Y (Z8 ?_);refine cH Y Y (mP c _) Y (Z3 ?_);refine dU (fun(_:Unit)=>True) (fun _=>[(0,str s),(3,i64 i),(29,.bool (!(letB c)&&(!(digB c)||decide (i=0))))]) (fun _=>K) (fun _=>[]) ?_ ?_
  ·refine Z2 ?_;refine aA gAB Y (Z1 ?_);refine kH 22 Y (fun u=>?_) (fun u=>?_)
   ·refine Z3 ?_;refine aA gAB Y (Z2 ?_);refine kH 25 Y (fun a=>?_) (fun a=>?_)
    ·refine Z6 ?_;exact gEV
    refine Z8 ?_;exact gEV
   refine Z8 ?_;exact gEV
  intro _ _;refine dZ 29 Y (fun b=>?_) (fun b=>Z8 ?_)
  ·have g:named s=false:=(by cases v:letB c with|true=>rw[v]at b;cases b|false=>cases hd:digB c with|false=>exact D6 d (by unfold eS;rw[<-mZ,<-pM,v,hd];rfl)|true=>rw[v,hd]at b;exact KW ((show i=0 by simpa using b)▸d) ((mZ c).symm.trans v));refine ZB ?_;refine uAd ?_;refine Z1 ?_;exact j4 g.symm _
  have r:eS c=true/\(i=0->gE c=true):=(by unfold eS;rw[<-mZ,<-pM];cases v:letB c with|true=>exact⟨Y,fun _=>Y⟩|false=>cases hd:digB c with|true=>exact⟨Y,fun P=>by simp[v,hd,P]at b⟩|false=>simp[v,hd]at b);refine cX (i+1) ⟨aH,fun m N B z=>?_⟩ aH bM Y a7
  rcases xAD m i with h|h
  ·exact G m N h z
  have e:m=i:=aH;subst e;rw[d]at z;cases z;exact r
 have g:named s=decide (0<s.length):=OC fun m c d=>G m c (by have:=kP d;omega) d
 refine ZE ?_;refine uAd ?_;refine Z1 ?_
 (refine j4 ?_ _;rw[g,decide_eq_decide];omega)
def ffit(w:Nat):aP->Int:=if w=1 then oneOf 6 sD else if w=2 then oneOf 7 [dH,cU]else if w=3 then fun x=>oneOf 7 [[102,114,111,109],[116,111]] (dY x)else if w=4 then fun x=>if named x=true then 0 else 7 else fun _=>0
def Cs:ffit 0 x=0:=rfl
def Ct:ffit 1 x=if decide (x∈sD)=true then 0 else 6:=by show (if x∈sD then (0:Int)else 6)=_;simp only[decide_eq_true_eq]
def Cu:ffit 2 x=if (decide (x=dH)||decide (x=cU))=true then 0 else 7:=by
 show (if x∈[dH,cU]then (0:Int)else 7)=_
 exact gF2
def Cv:ffit 3 x=if (decide (dY x=[102,114,111,109])||decide (dY x=[116,111]))=true then 0 else 7:=by
 show (if dY x∈[[102,114,111,109],[116,111]]then (0:Int)else 7)=_
 exact gF2
def Cw:ffit 4 x=if named x=true then 0 else 7:=rfl
def nM{e:Int}{w:Nat}{K:Hl}(h:ffit w x=e):Val (i64 (ffit w x)) K (.returned (i64 e)) K []:=⟨by rw[h],rfl,rfl⟩
def Lo(x:List UInt8)(a:Nat)(K:Hl)(d:a<=4)(f:x.length<=1000000):Sp x3 316 [str x,i64 a] K [] (Val (i64 (ffit a x)) K):=by
 refine bL func316 Y ntmps316 Y Y fun F w=>ZN ?_;refine aX 8 Y (fun e=>?_) (fun e=>Z6 ?_)
 ·obtain rfl:a=1:=aH;refine Z2 ?_;refine bA Y Y (Pd _) .nil Y ?_;rintro _ K _ ⟨rfl,b,rfl,rfl⟩ -;refine Z1 ?_;refine bA Y Y (pX _ x sD _ [pt b (bK [str dK,str fO,str hU,str dS] 9)] (.blk aL Y Y) dD) bQ Y ?_;refine aCL (Z6 ?_);refine aA gAB Y (Z2 ?_);refine dZ 14 Y (fun h=>?_) (fun h=>?_)
  ·refine Z8 ?_;refine uAd ?_;refine Z1 ?_;refine nM ?_
   first|exact Cs|(rw[Ct];simp_all[dH,cU];done)|(rw[Cu];simp_all[dH,cU];done)|(rw[Cv];simp_all[dH,cU];done)|(rw[Cw];simp_all[dH,cU];done)
  refine Z7 ?_;refine aA gAB Y (Z2 ?_)
  first|refine aX 38 Y (fun i=>?_) (fun i=>?_)|refine dZ 38 Y (fun i=>?_) (fun i=>?_)
  ·refine Z7 ?_;refine uAd ?_;refine Z1 ?_;refine nM ?_
   first|exact Cs|(rw[Ct];simp_all[dH,cU];done)|(rw[Cu];simp_all[dH,cU];done)|(rw[Cv];simp_all[dH,cU];done)|(rw[Cw];simp_all[dH,cU];done)
  refine Z8 ?_;refine uAd ?_;refine Z1 ?_;refine nM ?_
  first|exact Cs|(rw[Ct];simp_all[dH,cU];done)|(rw[Cu];simp_all[dH,cU];done)|(rw[Cv];simp_all[dH,cU];done)|(rw[Cw];simp_all[dH,cU];done)
 refine aX 15 Y (fun l=>?_) (fun l=>Z6 ?_)
 ·obtain rfl:a=2:=aH;refine Z4 ?_;refine kH 19 Y (fun g=>ZN ?_) (fun g=>ZD ?_)
  ·refine uAd ?_;refine Z1 ?_;refine nM ?_
   first|exact Cs|(rw[Ct];simp_all[dH,cU];done)|(rw[Cu];simp_all[dH,cU];done)|(rw[Cv];simp_all[dH,cU];done)|(rw[Cw];simp_all[dH,cU];done)
  refine aA gAB Y (Z2 ?_)
  first|refine aX 38 Y (fun i=>?_) (fun i=>?_)|refine dZ 38 Y (fun i=>?_) (fun i=>?_)
  ·refine Z7 ?_;refine uAd ?_;refine Z1 ?_;refine nM ?_
   first|exact Cs|(rw[Ct];simp_all[dH,cU];done)|(rw[Cu];simp_all[dH,cU];done)|(rw[Cv];simp_all[dH,cU];done)|(rw[Cw];simp_all[dH,cU];done)
  refine Z8 ?_;refine uAd ?_;refine Z1 ?_;refine nM ?_
  first|exact Cs|(rw[Ct];simp_all[dH,cU];done)|(rw[Cu];simp_all[dH,cU];done)|(rw[Cv];simp_all[dH,cU];done)|(rw[Cw];simp_all[dH,cU];done)
 refine aX 23 Y (fun u=>?_) (fun u=>Z6 ?_)
 ·obtain rfl:a=3:=aH;refine Z3 ?_;refine cH Y Y (kB _ _ aH) Y (Z7 ?_);refine kH 29 Y (fun c=>ZN ?_) (fun c=>ZD ?_)
  ·refine uAd ?_;refine Z1 ?_;refine nM ?_
   first|exact Cs|(rw[Ct];simp_all[dH,cU];done)|(rw[Cu];simp_all[dH,cU];done)|(rw[Cv];simp_all[dH,cU];done)|(rw[Cw];simp_all[dH,cU];done)
  refine aA gAB Y (Z2 ?_)
  first|refine aX 38 Y (fun i=>?_) (fun i=>?_)|refine dZ 38 Y (fun i=>?_) (fun i=>?_)
  ·refine Z7 ?_;refine uAd ?_;refine Z1 ?_;refine nM ?_
   first|exact Cs|(rw[Ct];simp_all[dH,cU];done)|(rw[Cu];simp_all[dH,cU];done)|(rw[Cv];simp_all[dH,cU];done)|(rw[Cw];simp_all[dH,cU];done)
  refine Z8 ?_;refine uAd ?_;refine Z1 ?_;refine nM ?_
  first|exact Cs|(rw[Ct];simp_all[dH,cU];done)|(rw[Cu];simp_all[dH,cU];done)|(rw[Cv];simp_all[dH,cU];done)|(rw[Cw];simp_all[dH,cU];done)
 refine aX 33 Y (fun B=>?_) (fun B=>?_)
 ·obtain rfl:a=4:=aH;refine Z2 ?_;refine cH Y Y (Ca _ _ aH) Y (Z8 ?_);refine aA gAB Y (Z2 ?_)
  first|refine aX 38 Y (fun i=>?_) (fun i=>?_)|refine dZ 38 Y (fun i=>?_) (fun i=>?_)
  ·refine Z7 ?_;refine uAd ?_;refine Z1 ?_;refine nM ?_
   first|exact Cs|(rw[Ct];simp_all[dH,cU];done)|(rw[Cu];simp_all[dH,cU];done)|(rw[Cv];simp_all[dH,cU];done)|(rw[Cw];simp_all[dH,cU];done)
  refine Z8 ?_;refine uAd ?_;refine Z1 ?_;refine nM ?_
  first|exact Cs|(rw[Ct];simp_all[dH,cU];done)|(rw[Cu];simp_all[dH,cU];done)|(rw[Cv];simp_all[dH,cU];done)|(rw[Cw];simp_all[dH,cU];done)
 obtain rfl:a=0:=aH;refine ZJ ?_;refine uAd ?_;refine Z1 ?_;refine nM ?_
 first|exact Cs|(rw[Ct];simp_all[dH,cU];done)|(rw[Cu];simp_all[dH,cU];done)|(rw[Cv];simp_all[dH,cU];done)|(rw[Cw];simp_all[dH,cU];done)
end
end Go.Proofs
end
section
namespace Go.Proofs
open Go Go.SL Go.Syn Go.Mach Tryz
open Go.Say (Co)
abbrev rsb(sb:Nat)(m:Msg)(hv:Value)(nm:Bool)(nv vv cv av:Value)(f en:Bool)(e p:Int):Asn:=pt sb (bK [str m.from_,str m.to_,i64 m.size,hv,.bool nm,nv,vv,cv,av,.bool f,.bool en,i64 e,i64 p] 233)
def stq(sb:Nat)(m:Msg)(hv:Value)(nm:Bool)(c:Co)(en:Bool)(e p:Int):Asn:=fun h=>∃W b s a,Sat [rsb sb m hv nm W b s a c.keep en e p,sl false (aZ 9) W (c.vars.map (·.1)),sl false (aZ 9) b (c.vars.map (·.2)),sl false (aZ 9) s (c.parts.take 10),sl false dI a c.acts] h
section
variable{E:Env}{c0:Code}{fr:Fr}{K:Hl}{L:List Asn}{Q:Post}{sb:Nat}{m:Msg}{hv:Value}{nm:Bool}{c:Co}{en:Bool}{e p:Int}
abbrev st5(sb:Nat)(m:Msg)(hv:Value)(nm:Bool)(c:Co)(en:Bool)(e p:Int)(nv vv cv av:Value):List Asn:=[rsb sb m hv nm nv vv cv av c.keep en e p,sl false (aZ 9) nv (c.vars.map (·.1)),sl false (aZ 9) vv (c.vars.map (·.2)),sl false (aZ 9) cv (c.parts.take 10),sl false dI av c.acts]
def MH{h:Hl}:Sat (stq sb m hv nm c en e p::L) h↔∃nv vv cv av,Sat (st5 sb m hv nm c en e p nv vv cv av++L) h:=by
 constructor
 ·rintro⟨a,l,⟨nv,vv,cv,av,b⟩,v,hd,rfl⟩;exact⟨nv,vv,cv,av,eT.2 ⟨a,l,b,v,hd,Y⟩⟩
 rintro⟨nv,vv,cv,av,b⟩;obtain⟨a,l,s,v,hd,rfl⟩:=eT.1 b;exact⟨a,l,⟨nv,vv,cv,av,s⟩,v,hd,Y⟩
def Jq{q w:World}{F:Hl}(i:In q F K (stq sb m hv nm c en e p::L) w):∃nv vv cv av,In q F K (st5 sb m hv nm c en e p nv vv cv av++L) w:=by
 obtain⟨x,a,r⟩:=i.rep;obtain⟨nv,vv,cv,av,a⟩:=MH.1 a;exact⟨nv,vv,cv,av,i.os,i.tape,i.output,i.size,x,a,r⟩
attribute [local semireducible] Go.SL.T Go.SL.OL Go.SL.D Go.SL.DL Go.SL.Ev Go.SL.Ef Go.SL.EfS in
def qO(h:∀nv vv cv av,T E c0 fr K (st5 sb m hv nm c en e p nv vv cv av++L) Q):T E c0 fr K (stq sb m hv nm c en e p::L) Q:=fun a w f i=>let ⟨nv,vv,cv,av,j⟩:=Jq i;h nv vv cv av a w f j
def jV{nv vv cv av:Value}:∀h,Sat (rsb sb m hv nm nv vv cv av c.keep en e p::sl false (aZ 9) nv (c.vars.map (·.1))::sl false (aZ 9) vv (c.vars.map (·.2))::sl false (aZ 9) cv (c.parts.take 10)::sl false dI av c.acts::L) h->Sat (stq sb m hv nm c en e p::L) h:=fun h a=>MH.2 ⟨nv,vv,cv,av,a⟩
end
def Co.small{vars:List (aP×aP)}{parts:List aP}(h:∀f,(vget vars f).length<=100000)(b:∀x∈parts,x.length<=100000):oX vars parts:=MInv.small (s:=⟨[],true,vars,parts,[],0⟩) ⟨cD,cD,h,b⟩
def pA(sb:Nat)(m:Msg)(hv:Value)(nm:Bool)(nv vv cv av:Value)(f en:Bool)(p:Int)(O a:Int)(K:Hl):Sp x3 115 [ptr sb,i64 O,i64 a] K [rsb sb m hv nm nv vv cv av f en 0 p] (Ret fun v b L'=>v=.tuple #[]/\b=K/\L'=[rsb sb m hv nm nv vv cv av f true O a]):=by
 refine bL func115 Y ntmps115 Y Y fun F w=>Z9 ?_;refine aX 10 Y (fun C=>ZP ?_) (fun C=>?_)
 ·exact gDF
 omega
def LB(sb:Nat)(m:Msg)(hv:Value)(nm:Bool)(nv vv cv av:Value)(r en:Bool)(e p:Int)(vars:List (aP×aP))(parts:List aP)(s:aP)(hs:s.length<=1000000)(jg:vars.length<=1000000)(K:Hl):Sp x3 286 [ptr sb,str s] K [rsb sb m hv nm nv vv cv av r en e p,sl false (aZ 9) nv (vars.map (·.1)),sl false (aZ 9) vv (vars.map (·.2)),sl false (aZ 9) cv (parts.take 10)] (Ret fun v K' L'=>v=.tuple #[str (kA vars parts s).1,i64 (kA vars parts s).2]/\K'=K/\L'=[rsb sb m hv nm nv vv cv av r en e p,sl false (aZ 9) nv (vars.map (·.1)),sl false (aZ 9) vv (vars.map (·.2)),sl false (aZ 9) cv (parts.take 10)]):=by
 refine bL func286 Y ntmps286 Y Y fun F w=>ZD ?_;refine eD (fun(i:Nat)=>i<=s.length/\∀j c,j<i->s[j]?=some c->¬c.toNat=125) (fun i=>[(0,ptr sb),(1,str s),(6,i64 i)]) (fun _=>K) (fun _=>[rsb sb m hv nm nv vv cv av r en e p,sl false (aZ 9) nv (vars.map (·.1)),sl false (aZ 9) vv (vars.map (·.2)),sl false (aZ 9) cv (parts.take 10)]) (fun i=>s.length-i) 0 ⟨xAA _,fun j c h _=>by omega⟩ bM Y a7 ?_;intro i ⟨W,G⟩;refine aI ?_;refine dU (fun(_:Unit)=>True) (fun _=>[(0,ptr sb),(1,str s),(6,i64 i),(20,.bool (decide (i<s.length/\¬((s[i]?).getD 0).toNat=125)))]) (fun _=>K) (fun _=>[rsb sb m hv nm nv vv cv av r en e p,sl false (aZ 9) nv (vars.map (·.1)),sl false (aZ 9) vv (vars.map (·.2)),sl false (aZ 9) cv (parts.take 10)]) ?_ ?_
 ·refine Z6 ?_;refine bV 15 Y (fun H=>?_) (fun H=>Z6 ?_)
  ·obtain⟨c,a⟩:∃c,s[i]?=some c:=⟨s[i]'(by omega),x4 aH⟩;refine ZA ?_;exact cB () trivial (.cons 0 Y (.cons 1 Y (.cons 6 Y (.cons 20 (by refine xAF (fun x=>some (Value.bool x)) ?_;first|(rw[a,decide_eq_decide];exact⟨fun h=>⟨aH,fun f=>h (by have O:c.toNat=125:=f;omega)⟩,fun h f=>h.2 (show c.toNat=125 by omega)⟩)|(symm;exact xAQ (fun h=>absurd h.1 aH))) .nil)))) Y a7
  exact cB () trivial (.cons 0 Y (.cons 1 Y (.cons 6 Y (.cons 20 (by refine xAF (fun x=>some (Value.bool x)) ?_;first|(rw[a,decide_eq_decide];exact⟨fun h=>⟨aH,fun f=>h (by have O:c.toNat=125:=f;omega)⟩,fun h f=>h.2 (show c.toNat=125 by omega)⟩)|(symm;exact xAQ (fun h=>absurd h.1 aH))) .nil)))) Y a7
 intro _ _;refine aX 20 Y (fun b=>Z9 ?_) (fun b=>?_)
 ·refine cX (i+1) ⟨aH,fun j c hj a=>?_⟩ aH bM Y a7
  rcases xAD j i with h|h
  ·exact G j c h a
  have e:j=i:=aH;subst e;rw[a]at b;exact b.2
 have S:=Q5 W G b;refine ZE ?_;refine aX 26 Y (fun N=>?_) (fun N=>?_)
 ·have g:kA vars parts s=([],0):=Lq S aH;refine Z8 ?_;exact gD2
 have y:¬i=s.length:=aH;refine Z6 ?_;refine aA (gC (n:=i) x9 Y Y Y aH) Y (Z4 ?_);refine dU (fun(_:Unit)=>True) (fun _=>[(0,ptr sb),(6,i64 i),(7,str (s.take i)),(36,.bool (decide (i=1)&&optB (s[0]?) digB))]) (fun _=>K) (fun _=>[rsb sb m hv nm nv vv cv av r en e p,sl false (aZ 9) nv (vars.map (·.1)),sl false (aZ 9) vv (vars.map (·.2)),sl false (aZ 9) cv (parts.take 10)]) ?_ ?_
 ·refine Z4 ?_;refine bV 32 Y (fun L=>?_) (fun L=>Z5 ?_)
  ·obtain rfl:i=1:=aH;obtain⟨c,a⟩:∃c,s[0]?=some c:=⟨s[0]'(by omega),x4 aH⟩;have jd:(s.take 1)[0]?=some c:=by rw[List.getElem?_take,x7 aH];exact a
   refine Z5 ?_;refine cH Y Y (mP c _) Y (Z2 ?_);exact gEJ
  exact gEJ
 intro _ _;refine dZ 36 Y (fun B=>?_) (fun B=>?_)
 ·rw[Bool.and_eq_true,decide_eq_true_eq]at B;obtain⟨rfl,B⟩:=B;obtain⟨d,hd,t⟩:=rX B;have t:48<=d.toNat/\d.toNat<=57:=by simpa[digB]using t
  have je:(s.take 1)[0]?=some d:=by rw[List.getElem?_take,x7 aH];exact hd
  have jb:s.take 1=[d]:=by rw[xA2,hd];rfl
  have g:=Pe (vars:=vars) (parts:=parts) S y jb t;have A:=OP (parts:=parts) (j:=d.toNat-48) aH;refine Z4 ?_;refine aA (Ao (m:=d.toNat) (n:=48) aH aH Y Y) Y (aA (pT xAM xAZ Y aH aH) Y (ZB ?_));refine uAb ?_;refine Z3 ?_;refine aX 47 Y (fun P=>?_) (fun P=>?_)
  ·obtain⟨x,E⟩:∃x,(parts.take 10)[d.toNat-48]?=some x:=⟨(parts.take 10)[d.toNat-48]'(by omega),x4 aH⟩;rw[<-A,E]at g;refine Z7 ?_;refine aA (aW (k:=aZ 9) (j:=d.toNat-48) b0 Y aL Y aH aH) Y (uAe ?_);refine Z7 ?_;exact gD2
  rw[<-A,xAH aH]at g;refine ZA ?_;exact gD2
 have ja:¬(∃d,s.take i=[d]/\48<=d.toNat/\d.toNat<=57):=(by rintro⟨d,h1,f⟩;have hl:i=1:=(by have:=xAF List.length h1;rw[xA6]at this;simp at this;omega);subst hl;have O:s[0]?=some d:=(by have:=xAF (fun l:aP=>l[0]?) h1;simpa using this);rw[O,xAO rfl,Bool.true_and]at B;have h4:digB d=false:=B;simp[digB,f.1,f.2]at h4);have g:=IT (vars:=vars) (parts:=parts) S y ja;refine Z5 ?_;refine cH Y Y (Ca _ _ gBU) Y (Z7 ?_);refine aA gAB Y (Z2 ?_)
 first|refine aX 58 Y (fun u=>?_) (fun u=>?_)|refine dZ 58 Y (fun u=>?_) (fun u=>?_)
 ·have C:named (s.take i)=false:=(by revert u;cases named (s.take i)<;>simp);rw[x6 (by simp[C])]at g;refine Z8 ?_;exact gD2
 have C:named (s.take i)=true:=(by revert u;cases named (s.take i)<;>simp);rw[x7 C]at g;refine Z5 ?_;refine cH Y Y (kB _ _ gBU) Y (ZA ?_);refine eD (fun(k:Nat)=>k<=vars.length/\∀j,j<k->(vars.map (·.1))[j]?≠some (dY (s.take i))) (fun k=>[(0,ptr sb),(6,i64 i),(7,str (dY (s.take i))),(10,i64 k)]) (fun _=>K) (fun _=>[rsb sb m hv nm nv vv cv av r en e p,sl false (aZ 9) nv (vars.map (·.1)),sl false (aZ 9) vv (vars.map (·.2)),sl false (aZ 9) cv (parts.take 10)]) (fun k=>vars.length-k) 0 ⟨xAA _,fun j h=>by omega⟩ bM Y a7 ?_;intro k ⟨jf,I⟩;refine Z8 ?_;refine uAj ?_;refine Z3 ?_;refine aX 67 Y (fun Q=>?_) (fun Q=>?_)
 ·have z:k<vars.length:=gCF;obtain⟨x,E⟩:∃x,vars[k]?=some x:=⟨vars[k]'z,x4 z⟩;have M:(vars.map (·.1))[k]?=some x.1:=by simp[E]
  have jc:(vars.map (·.2))[k]?=some x.2:=by simp[E]
  refine ZB ?_;refine aA (aW (k:=aZ 9) (j:=k) b0 Y aL Y Y gAV) Y ?_;refine aA (cE (o:=0) (k:=aZ 9) ts9 Y aL M Y) Y (Z4 ?_);refine aX 78 Y (fun q=>?_) (fun q=>Z8 ?_)
  ·rw[JE (vars:=vars) (i:=k) (v:=x.2) (by rw[E,<-show x.1=dY (s.take i)from q]) I]at g;refine Z7 ?_;refine aA (aW (k:=aZ 9) (j:=k) b0 Y aL Y Y gAV) Y ?_;refine aA (cE (o:=0) (k:=aZ 9) ts9 Y aL jc Y) Y (ZC ?_);exact gD2
  refine cX (k+1) ⟨aH,fun j hj a=>?_⟩ aH bM Y a7
  rcases xAD j k with h|h
  ·exact I j h a
  have e:j=k:=aH;subst e;rw[M]at a;exact q (xA0 a)
 rw[Gn (fun j hj=>I j gCF)]at g;refine ZE ?_;exact gD2
def oL(sb:Nat)(m:Msg)(hv:Value)(nm:Bool)(nv vv cv av:Value)(g en:Bool)(e p:Int)(vars:List (aP×aP))(parts:List aP)(s:aP)(hs:s.length<=100000)(L:vars.length<=1000000)(S:oX vars parts)(K:Hl):Sp x3 213 [ptr sb,str s] K [rsb sb m hv nm nv vv cv av g en e p,sl false (aZ 9) nv (vars.map (·.1)),sl false (aZ 9) vv (vars.map (·.2)),sl false (aZ 9) cv (parts.take 10)] (Ret fun v O L'=>v=str (cY nm vars parts s)/\O=K/\L'=[rsb sb m hv nm nv vv cv av g en e p,sl false (aZ 9) nv (vars.map (·.1)),sl false (aZ 9) vv (vars.map (·.2)),sl false (aZ 9) cv (parts.take 10)]):=by
 refine bL func213 Y ntmps213 Y Y fun F w=>ZC ?_;refine aA gAB Y (Z2 ?_)
 first|refine aX 13 Y (fun M=>?_) (fun M=>?_)|refine dZ 13 Y (fun M=>?_) (fun M=>?_)
 ·have b:nm=false:=(by revert M;cases nm<;>simp);have r:cY nm vars parts s=s:=by rw[BP,x6 (by simp[b])]
  refine Z9 ?_
  (rw[r];exact⟨_,Y,Y,Y,Y⟩)
 have b:nm=true:=(by revert M;cases nm<;>simp);have r:cY nm vars parts s=(exp2 vars parts s).take 1024:=by rw[BP,x7 b]
 refine ZE ?_;refine jC (fun(i:Nat) (a:aP)=>i<=s.length/\a.length<=100001*i/\exp2 vars parts s=a++exp2 vars parts (s.drop i)) (fun i a=>[(0,ptr sb),(1,str s),(5,str a),(6,i64 i)]) (fun _ _=>K) (fun _ _=>[rsb sb m hv nm nv vv cv av g en e p,sl false (aZ 9) nv (vars.map (·.1)),sl false (aZ 9) vv (vars.map (·.2)),sl false (aZ 9) cv (parts.take 10)]) (fun i _=>s.length-i) 0 [] ⟨xAA _,cD,cD⟩ bM Y a7 ?_;intro i a ⟨Q,W,C⟩;refine Z9 ?_;refine aX 18 Y (fun y=>?_) (fun y=>?_)
 ·obtain⟨c,H⟩:∃c,s[i]?=some c:=⟨s[i]'(by omega),x4 aH⟩;refine ZD ?_;refine dU (fun(q:aP×Nat)=>q.1.length<=100000/\q.2<=s.length-i-2/\((c.toNat=36/\((s[i+1]?).getD 0).toNat=123)->q=kA vars parts (s.drop (i+2)))/\(0<q.2->c.toNat=36/\((s[i+1]?).getD 0).toNat=123/\i+2<=s.length)) (fun q=>[(0,ptr sb),(1,str s),(5,str a),(6,i64 i),(7,i64 q.2),(8,str q.1)]) (fun _=>K) (fun _=>[rsb sb m hv nm nv vv cv av g en e p,sl false (aZ 9) nv (vars.map (·.1)),sl false (aZ 9) vv (vars.map (·.2)),sl false (aZ 9) cv (parts.take 10)]) ?_ ?_
  ·refine dU (fun(_:Unit)=>True) (fun _=>[(0,ptr sb),(1,str s),(5,str a),(6,i64 i),(7,i64 0),(8,str []),(36,.bool (decide (c.toNat=36/\((s[i+1]?).getD 0).toNat=123)))]) (fun _=>K) (fun _=>[rsb sb m hv nm nv vv cv av g en e p,sl false (aZ 9) nv (vars.map (·.1)),sl false (aZ 9) vv (vars.map (·.2)),sl false (aZ 9) cv (parts.take 10)]) ?_ ?_
   ·refine Z7 ?_;refine bV 24 Y (fun u=>?_) (fun u=>?_)
    ·obtain⟨d,hd⟩:∃d,s[i+1]?=some d:=⟨s[i+1]'(by omega),x4 aH⟩;refine ZA ?_;refine bV 30 Y (fun E=>ZC ?_) (fun E=>Z7 ?_)
     ·exact gD1
     exact gD1
    have hd:s[i+1]?=none:=xAH aH;refine ZD ?_;exact gD1
   intro _ _;refine aX 36 Y (fun B=>?_) (fun B=>?_)
   ·have j:i+2<=s.length:=(by rcases xAD (i+1) s.length with h|h;omega;(have f:=B.2;rw[xAH h]at f;cases f));refine Z5 ?_;refine aA (lH (m:=i+2) x9 Y Y aH aH) Y (bA Y Y (LB sb m hv nm nv vv cv av g en e p vars parts (s.drop (i+2)) gBB L _) bQ Y ?_);refine aCL (Z6 ?_);exact cB (kA vars parts (s.drop (i+2))) ⟨(by unfold kA;split;simp;split;exact S _;simp),(by have:=SM vars parts (s.drop (i+2));rw[xBF]at this;omega),fun _=>Y,fun _=>⟨B.1,B.2,j⟩⟩ bM Y a7
   refine aU ?_;exact cB ([],0) ⟨cD,cD,fun h=>absurd h B,fun h=>absurd h cD⟩ bM Y a7
  intro q ⟨ja,jb,t,I⟩;have hz:(c.toNat=36/\((s[i+1]?).getD 0).toNat=123)->(kA vars parts (s.drop (i+2))).2=q.2:=fun h=>by rw[<-t h]
  have hy:0<q.2->exp2 vars parts (s.drop i)=q.1++exp2 vars parts (s.drop (i+2+q.2)):=(fun P=>by obtain⟨N,f,l⟩:=I P;obtain⟨d,hd⟩:∃d,s[i+1]?=some d:=⟨s[i+1]'(by omega),x4 aH⟩;rw[hd]at f;have e:=t ⟨N,by rw[hd];exact f⟩;have G:=Ro H N hd f (by rw[<-e];exact P);rw[<-e]at G;exact G);refine Z7 ?_;refine aX 47 Y (fun z=>Z7 ?_) (fun z=>Z6 ?_)
  ·refine aA (Am (fP x9 Y Y Y Y Y aH aH) H) Y (aA (eG Y Y gAH) Y (ZD ?_));exact d9 (i+1) (a++[c]) ⟨aH,by rw[xAE,xBI];omega,by rw[C,UK H (fun h=>by first|(have G:=hz h;omega)|omega),xA1];rfl⟩ aH bM Y a7
  refine aA (eG Y Y gAH) Y (ZB ?_);exact d9 (i+2+q.2) (a++q.1) ⟨aH,by rw[xAE];omega,by rw[C,hy aH,xA1]⟩ aH bM Y a7
 obtain rfl:i=s.length:=aH;rw[List.drop_length,Aq,xAL]at C;rw[C]at r;refine ZD ?_;refine aX 66 Y (fun A=>Z2 ?_) (fun A=>?_)
 ·refine aA (gC (n:=1024) x9 Y Y Y aH) Y (ZB ?_)
  (rw[r];exact⟨_,Y,Y,Y,Y⟩)
 refine ZA ?_
 (rw[r,xAJ aH];exact⟨_,Y,Y,Y,Y⟩)
def Qs{s:aP}{i:Nat}{a:Int}(Q:i=s.length)(G:∀(j:Nat) (c:UInt8),j<i->s[j]?=some c->fW c=false)(C:(a= -1/\∀j,j<i->¬is64 s j)\/∃n:Nat,a=n/\n<i/\is64 s n/\∀j,j<i->¬j=n->¬is64 s j):e8 s=decide (0<a/\a<(s.length:Int)-1/\(s.length:Int)<=32):=by
 subst Q;rcases C with ⟨rfl,h⟩|⟨n,rfl,e,b,l⟩
 ·rw[Nn h,xAQ aH]
 rw[Qt b l (fun j c d=>G j c (xAI.1 d).1 d),decide_eq_decide];omega
def Lk(s:aP)(hs:s.length<=1000000)(K:Hl):Sp x3 214 [str s] K [] (Val (.bool (e8 s)) K):=by
 refine bL func214 Y ntmps214 Y Y fun F w=>ZH ?_;refine jC (fun(i:Nat) (a:Int)=>i<=s.length/\(∀(j:Nat) (c:UInt8),j<i->s[j]?=some c->fW c=false)/\((a= -1/\∀j,j<i->¬is64 s j)\/∃n:Nat,a=n/\n<i/\is64 s n/\∀j,j<i->¬j=n->¬is64 s j)) (fun i a=>[(0,str s),(3,i64 a),(4,i64 i)]) (fun _ _=>K) (fun _ _=>[]) (fun i _=>s.length-i) 0 (-1) ⟨xAA _,fun j c h _=>by omega,.inl ⟨rfl,fun j h=>by omega⟩⟩ bM Y a7 ?_;intro i a ⟨W,G,C⟩;refine Z9 ?_;refine aX 9 Y (fun O=>?_) (fun O=>?_)
 ·obtain⟨c,g⟩:∃c,s[i]?=some c:=⟨s[i]'(by omega),x4 aH⟩;refine Z9 ?_;refine cH Y Y (BY c _) Y (Z4 ?_);refine dU (fun(_:Unit)=>fW c=true\/(fW c=false/\True)) (fun _=>[(0,str s),(3,i64 a),(4,i64 i),(26,.bool (fW c||(decide (c.toNat=64)&&decide (0<=a))))]) (fun _=>K) (fun _=>[]) ?_ ?_
  ·refine Z3 ?_;refine kH 17 Y (fun N=>?_) (fun N=>?_)
   ·have M:e8 s=false:=CQ g N;refine ZA ?_;exact gEL
   have v:fW c=false:=N;refine ZA ?_;refine bV 22 Y (fun u=>Z8 ?_) (fun u=>Z6 ?_)
   ·exact gEL
   exact gEL
  intro _ S;refine dZ 26 Y (fun b=>?_) (fun b=>?_)
  ·have M:e8 s=false:=(by cases q:fW c with|true=>exact CQ g q|false=>rw[q,Bool.false_or,Bool.and_eq_true,decide_eq_true_eq,decide_eq_true_eq]at b;rcases C with ⟨h,_⟩|⟨n,H,I,l,A⟩;exact absurd b.2 aH;exact Qu I l (fun j E=>A j aH aH) (by unfold is64;rw[g];exact b.1));refine ZC ?_;refine uAd ?_;refine Z1 ?_;exact j4 M.symm _
  rw[Bool.or_eq_false_iff]at b;obtain⟨v,b⟩:=b;have b:c.toNat=64->a<0:=(fun h=>by rw[xAO h,Bool.true_and,decide_eq_false_iff_not]at b;omega);refine ZA ?_;refine aX 30 Y (fun z=>?_) (fun z=>?_)
  ·have b:=b aH;refine ZB ?_;have f:∀(j:Nat) (c:UInt8),j<i+1->s[j]?=some c->fW c=false:=(fun j d E hd=>by rcases xAD j i with h|h;exact G j d h hd;(have e:j=i:=by omega);subst e;rw[g]at hd;cases hd;exact v)
   (rcases C with ⟨_,C⟩|⟨n,P,jb,_⟩;exact d9 (i+1) (i:Int) ⟨aH,f,.inr ⟨i,Y,aH,by unfold is64;rw[g];exact(show c.toNat=64 by omega),fun j E ja=>C j aH⟩⟩ aH bM Y (fun _ h=>h);exfalso;exact absurd P aH)
  have p:¬is64 s i:=(by unfold is64;rw[g];show ¬c.toNat=64;omega);refine Z8 ?_;have f:∀(j:Nat) (c:UInt8),j<i+1->s[j]?=some c->fW c=false:=(fun j d E hd=>by rcases xAD j i with h|h;exact G j d h hd;(have e:j=i:=by omega);subst e;rw[g]at hd;cases hd;exact v)
  (exact d9 (i+1) a ⟨aH,f,C.elim (fun h=>.inl ⟨h.1,fun j E=>by rcases xAD j i with l|l;exact h.2 j l;(have e:j=i:=by omega);subst e;exact p⟩) (fun⟨n,H,I,l,A⟩=>.inr ⟨n,H,aH,l,fun j E B=>by rcases xAD j i with L|L;exact A j L B;(have e:j=i:=by omega);subst e;exact p⟩)⟩ aH bM Y a7)
 have Q:i=s.length:=aH;have r:e8 s=decide (0<a/\a<(s.length:Int)-1/\(s.length:Int)<=32):=Qs Q G C;refine ZA ?_;refine bV 34 Y (fun t=>ZC ?_) (fun t=>ZF ?_)
 ·refine bV 41 Y (fun y=>ZB ?_) (fun y=>Z8 ?_)
  ·refine uAd ?_;refine Z1 ?_;refine j4 ?_ _
   rw[r]
   first|(symm;exact xAQ (fun h=>by omega))|(rw[decide_eq_decide];omega)
  refine uAd ?_;refine Z1 ?_;refine j4 ?_ _
  rw[r]
  first|(symm;exact xAQ (fun h=>by omega))|(rw[decide_eq_decide];omega)
 refine uAd ?_;refine Z1 ?_;refine j4 ?_ _
 rw[r]
 first|(symm;exact xAQ (fun h=>by omega))|(rw[decide_eq_decide];omega)
section
variable{x:gI}{c:Co}{acts:List gI}
structure CInv (c:Co):Prop where
 vn:c.vars.length<=1000000
 vars:∀name,(vget c.vars name).length<=100000
 parts:∀x∈c.parts,x.length<=100000
 acts:c.acts.length<=6
 keep:c.keep=true->c.acts=[]
def CInv.small(h:CInv c):oX c.vars c.parts:=Co.small h.vars h.parts
def addA(x:gI)(acts:List gI):Except Int (List gI):=if x∈acts then .ok acts else if ∃b∈acts,x.1=4\/b.1=4 then .error 10 else if acts.length=6 then .error 11 else .ok (acts++[x])
def Ut(h:x∈acts):addA x acts=.ok acts:=x7 h
def JI(h:¬x∈acts)(a:∃b∈acts,x.1=4\/b.1=4):addA x acts=.error 10:=by unfold addA;rw[x6 h,x7 a]
def Nm(h:¬x∈acts)(a:¬ ∃b∈acts,x.1=4\/b.1=4)(l:acts.length=6):addA x acts=.error 11:=by unfold addA;rw[x6 h,x6 a,x7 l]
def Qp(h:¬x∈acts)(a:¬ ∃b∈acts,x.1=4\/b.1=4)(l:¬acts.length=6):addA x acts=.ok (acts++[x]):=by unfold addA;rw[x6 h,x6 a,x6 l]
def sto(p:Nat)(m:Msg)(hv:Value)(nm:Bool)(r:Res (Bool×Co)):Asn:=match r with
 | .error x=>fun h=>∃c,stq p m hv nm c true x.1 x.2 h
 | .ok q=>stq p m hv nm q.2 q.1 0 0
def CD{b:Nat}{m:Msg}{hv:Value}{nm:Bool}{e p:Int}{L:List Asn}:∀h,Sat (stq b m hv nm c true e p::L) h->Sat (sto b m hv nm (.error (e,p))::L) h:=fun h ⟨a,l,s,v,hd,e⟩=>⟨a,l,⟨c,s⟩,v,hd,e⟩
def FF(d:Nat)(m:Msg)(hv:Value)(nm:Bool)(nv vv cv av:Value)(g A:Bool)(L:Int)(acts:List gI)(x:gI)(p:Int)(hl:acts.length<=6)(K:Hl):Sp x3 215 [ptr d,.agg #[i64 x.1,str x.2],i64 p] K [rsb d m hv nm nv vv cv av g A 0 L,sl false dI av acts]
  (Ret fun v K' L'=>v=.tuple #[]/\K'=K/\∃f,L'=match addA x acts with| .ok l=>[rsb d m hv nm nv vv cv f g A 0 L,sl false dI f l]| .error e=>[rsb d m hv nm nv vv cv f g true e p,sl false dI f acts]):=by
 refine bL func215 Y ntmps215 Y Y fun F w=>Z3 ?_;refine aCJ fun u=>Z9 ?_;refine eD (fun(i:Nat)=>i<=acts.length/\∀j,j<i->acts[j]?≠some x) (fun i=>[(0,ptr d),(2,i64 p),(4,ptr u),(6,i64 i)]) (fun _=>K) (fun _=>[pt u (bK [i64 x.1,str x.2] 34),rsb d m hv nm nv vv cv av g A 0 L,sl false dI av acts]) (fun i=>acts.length-i) 0 ⟨xAA _,fun j h=>by omega⟩ bM Y a7 ?_;intro i ⟨O,G⟩;refine Z8 ?_;refine aA (bU (k:=dI) Y xAY Y aL) Y (Z3 ?_);refine aX 14 Y (fun C=>?_) (fun C=>?_)
 ·obtain⟨y,t⟩:∃y,acts[i]?=some y:=⟨acts[i]'(by omega),x4 aH⟩;have Q:i<acts.length:=aH;refine Z5 ?_;refine cN [] [] mixed gAD (cM _) (Z5 ?_);refine aJ Y Y (.none Y) Y Y (aW (k:=dI) (j:=i) jG Y aL Y Y Q) Y ?_;refine aJ Y Y (.none Y) Y Y (fH (n:=0) (k:=dI) lY Y aL t) Y (Z1 ?_);refine aJ Y Y (.none Y) Y Y (Fs (a:=y) (c:=x) Y Y) Y (Z2 ?_);refine aX 25 Y (fun q=>?_) (fun q=>Z8 ?_)
  ·have s:=Ut (x:=x) (acts:=acts) (q▸x8 t);refine Z6 ?_;refine uAw ?_;refine jJ Y (xAB _) ?_;rw[s];exact⟨_,Y,Y,Y,av,Y⟩
  refine cX (i+1) ⟨aH,fun j E=>?_⟩ aH bM Y a7
  rcases xAD j i with h|h
  ·exact G j h
  have e:j=i:=aH;subst e;rw[t];intro e;exact q (xA0 e)
 have r:¬x∈acts:=(fun hm=>by obtain⟨j,E⟩:=xA4 hm;exact G j gCS E);refine ZC ?_;refine eD (fun(i:Nat)=>i<=acts.length/\∀j,j<i->∀y,acts[j]?=some y->¬(x.1=4\/y.1=4)) (fun i=>[(0,ptr d),(2,i64 p),(4,ptr u),(7,i64 i)]) (fun _=>K) (fun _=>[pt u (bK [i64 x.1,str x.2] 34),rsb d m hv nm nv vv cv av g A 0 L,sl false dI av acts]) (fun i=>acts.length-i) 0 ⟨xAA _,fun j h=>by omega⟩ bM Y a7 ?_;intro i ⟨O,G⟩;refine Z8 ?_;refine aA (bU (k:=dI) Y xAY Y aL) Y (Z3 ?_);refine aX 32 Y (fun H=>?_) (fun H=>?_)
 ·obtain⟨y,t⟩:∃y,acts[i]?=some y:=⟨acts[i]'(by omega),x4 aH⟩;have Q:i<acts.length:=aH;refine Z4 ?_;refine dU (fun(_:Unit)=>True) (fun _=>[(0,ptr d),(2,i64 p),(4,ptr u),(7,i64 i),(48,.bool (decide (y.1=4)||decide (x.1=4)))]) (fun _=>K) (fun _=>[pt u (bK [i64 x.1,str x.2] 34),rsb d m hv nm nv vv cv av g A 0 L,sl false dI av acts]) ?_ ?_
  ·refine Z6 ?_;refine aA (aW (k:=dI) (j:=i) jG Y aL Y Y Q) Y ?_;refine aA (dN (k:=dI) (j:=i) iT Y aL Q) Y ?_;refine aA (eW (k:=dI) ts3 Y aL t Y) Y (Z2 ?_);refine bV 44 Y (fun B=>Z5 ?_) (fun B=>Z8 ?_)
   ·exact gFW
   exact gFW
  intro _ _;refine dZ 48 Y (fun S=>?_) (fun S=>?_)
  ·rw[Bool.or_eq_true,decide_eq_true_eq,decide_eq_true_eq]at S;have s:=JI (x:=x) (acts:=acts) r ⟨y,x8 t,S.symm⟩;refine Z4 ?_;refine bA Y Y (pA d m hv nm nv vv cv av g A L 10 p _) bQ Y ?_;refine aCL (Z8 ?_);exact gF4
  rw[Bool.or_eq_false_iff,decide_eq_false_iff_not,decide_eq_false_iff_not]at S;refine Z8 ?_;refine cX (i+1) ⟨aH,fun j E=>?_⟩ aH bM Y a7
  rcases xAD j i with h|h
  ·exact G j h
  have e:j=i:=aH;subst e;intro z W;rw[t]at W;cases W;omega
 have P:¬ ∃b∈acts,x.1=4\/b.1=4:=(by rintro⟨b,hb,hh⟩;obtain⟨j,E⟩:=xA4 hb;exact G j gCS b E hh);refine ZC ?_;refine aA (bU (k:=dI) Y xAY Y aL) Y (Z3 ?_);refine aX 57 Y (fun I=>?_) (fun I=>?_)
 ·have s:=Nm (x:=x) (acts:=acts) r P aH;refine Z4 ?_;refine bA Y Y (pA d m hv nm nv vv cv av g A L 11 p _) bQ Y ?_;refine aCL (Z4 ?_);exact gF4
 have s:=Qp (x:=x) (acts:=acts) r P aH;refine Z2 ?_;refine cN [6,7,10] [10] mixed gAD (aQ cL (aQ cL bT)) (Z6 ?_);refine s6 Y Y (.none Y) Y Y (bJ (z0:=[.int .i64 0,(str [])]) jG E1 Y Y Y Y cW) Y ?_;refine aCJ fun ja=>?_;refine⟨_,(show Tks _ _ _ from (aQ dQ (aQ dQ bT))).sat,?_⟩
 refine s6 Y Y (.none Y) Y Y (dJ (k:=dI) (ys:=[x]) m9 Y Y (.there (.there (.there .here))) (fun w j=>dC xAY (SeesSl.at (k:=dI) (.blk aL Y Y) j)) gAG gAH) Y ?_;rintro M K _ ⟨rfl,rfl,N⟩ -;refine⟨_,(show Tks _ _ _ from (aQ dQ (aQ dQ bT))).sat,?_⟩
 refine Z2 ?_;refine l7 Y Y (.none Y) Y (bW kX Y Y cR bP aZe Y) ?_;rintro _ K _ ⟨rfl,rfl⟩ -;refine cI (uAw ?_);refine Z1 ?_;rw[s];exact⟨_,Y,Y,Y,M,Y⟩
def Cf(s n tag:Int)(K:Hl):Sp x3 212 [i64 s,i64 n,i64 tag] K [] (Val (.bool (if tag=1 then decide (n<s)else decide (s<n))) K):=by
 refine bL func212 Y ntmps212 Y Y fun F w=>ZC ?_;refine aX 8 Y (fun e=>?_) (fun e=>?_)
 ·refine ZB ?_
  (refine j4 ?_ _;rw[x7 bZ])
 refine ZC ?_
 (refine j4 ?_ _;rw[x6 bZ])
end
section
variable{u:aP}
section
variable{nm:Bool}{m:Msg}{k p:Int}{a:aP}{c:Co}
def vB{e:Int×Int}(h:Say.act k (Say.actArg nm k a c) p c=.error e):Say.cmd nm m (.act k a p) c=.error e:=by simp only[Say.cmd,h]
def JY{d:Co}(h:Say.act k (Say.actArg nm k a c) p c=.ok d):Say.cmd nm m (.act k a p) c=.ok (false,d):=by simp only[Say.cmd,h]
def Us(h:k=2)(b:rL u=false):Say.act k u p c=.error (8,p):=by unfold Say.act;rw[x7 ⟨h,b⟩]
def Ur(h:k=3)(b:e8 u=false):Say.act k u p c=.error (9,p):=by unfold Say.act;rw[x6 aH,x7 ⟨h,b⟩]
def zR{x:gI}(a:k=2->rL u=true)(b:k=3->e8 u=true)(d:Say.actX k u=x):Say.act k u p c=match addA x c.acts with| .ok l=>.ok {c with keep:=false,acts:=l}| .error e=>.error (e,p):=by
 unfold Say.act;rw[x6 (fun h=>by rw[a h.1]at h;cases h.2),x6 (fun h=>by rw[b h.1]at h;cases h.2),d];unfold Say.addX addA;split
 ·rfl
 split
 ·rfl
 split<;>rfl
def Nk(h:k=4)(v:48<u.length):Say.actX k u=(k,u.take 48):=by unfold Say.actX;rw[x7 h]
def xB(h:¬k=4\/u.length<=48):Say.actX k u=(k,u):=by
 unfold Say.actX;split
 ·rw[xAJ aH]
 rfl
end
def tP(i:Nat)(m:Msg)(hv:Value)(nm:Bool)(c:Co)(k:Int)(arg:aP)(p:Int)(y:CInv c)(L:1<=k/\k<=4)(O:arg.length<=100000)(K:Hl):Sp x3 118 [ptr i,i64 k,str arg,i64 p] K [stq i m hv nm c false 0 0] (Ret fun v G L'=>v=.tuple #[]/\G=K/\L'=[sto i m hv nm (Say.cmd nm m (.act k arg p) c)]):=by
 refine bL func118 Y ntmps118 Y Y fun F w=>?_;have I:=y.vn;refine qO fun W t s j=>Z5 ?_;refine dU (fun(u:aP)=>u.length<=100000/\u=Say.actArg nm k arg c) (fun u=>[(0,ptr i),(1,i64 k),(3,i64 p),(8,str u)]) (fun _=>K) (fun _=>[rsb i m hv nm W t s j c.keep false 0 0,sl false (aZ 9) W (c.vars.map (·.1)),sl false (aZ 9) t (c.vars.map (·.2)),sl false (aZ 9) s (c.parts.take 10),sl false dI j c.acts]) ?_ ?_
 ·refine Z6 ?_;refine aX 12 Y (fun x=>Z3 ?_) (fun x=>?_)
  ·refine bA Y Y (oL i m hv nm W t s j c.keep false 0 0 c.vars c.parts arg O y.vn y.small _) bQ Y ?_;refine aCL (Z2 ?_);exact cB _ ⟨iP O,by unfold Say.actArg;rw[x6 x]⟩ bM Y a7
  refine aU ?_;exact cB [] ⟨cD,by unfold Say.actArg;rw[x7 (xBH.1 x)]⟩ bM Y a7
 intro u ⟨N,E⟩;refine dU (fun(C:aP)=>Say.act k u p c=match addA (k,C) c.acts with| .ok l=>.ok {c with keep:=false,acts:=l}| .error e=>.error (e,p)) (fun C=>[(0,ptr i),(1,i64 k),(3,i64 p),(8,str C)]) (fun _=>K) (fun _=>[rsb i m hv nm W t s j c.keep false 0 0,sl false (aZ 9) W (c.vars.map (·.1)),sl false (aZ 9) t (c.vars.map (·.2)),sl false (aZ 9) s (c.parts.take 10),sl false dI j c.acts]) ?_ ?_
 ·refine ZC ?_;refine aX 17 Y (fun z=>Z3 ?_) (fun z=>Z6 ?_)
  ·refine cH Y Y (IM u _ aH) Y (Z6 ?_);refine aA gAB Y (Z2 ?_)
   first|refine aX 22 Y (fun q=>?_) (fun q=>?_)|refine dZ 22 Y (fun q=>?_) (fun q=>?_)
   ·have b:rL u=false:=(by revert q;cases rL u<;>simp);have g:=Us (p:=p) (c:=c) (show k=2 by omega) b;rw[E]at g;have g:=vB (nm:=nm) (m:=m) g;refine Z4 ?_;refine bA Y Y (pA i m hv nm W t s j c.keep false 0 8 p _) bQ Y ?_;exact gFR
   have b:rL u=true:=(by revert q;cases rL u<;>simp);refine Z2 ?_;exact gDV
  refine aX 26 Y (fun A=>Z3 ?_) (fun A=>Z6 ?_)
  ·refine cH Y Y (Lk u aH _) Y (Z6 ?_);refine aA gAB Y (Z2 ?_)
   first|refine aX 31 Y (fun f=>?_) (fun f=>?_)|refine dZ 31 Y (fun f=>?_) (fun f=>?_)
   ·have a:e8 u=false:=(by revert f;cases e8 u<;>simp);have g:=Ur (p:=p) (c:=c) (show k=3 by omega) a;rw[E]at g;have g:=vB (nm:=nm) (m:=m) g;refine Z4 ?_;refine bA Y Y (pA i m hv nm W t s j c.keep false 0 9 p _) bQ Y ?_;exact gFR
   have a:e8 u=true:=(by revert f;cases e8 u<;>simp);refine Z2 ?_;exact gDV
  refine aX 35 Y (fun B=>Z7 ?_) (fun B=>Z2 ?_)
  ·refine aX 39 Y (fun P=>Z2 ?_) (fun P=>Z2 ?_)
   ·refine aA (gC (n:=48) x9 Y Y Y aH) Y (Z3 ?_);exact cB (u.take 48) (zR (fun h=>by first|exact b|omega) (fun h=>by first|exact a|omega) (Nk aH aH)) bM Y a7
   exact gDV
  exact gDV
 intro C d;refine ZC ?_;refine aA (dA EP yR cW) Y (Z1 ?_);refine bA Y Y (FF i m hv nm W t s j false false 0 c.acts (k,C) p y.acts _) bQ Y ?_;rintro _ K _ ⟨rfl,rfl,M,rfl⟩ -;rw[E]at d;obtain⟨r,H⟩:∃r,addA (k,C) c.acts=r:=⟨_,rfl⟩;rw[H]at d ⊢;refine aG ?_;cases r with
 |ok l=>
  refine aV (aQ cL (aQ dQ (aQ dQ (aQ dQ (aQ cL bT))))) (d8 (jV (m:=m) (c:={c with keep:=false,acts:=l})) (Z1 ?_));have g:=JY (nm:=nm) (m:=m) (show Say.act k (Say.actArg nm k arg c) p c=_ from d);rw[g];exact gDF
 |error e=>
  refine aV (aQ cL (aQ dQ (aQ dQ (aQ dQ (aQ cL bT))))) (d8 (jV (m:=m) (c:={c with keep:=false})) (d8 CD (Z1 ?_)));have g:=vB (nm:=nm) (m:=m) (show Say.act k (Say.actArg nm k arg c) p c=_ from d);rw[g];exact gDF
def UB{n:Nat}(h:n<=4294967296):(Lib.decDigits n).length<=100000:=by
 have:=Lib.itoa_length_le (n:Int) aH aH;rw[Lib.itoa_nonneg]at this;omega
def FO(p:Nat)(m:Msg)(hv:Value)(nm:Bool)(c:Co)(f a:aP)(tag:Int)(d:CInv c)(O:a.length<=100000)(K:Hl):Sp x3 119 [ptr p,str f,str a,i64 tag] K [stq p m hv nm c false 0 0] (Ret fun v K' L'=>v=.tuple #[]/\K'=K/\L'=[sto p m hv nm (Say.cmd nm m (.set_ f a tag) c)]):=by
 refine bL func119 Y ntmps119 Y Y fun F w=>?_;have jd:=d.vn;refine qO fun W g s b=>?_;refine Z4 ?_;refine bA Y Y (oL p m hv nm W g s b c.keep false 0 0 c.vars c.parts a O d.vn d.small _) (.cons .here (.cons .here (.cons .here (.cons .here .nil)))) Y ?_;refine aCL ?_;have N:=iP (nm:=nm) (vars:=c.vars) (parts:=c.parts) O
 generalize S:cY nm c.vars c.parts a=u at*
 refine Z3 ?_;refine dU (fun(x:aP)=>x.length<=100000/\x.take 48=Say.setV tag u) (fun x=>[(0,ptr p),(1,str f),(8,str x)]) (fun _=>K) (fun _=>[rsb p m hv nm W g s b c.keep false 0 0,sl false (aZ 9) W (c.vars.map (·.1)),sl false (aZ 9) g (c.vars.map (·.2)),sl false (aZ 9) s (c.parts.take 10),sl false dI b c.acts]) ?_ ?_
 ·refine ZC ?_;refine aX 14 Y (fun t=>Z2 ?_) (fun t=>Z6 ?_)
  ·refine cH Y Y (kB u _ aH) Y ?_;refine Z3 ?_;exact cB _ ⟨by rw[pB];omega,by unfold Say.setV;rw[x7 aH]⟩ (.cons 0 Y (.cons 1 Y (.cons 8 Y .nil))) Y a7
  refine aX 18 Y (fun A=>Z2 ?_) (fun A=>Z6 ?_)
  ·refine cH Y Y (IS u _ aH) Y ?_;refine Z3 ?_;exact cB _ ⟨by rw[Dq];omega,by unfold Say.setV;rw[x6 aH,x7 aH]⟩ (.cons 0 Y (.cons 1 Y (.cons 8 Y .nil))) Y a7
  refine aX 22 Y (fun B=>Z3 ?_) (fun B=>Z2 ?_)
  ·refine cH Y Y (AA u.length aH _) Y ?_;refine Z3 ?_;exact cB _ ⟨UB aH,by unfold Say.setV;rw[x6 aH,x6 aH,x7 aH,Lib.itoa_nonneg]⟩ (.cons 0 Y (.cons 1 Y (.cons 8 Y .nil))) Y a7
  exact cB u ⟨N,by unfold Say.setV;rw[x6 aH,x6 aH,x6 aH]⟩ (.cons 0 Y (.cons 1 Y (.cons 8 Y .nil))) Y a7
 intro x ⟨H,l⟩;refine dU (fun(_:Unit)=>True) (fun _=>[(0,ptr p),(1,str f),(8,str (Say.setV tag u))]) (fun _=>K) (fun _=>[rsb p m hv nm W g s b c.keep false 0 0,sl false (aZ 9) W (c.vars.map (·.1)),sl false (aZ 9) g (c.vars.map (·.2)),sl false (aZ 9) s (c.parts.take 10),sl false dI b c.acts]) ?_ ?_
 ·refine Z7 ?_;refine aX 29 Y (fun C=>Z2 ?_) (fun C=>?_)
  ·refine aA (gC (n:=48) x9 Y Y Y aH) Y ?_;refine Z2 ?_;exact cB () trivial (.cons 0 Y (.cons 1 Y (.cons 8 (by rw[<-l];rfl) .nil))) Y a7
  refine aU ?_;exact cB () trivial (.cons 0 Y (.cons 1 Y (.cons 8 (by rw[<-l,xAJ aH];rfl) .nil))) Y a7
 intro _ _;clear l H x
 generalize hy:Say.setV tag u=y at*
 refine Z7 ?_;refine eD (fun(k:Nat)=>k<=c.vars.length/\∀j,j<k->(c.vars.map (·.1))[j]?≠some f) (fun k=>[(0,ptr p),(1,str f),(8,str y),(9,i64 k)]) (fun _=>K) (fun _=>[rsb p m hv nm W g s b c.keep false 0 0,sl false (aZ 9) W (c.vars.map (·.1)),sl false (aZ 9) g (c.vars.map (·.2)),sl false (aZ 9) s (c.parts.take 10),sl false dI b c.acts]) (fun k=>c.vars.length-k) 0 ⟨xAA _,fun j h=>by omega⟩ (.cons 0 Y (.cons 1 Y (.cons 8 Y (.cons 9 Y .nil)))) Y a7 ?_;intro k ⟨jc,I⟩;refine Z8 ?_;refine aA (bU (k:=aZ 9) Y xAC Y (.own (.there .here))) Y ?_;refine Z3 ?_;refine aX 38 Y (fun E=>?_) (fun E=>?_)
 ·have z:k<c.vars.length:=gCF;obtain⟨x,l⟩:∃x,c.vars[k]?=some x:=⟨c.vars[k]'z,x4 z⟩;have M:(c.vars.map (·.1))[k]?=some x.1:=by simp[l]
  refine ZB ?_;refine aA (aW (k:=aZ 9) (xs:=c.vars.map (·.1)) (j:=k) b0 Y (.own (.there .here)) Y Y gAV) Y ?_;refine aA (cE (o:=0) (k:=aZ 9) ts9 Y (.own (.there .here)) M Y) Y ?_;refine Z4 ?_;refine aX 49 Y (fun r=>?_) (fun r=>Z8 ?_)
  ·have L:k<(c.vars.map (·.2)).length:=by simp only[List.length_map];omega
   have q:=JF (u:=y) (k:=f) (v:=x.2) (i:=k) (by rw[l,<-show x.1=f from r]) I;refine Z8 ?_;refine aA (aW (k:=aZ 9) (xs:=c.vars.map (·.2)) (j:=k) b0 Y (.own (.there (.there .here))) Y Y gAV) Y ?_;refine cA (iS (k:=(aZ 9)) (y0:=y) ts9 Y Y Y Y gAJ bP) ?_;refine aCK ?_;refine Z8 ?_;rw[<-q.1,<-q.2];refine d8 (jV (m:=m) (c:={c with vars:=vput c.vars f y})) ?_;refine jJ Y (xAB _) ?_;simp only[Say.cmd];rw[S,hy];exact gDF
  refine cX (k+1) ⟨aH,fun j hj G=>?_⟩ aH (.cons 0 Y (.cons 1 Y (.cons 8 Y (.cons 9 Y .nil)))) Y a7
  rcases xAD j k with h|h
  ·exact I j h G
  have e:j=k:=aH;subst e;rw[M]at G;exact r (xA0 G)
 have q:=Gp (u:=y) (k:=f) (vars:=c.vars) (fun j hj=>I j gCF);refine ZD ?_;refine cG (bJ (z0:=[(str [])]) b0 tz9 Y Y Y Y (.cons Y Y Y (.cons .nil) .nil)) Y ?_;refine aCJ fun ja=>?_;refine cG (dJ (k:=(aZ 9)) (ys:=[f]) eE Y Y (.there (.there .here)) (fun w j=>dC xAC (SeesSl.at (.blk (.own .here) Y Y) j)) (by have:=d.vn;simp;omega) (by have:=d.vn;simp;omega)) Y ?_;rintro je K _ ⟨rfl,rfl,P⟩ -;refine ZC ?_;refine cG (bJ (z0:=[(str [])]) b0 tz9 Y Y Y Y (.cons Y Y Y (.cons .nil) .nil)) Y ?_;refine aCJ fun jb=>?_;refine cG (dJ (k:=(aZ 9)) (ys:=[y]) eE Y Y (.there (.there (.there (.there .here)))) (fun w j=>dC xAC (SeesSl.at (.blk (.own .here) Y Y) j)) (by have:=d.vn;simp;omega) (by have:=d.vn;simp;omega)) Y ?_;rintro jf K _ ⟨rfl,rfl,Q⟩ -;refine Z4 ?_;rw[<-q.1,<-q.2];refine aV (.cons (.there (.there (.there (.there .here)))) (.cons (.there (.there .here)) (.cons .here (.cons (.there (.there .here)) (.cons (.there (.there .here)) .nil))))) ?_;refine d8 (jV (m:=m) (c:={c with vars:=vput c.vars f y})) ?_;refine Z1 ?_;simp only[Say.cmd];rw[S,hy];exact gDF
end
section
variable{names:List aP}{i:Nat}
def At(c:List (aP×aP))(n:aP):List aP:=(c.filter fun h=>decide (dY h.1=n)).map (·.2)
def Au{c:List (aP×aP)}{k:Nat}{h:aP×aP}{n:aP}(j:c[k]?=some h):At (c.take (k+1)) n=At (c.take k) n++if dY h.1=n then [h.2]else []:=by
 unfold At;rw[xA2,j,List.filter_append,List.map_append]
 congr 1
 by_cases A:dY h.1=n
 ·rw[x7 A];simp[List.filter,A]
 rw[x6 A];simp[List.filter,A]
def jP(nm:Bool)(m:Msg)(c:Co)(names:List aP):List aP:=(names.map (cY nm c.vars c.parts)).flatMap fun n=>gU m (dY n)
def GC{nm:Bool}{m:Msg}{c:Co}{n:aP}(h:names[i]?=some n):jP nm m c (names.take (i+1))=jP nm m c (names.take i)++gU m (dY (cY nm c.vars c.parts n)):=by
 unfold jP;exact gGZ
def Ee{α:Type}{l:List α}(h:l.length<=i):l.take i=l:=xAJ h
def uT(a:Nat)(m:Msg)(hv:Value)(nm:Bool)(c:Co)(A:Bool)(e p:Int)(P:CInv c)(H:MsgOk m)(names:List aP)(S:Value)(jh:names.length<=1000000)(O:∀x∈names,x.length<=100000)(K:Hl)(E:Ksl (aZ 9) K S names)(y:Ksl hdEl K hv m.hs):Sp x3 208 [ptr a,S] K [stq a m hv nm c A e p] (Ret fun v K' L'=>K'=K/\L'=[sl false (aZ 9) v (jP nm m c names),stq a m hv nm c A e p]):=by
 have ji:=H.hn;refine bL func208 Y ntmps208 Y Y fun F w=>qO fun W B s g=>ZH ?_;refine l5 (fun(i:Nat) (b:List aP) (f:Value)=>i<=names.length/\b=jP nm m c (names.take i)/\b.length<=1000000*i) (fun i _ f=>[(0,ptr a),(1,S),(5,f),(6,i64 i)]) (fun _ _ _=>K) (fun _ b f=>[sl false (aZ 9) f b,rsb a m hv nm W B s g c.keep A e p,sl false (aZ 9) W (c.vars.map (·.1)),sl false (aZ 9) B (c.vars.map (·.2)),sl false (aZ 9) s (c.parts.take 10),sl false dI g c.acts]) (fun i _ _=>names.length-i) 0 [] (.slice none 0 0) ⟨xAA _,Y,cD⟩ bM Y (eO (aZ 9)) ?_;intro i b f ⟨jc,G,jd⟩;refine Z5 ?_;refine aA (bU (k:=aZ 9) Y xAC Y (.known E)) Y (Z3 ?_);refine aX 13 Y (fun M=>?_) (fun M=>?_)
 ·have Q:i<names.length:=aH;obtain⟨n,L⟩:∃n,names[i]?=some n:=⟨names[i]'Q,x4 Q⟩;have q:=O n (x8 L);refine Z9 ?_;refine aA (aW (k:=aZ 9) (j:=i) b0 Y (.known E) Y Y Q) Y (aA (cE (o:=0) (k:=aZ 9) ts9 Y (.known E) L Y) Y (bA Y Y (oL a m hv nm W B s g c.keep A e p c.vars c.parts n q P.vn P.small _) bQ Y ?_));refine aCL ?_;have jj:=iP (nm:=nm) (vars:=c.vars) (parts:=c.parts) q;refine Z6 ?_;refine cH Y Y (kB _ _ aH) Y (Z9 ?_);refine l5 (fun(k:Nat) (d:List aP) (u:Value)=>k<=m.hs.length/\d=b++At (m.hs.take k) (dY (cY nm c.vars c.parts n))/\d.length<=1000000*i+k) (fun k _ u=>[(0,ptr a),(1,S),(5,u),(6,i64 i),(7,str (dY (cY nm c.vars c.parts n))),(8,i64 k)]) (fun _ _ _=>K) (fun _ d u=>[sl false (aZ 9) u d,rsb a m hv nm W B s g c.keep A e p,sl false (aZ 9) W (c.vars.map (·.1)),sl false (aZ 9) B (c.vars.map (·.2)),sl false (aZ 9) s (c.parts.take 10),sl false dI g c.acts]) (fun k _ _=>m.hs.length-k) 0 b f ⟨xAA _,by simp[At],aH⟩ bM Y (fun h y=>by simpa using Tks.sat (N:=[]) (aQ EI (aQ cL (aQ cL (aQ cL (aQ cL (aQ cL bT)))))) h y) ?_;intro k d u ⟨je,I,jf⟩;refine Z9 ?_;refine aA (bU (k:=hdEl) Y xB3 Y (.known y)) Y (Z3 ?_);refine aX 31 Y (fun C=>?_) (fun C=>?_)
  ·have z:k<m.hs.length:=aH;obtain⟨x,t⟩:∃x,m.hs[k]?=some x:=⟨m.hs[k]'z,x4 z⟩;have jk:=H.hs x (x8 t);refine ZC ?_;refine aA (aW (k:=hdEl) (j:=k) rH Y (.known y) Y Y z) Y (aA (dN (k:=hdEl) (j:=k) Em Y (.known y) z) Y (aA (eW (k:=hdEl) ts9 Y (.known y) t Y) Y (cH Y Y (kB x.1 _ aH) Y (ZA ?_))));refine aX 46 Y (fun r=>Z8 ?_) (fun r=>Z8 ?_)
   ·refine aA (aW (k:=hdEl) (j:=k) rH Y (.known y) Y Y z) Y (aA (dN (k:=hdEl) (j:=k) En Y (.known y) z) Y (aA (eW (k:=hdEl) ts9 Y (.known y) t Y) Y (cG (bJ (z0:=[(str [])]) b0 tz9 Y Y Y Y cW) Y ?_)));refine aCJ fun jb=>cG (dJ (k:=(aZ 9)) (ys:=[x.2]) eE Y Y (.there .here) (fun w j=>dC xAC (SeesSl.at (.blk aL Y Y) j)) gAG gAG) Y ?_;rintro jl K _ ⟨rfl,rfl,ja⟩ -;refine Z9 ?_
    (refine aV (aQ cL (aQ dQ (aQ dQ (aQ dQ (aQ dQ (aQ dQ bT)))))) ?_;exact gJ (k+1) _ _ ⟨aH,by rw[Au t,x7 r,<-xA1,<-I],by simp;omega⟩ aH bM Y a7)
   exact gJ (k+1) d _ ⟨aH,by rw[Au t,x6 r,xAL];exact I,aH⟩ aH bM Y a7
  have jg:=H.hn;refine ZB ?_;exact gJ (i+1) d _ ⟨aH,by rw[I,G,GC L,Ee (l:=m.hs) aH];rfl,aH⟩ aH bM Y a7
 exact gED
def Dd{m:Msg}{n:aP}(h:names[i]?=some n):(names.take (i+1)).flatMap (kV m)=(names.take i).flatMap (kV m)++kV m n:=by
 exact gGZ
def Ce(f:Nat)(m:Msg)(hv:Value)(nm:Bool)(c:Co)(A:Bool)(e p:Int)(names:List aP)(S:Value)(L:names.length<=1000000)(r:∀x∈names,x.length<=100000)(K:Hl)(q:Ksl (aZ 9) K S names):Sp x3 210 [ptr f,S] K [stq f m hv nm c A e p] (Ret fun v C L'=>C=K/\L'=[sl false (aZ 9) v (names.flatMap (kV m)),stq f m hv nm c A e p]):=by
 refine bL func210 Y ntmps210 Y Y fun F w=>qO fun W B y t=>ZH ?_;refine l5 (fun(i:Nat) (d:List aP) (g:Value)=>i<=names.length/\d=(names.take i).flatMap (kV m)/\d.length<=i) (fun i _ g=>[(0,ptr f),(1,S),(5,g),(6,i64 i)]) (fun _ _ _=>K) (fun _ d g=>[sl false (aZ 9) g d,rsb f m hv nm W B y t c.keep A e p,sl false (aZ 9) W (c.vars.map (·.1)),sl false (aZ 9) B (c.vars.map (·.2)),sl false (aZ 9) y (c.parts.take 10),sl false dI t c.acts]) (fun i _ _=>names.length-i) 0 [] (.slice none 0 0) ⟨xAA _,Y,cD⟩ bM Y (eO (aZ 9)) ?_;intro i d g ⟨O,G,I⟩;refine Z5 ?_;refine aA (bU (k:=aZ 9) Y xAC Y (.known q)) Y (Z3 ?_);refine aX 11 Y (fun E=>?_) (fun E=>?_)
 ·have Q:i<names.length:=aH;obtain⟨n,u⟩:∃n,names[i]?=some n:=⟨names[i]'Q,x4 Q⟩;have M:=r n (x8 u);refine Z8 ?_;refine aA (aW (k:=aZ 9) (j:=i) b0 Y (.known q) Y Y Q) Y (aA (cE (o:=0) (k:=aZ 9) ts9 Y (.known q) u Y) Y (cH Y Y (kB n _ aH) Y (ZA ?_)));refine aX 20 Y (fun b=>Z7 ?_) (fun b=>Z8 ?_)
  ·refine cG (bJ (z0:=[(str [])]) b0 tz9 Y Y Y Y cW) Y ?_;refine aCJ fun H=>cG (dJ (k:=(aZ 9)) (ys:=[m.from_]) eE Y Y (.there .here) (fun w j=>dC xAC (SeesSl.at (.blk aL Y Y) j)) gAG gAG) Y ?_;rintro N K _ ⟨rfl,rfl,z⟩ -;refine Z9 ?_;refine aX 30 Y (fun a=>Z7 ?_) (fun a=>?_)
   ·refine cG (bJ (z0:=[(str [])]) b0 tz9 Y Y Y Y cW) Y ?_;refine aCJ fun l=>cG (dJ (k:=(aZ 9)) (ys:=[m.to_]) eE Y Y (.there .here) (fun w j=>dC xAC (SeesSl.at (.blk aL Y Y) j)) gAG gAG) Y ?_;rintro s K _ ⟨rfl,rfl,h⟩ -;refine Z9 ?_;exact absurd (Eq.trans (Eq.symm b) a) dD
   refine Z8 ?_
   (refine aV (aQ cL (aQ dQ (aQ dQ (aQ dQ (aQ dQ (aQ dQ bT)))))) ?_;exact gJ (i+1) (d++[m.from_]) _ ⟨aH,by rw[Dd u,<-G];unfold kV;rw[x7 b],by simp;omega⟩ aH bM Y a7)
  refine aX 30 Y (fun a=>Z7 ?_) (fun a=>Z8 ?_)
  ·refine cG (bJ (z0:=[(str [])]) b0 tz9 Y Y Y Y cW) Y ?_;refine aCJ fun l=>cG (dJ (k:=(aZ 9)) (ys:=[m.to_]) eE Y Y (.there .here) (fun w j=>dC xAC (SeesSl.at (.blk aL Y Y) j)) gAG gAG) Y ?_;rintro s K _ ⟨rfl,rfl,h⟩ -;refine Z9 ?_
   (refine aV (aQ cL (aQ dQ (aQ dQ (aQ dQ (aQ dQ (aQ dQ bT)))))) ?_;exact gJ (i+1) (d++[m.to_]) _ ⟨aH,by rw[Dd u,<-G];unfold kV;rw[x6 b,x7 a],by simp;omega⟩ aH bM Y a7)
  exact gJ (i+1) d _ ⟨aH,by rw[Dd u,<-G];unfold kV;rw[x6 b,x6 a,xAL],aH⟩ aH bM Y a7
 exact gED
def AG(d:Nat)(m:Msg)(hv:Value)(nm:Bool)(c:Co)(A:Bool)(e p:Int)(z:CInv c)(L:MsgOk m)(names:List aP)(S:Value)(a:lT S)(H:names.length<=1000000)(s:∀x∈names,x.length<=100000)(K:Hl)(l:Ksl (aZ 9) K S names)(B:Ksl hdEl K hv m.hs):Sp x3 211 [ptr d,S] K [stq d m hv nm c A e p] (Ret fun v y L'=>v=.bool (lO m (names.map (cY nm c.vars c.parts)))/\y=K/\L'=[stq d m hv nm c A e p]):=by
 refine bL func211 Y ntmps211 Y Y fun F w=>ZC ?_;refine eD (fun(i:Nat)=>i<=names.length/\∀j n,j<i->names[j]?=some n->gU m (dY (cY nm c.vars c.parts n))≠[]) (fun i=>[(0,ptr d),(1,S),(5,i64 i)]) (fun _=>K) (fun _=>[stq d m hv nm c A e p]) (fun i=>names.length-i) 0 ⟨xAA _,fun j n h=>by omega⟩ bM Y a7 ?_;intro i ⟨O,G⟩;refine Z5 ?_;refine aA (bU (k:=aZ 9) Y xAC Y (.known l)) Y (Z3 ?_);refine aX 10 Y (fun C=>?_) (fun C=>?_)
 ·have Q:i<names.length:=aH;obtain⟨n,u⟩:∃n,names[i]?=some n:=⟨names[i]'Q,x4 Q⟩;have r:=s n (x8 u);have g:(names.drop i).take (i+1-i)=[n]:=(by rw[show i+1-i=1 by omega,List.take_one,List.head?_drop,u];rfl);have f:=Vc (k:=aZ 9) (m:=i) (n:=i+1) l aH aH a;rw[g]at f;have b:jP nm m c [n]=gU m (dY (cY nm c.vars c.parts n)):=(by unfold jP;simp);refine ZB ?_;refine aA (G6 (k:=aZ 9) (m:=i) (n:=i+1) b0 Y (.known l) a Y Y Y Y aH aH) Y (bA Y Y (uT d m hv nm c A e p z L [n] _ cD (by simpa using r) _ f B) bQ Y ?_);rintro W K _ ⟨rfl,rfl⟩ -;refine Z6 ?_;refine uAj ?_;refine Z3 ?_;refine aX 22 Y (fun q=>?_) (fun q=>?_)
  ·have t:lO m (names.map (cY nm c.vars c.parts))=false:=(by unfold lO;rw[List.all_eq_false];refine⟨cY nm c.vars c.parts n,List.mem_map_of_mem (x8 u),?_⟩;have P:jP nm m c [n]=[]:=xA7.1 aH;rw[b]at P;rw[P];simp);refine ZB ?_;refine aV (aQ dQ bT) (Z1 ?_);exact⟨_,Y,by rw[t],rfl,rfl⟩
  have q:¬jP nm m c [n]=[]:=(fun h=>q (by rw[h];rfl));refine Z8 ?_;refine aV (aQ dQ bT) ?_;refine cX (i+1) ⟨aH,fun j N E I=>?_⟩ aH bM Y a7
  rcases xAD j i with h|h
  ·exact G j N h I
  have e:j=i:=aH;subst e;rw[u]at I;cases I;intro e;exact q (by rw[e]at b;exact b)
 have t:lO m (names.map (cY nm c.vars c.parts))=true:=(by unfold lO;rw[xB6];intro x M;obtain⟨n,u,rfl⟩:=xBM.1 M;obtain⟨j,E⟩:=xA4 u;exact xAO (G j n gCS E));refine ZC ?_;exact⟨_,Y,by rw[t],rfl,rfl⟩
end
end Go.Proofs
end
section
namespace Go.Proofs
open Go Go.SL Go.Syn Go.Mach Tryz
set_option maxRecDepth 100000 in
def Ej:elOk x3 439 176 1 24=true:=cV
set_option maxRecDepth 100000 in
def kC:iK x3 439 176 1=true:=cV
def kAt{k:aP}{j n:Nat}{d:UInt8}(h:(n=2/\u4 k j 2 d)\/(n=1/\k[j]?=some d/\(d.toNat=92->k[j+1]?=none)))(a:¬(n=1/\d.toNat=42))(b:¬(n=1/\d.toNat=63)):u4 k j n d:=by
 rcases h with ⟨rfl,h⟩|⟨rfl,l,z⟩
 ·exact h
 exact .inr ⟨Y,l,fun e=>a ⟨Y,e⟩,fun e=>b ⟨Y,e⟩,z⟩
def YS{k:aP}{j n:Nat}{d:UInt8}(h:u4 k j n d):j+n<=k.length:=by
 rcases h with ⟨rfl,_,h⟩|⟨rfl,h,_⟩<;>have:=(xAI.1 h).1<;>omega
def PG(a b:aP)(i:Nat):decide ((i:Int)=(a.length:Int))=tab a b i b.length:=by rw[Wa,decide_eq_decide];omega
def Lp(a b:aP)(ha:a.length<=1000000)(hb:b.length<=1000000)(K:Hl):Sp x3 320 [str a,str b] K [] (Ret fun v K' L'=>K'=K/\∃rs,sG a b rs (-1)/\L'=oV v rs):=by
 refine bL func320 Y ntmps320 Y Y fun F w=>ZH ?_;refine l5 (fun(i:Nat) (rs:List (Cell×List Bool)) (t:Value)=>i<=a.length+1/\rs.length=i/\∀(j:Nat) r,rs[j]?=some r->r.2.length=b.length+1) (fun i _ t=>[(0,str a),(1,str b),(5,t),(6,i64 i)]) (fun _ _ _=>K) (fun _ rs t=>oV t rs) (fun i _ _=>a.length+1-i) 0 [] (.slice none 0 0) ⟨xAA _,Y,fun j r h=>by simp at h⟩ bM Y (eO (cC 176)) ?_;intro i rs t ⟨js,ji,S⟩;refine Z9 ?_;refine aX 15 Y (fun je=>Z9 ?_) (fun je=>?_)
 ·refine cG (MG (n:=b.length+1) (k:=d7) (x0:=false) sW tv4 Y Y Y Y aH aH aH aH) Y (aCJ fun L=>Z6 ?_);refine cG (bJ (z0:=[.slice none 0 0]) kC tz176 Y Y Y Y cW) Y ?_;refine aCJ fun jr=>cG (dJ (k:=(cC 176)) (ys:=[⟨.slice (some ⟨L,0,none⟩) (b.length+1) (b.length+1),Y⟩]) Ej Y Y (.there (.there .here)) (fun w j=>dC underlying439 (SeesSl.at (.blk aL Y Y) j)) (by simp;omega) (by simp;omega)) Y ?_;rintro jy K _ ⟨rfl,rfl,jq⟩ -;refine Z9 ?_;refine aV (.cons .here (.cons (.there .here) (pE _ _))) (d8 (Pg (r:=(⟨.slice (some ⟨L,0,none⟩) (b.length+1) (b.length+1),Y⟩,List.replicate (b.length+1) false))) ?_);refine gJ (i+1) _ _ ⟨aH,by simp[ji],fun j r f=>?_⟩ aH bM Y (fun _ h=>h)
  rw[List.getElem?_append]at f;split at f
  ·exact S j r f
  rename_i hj;have e:j-rs.length=0:=(by have:=(xAI.1 f).1;simp at this;omega);rw[e]at f;simp at f;rw[<-f];simp
 have I:sG a b rs a.length:=⟨aH,fun j r f=>⟨S j r f,fun h=>by have:=(xAI.1 f).1;omega⟩⟩;refine ZE ?_;refine jC (fun(z:Int) (rs:List (Cell×List Bool))=> -1<=z/\z<=a.length/\sG a b rs z) (fun z _=>[(0,str a),(1,str b),(5,t),(8,i64 z)]) (fun _ _=>K) (fun _ rs=>oV t rs) (fun z _=>(z+1).toNat) (a.length:Int) rs ⟨aH,aH,I⟩ bM Y (fun _ h=>h) ?_;intro z rs ⟨jw,jx,I⟩;refine Z7 ?_;refine aX 29 Y (fun jf=>?_) (fun jf=>?_)
 ·obtain⟨i,rfl⟩:∃i:Nat,z=(i:Int):=⟨z.toNat,aH⟩;obtain⟨r,f,jl,-⟩:=rZ I (j:=i) aH;have jp:=I.1;refine Z8 ?_;refine aA (aW (k:=cC 176) (j:=i) kC Y aL Y aH (by simp only[List.length_map];omega)) Y ?_;refine aA (cE (o:=0) (k:=cC 176) n7 Y aL (show (rs.map (·.1))[_]?=some _ by rw[xAT,f];rfl) Y) Y ?_;refine Z6 ?_;refine aA (aW (k:=d7) (xs:=r.2) (j:=b.length) fF Y (.own (lI f)) Y Y aH) Y (cA (iS (k:=d7) (xs:=r.2) (j:=b.length) ts4 Y Y Y Y aH (M3 f)) (aCK ?_));have s:=oH (Lt I) f rfl (xAG _) (PG a b i);refine ZB ?_;refine jC (fun(q:Int) (rs:List (Cell×List Bool))=> -1<=q/\q<b.length/\EW a b rs i q) (fun q _=>[(0,str a),(1,str b),(5,t),(8,i64 i),(9,i64 q)]) (fun _ _=>K) (fun _ rs=>oV t rs) (fun q _=>(q+1).toNat) ((b.length:Int)-1) _ ⟨aH,aH,s⟩ bM Y (fun _ h=>h) ?_;intro q rs ⟨ju,jv,s⟩;refine Z7 ?_;refine aX 47 Y (fun jg=>?_) (fun jg=>?_)
  ·obtain⟨k,rfl⟩:∃k:Nat,q=(k:Int):=⟨q.toNat,aH⟩;obtain⟨r,f,jl,-⟩:=rZ s.1 (j:=i) aH;have jp:=s.1.1;obtain⟨c,hc⟩:∃c,b[k]?=some c:=⟨b[k]'(by omega),x4 aH⟩;have jt:k<b.length:=aH;refine ZH ?_;refine Hq (fun(d:UInt8) (n:Nat)=>(n=2/\u4 b k 2 d)\/(n=1/\b[k]?=some d/\(d.toNat=92->b[k+1]?=none))) (fun d n=>[(0,str a),(1,str b),(5,t),(8,i64 i),(9,i64 k),(10,.int .u8 d.toNat),(11,i64 n)]) (fun _ _=>K) (fun _ _=>oV t rs) ?_ ?_
   ·refine dU (fun(_:Unit)=>True) (fun _=>[(0,str a),(1,str b),(5,t),(8,i64 i),(9,i64 k),(10,.int .u8 c.toNat),(11,i64 1),(61,.bool (decide (c.toNat=92/\k+1<b.length)))]) (fun _=>K) (fun _=>oV t rs) ?_ ?_
    ·refine Z4 ?_;refine bV 55 Y (fun ja=>ZC ?_) (fun ja=>Z7 ?_)
     ·exact cB () trivial (.cons 0 Y (.cons 1 Y (.cons 5 Y (.cons 8 Y (.cons 9 Y (.cons 10 Y (.cons 11 Y (.cons 61 (by refine xAF (fun x=>some (Value.bool x)) ?_;first|(rw[decide_eq_decide];omega)|(symm;exact xAQ aH)) .nil)))))))) Y (fun _ h=>h)
     exact cB () trivial (.cons 0 Y (.cons 1 Y (.cons 5 Y (.cons 8 Y (.cons 9 Y (.cons 10 Y (.cons 11 Y (.cons 61 (by refine xAF (fun x=>some (Value.bool x)) ?_;first|(rw[decide_eq_decide];omega)|(symm;exact xAQ aH)) .nil)))))))) Y (fun _ h=>h)
    intro _ _;refine aX 61 Y (fun P=>?_) (fun P=>?_)
    ·obtain⟨c2,jh⟩:∃c2,b[k+1]?=some c2:=⟨b[k+1]'(by omega),x4 aH⟩;refine ZC ?_;exact oZ c2 2 (.inl ⟨Y,.inl ⟨Y,⟨c,hc,P.1⟩,jh⟩⟩) bM Y (fun _ h=>h)
    refine aU ?_;exact oZ c 1 (.inr ⟨Y,hc,fun h=>xAH aH⟩) bM Y (fun _ h=>h)
   intro d n G;refine bC ?_;refine dU (fun(_:Unit)=>True) (fun _=>[(0,str a),(1,str b),(5,t),(8,i64 i),(9,i64 k),(10,.int .u8 d.toNat),(11,i64 n),(95,.bool (decide (n=1/\d.toNat=42)))]) (fun _=>K) (fun _=>oV t rs) ?_ ?_
   ·refine Z4 ?_;refine bV 98 Y (fun jd=>Z7 ?_) (fun jd=>Z5 ?_)
    ·exact cB () trivial (.cons 0 Y (.cons 1 Y (.cons 5 Y (.cons 8 Y (.cons 9 Y (.cons 10 Y (.cons 11 Y (.cons 95 (by refine xAF (fun x=>some (Value.bool x)) ?_;first|(rw[decide_eq_decide];omega)|(symm;exact xAQ aH)) .nil)))))))) Y (fun _ h=>h)
    exact cB () trivial (.cons 0 Y (.cons 1 Y (.cons 5 Y (.cons 8 Y (.cons 9 Y (.cons 10 Y (.cons 11 Y (.cons 95 (by refine xAF (fun x=>some (Value.bool x)) ?_;first|(rw[decide_eq_decide];omega)|(symm;exact xAQ aH)) .nil)))))))) Y (fun _ h=>h)
   intro _ _;refine aX 95 Y (fun C=>?_) (fun C=>?_)
   ·have E:b[k]?=some d:=G.elim (fun h=>absurd h.1 aH) (fun h=>h.2.1);have p:=TA (v:=a) E C.2 (show i<=a.length by omega);have jj:=s.2 r f (k+1) aH aH;refine cN [30] [30] mixed (by decide+kernel) (cM _) (Z2 ?_);refine aJ Y Y (.none Y) Y Y (aW (k:=cC 176) (j:=i) kC Y aL Y aH (by simp only[List.length_map];omega)) Y ?_;refine aJ Y Y (.none Y) Y Y (cE (o:=0) (k:=cC 176) n7 Y aL (show (rs.map (·.1))[_]?=some _ by rw[xAT,f];rfl) Y) Y ?_;refine Z3 ?_;refine aJ Y Y (.none Y) Y Y (aW (k:=cC 176) (j:=i) kC Y aL Y aH (by simp only[List.length_map];omega)) Y ?_;refine aJ Y Y (.none Y) Y Y (cE (o:=0) (k:=cC 176) n7 Y aL (show (rs.map (·.1))[_]?=some _ by rw[xAT,f];rfl) Y) Y ?_;refine Z2 ?_;refine aJ Y Y (.none Y) Y Y (aW (k:=d7) (xs:=r.2) (j:=k+1) fF Y (.own (lI f)) Y Y aH) Y (aJ Y Y (.none Y) Y Y (cE (o:=0) (k:=d7) ts4 Y (.own (lI f)) jj Y) Y (Z1 ?_));refine vF 115 Y (fun u=>?_) (fun u=>Z5 ?_)
    ·have g:true=tab a b i k:=(by rw[p,u];rfl);refine ZF ?_;refine aJ Y Y (.none Y) Y Y (aW (k:=d7) (xs:=r.2) (j:=k) fF Y (.own (lI f)) Y Y aH) Y (l7 Y Y (.none Y) Y (iS (k:=d7) (xs:=r.2) (j:=k) ts4 Y Y Y Y aH (pW f)) ?_);rintro _ K _ ⟨rfl,rfl⟩ -;refine Z9 ?_;exact d9 ((k:Int)-1) _ ⟨aH,aH,oH s f Y aH g⟩ aH bM Y (fun _ h=>by rwa [xAL]at h)
    refine eV 120 Y (fun M=>?_) (fun M=>?_)
    ·obtain⟨W,Q,B,l⟩:=rZ s.1 (j:=i+1) aH;have l:=l aH;have H:=l k aH;have g:tab a b (i+1) k=tab a b i k:=(by rw[p,u,xAO (show i<a.length by omega)];rfl);refine Z3 ?_;refine aJ Y Y (.on Y Y Y) Y Y (aW (k:=cC 176) (j:=i+1) kC Y aL Y aH (by simp only[List.length_map];omega)) Y ?_;refine aJ Y Y (.on Y Y Y) Y Y (cE (o:=0) (k:=cC 176) n7 Y aL (show (rs.map (·.1))[_]?=some _ by rw[xAT,Q];rfl) Y) Y ?_;refine Z1 ?_;refine aJ Y Y (.on Y Y Y) Y Y (aW (k:=d7) (xs:=W.2) (j:=k) fF Y (.own (lI Q)) Y Y aH) Y (aJ Y Y (.on Y Y Y) Y Y (cE (o:=0) (k:=d7) ts4 Y (.own (lI Q)) H Y) Y (Z2 ?_));refine aJ Y Y (.none Y) Y Y (aW (k:=d7) (xs:=r.2) (j:=k) fF Y (.own (lI f)) Y Y aH) Y (l7 Y Y (.none Y) Y (iS (k:=d7) (xs:=r.2) (j:=k) ts4 Y Y Y Y aH (pW f)) ?_);rintro _ K _ ⟨rfl,rfl⟩ -;refine Z9 ?_;exact d9 ((k:Int)-1) _ ⟨aH,aH,oH s f Y aH g⟩ aH bM Y (fun _ h=>by rwa [xAL]at h)
    have g:false=tab a b i k:=(by rw[p,u,xAQ (show ¬i<a.length by omega)];rfl);refine ZA ?_;refine aJ Y Y (.none Y) Y Y (aW (k:=d7) (xs:=r.2) (j:=k) fF Y (.own (lI f)) Y Y aH) Y (l7 Y Y (.none Y) Y (iS (k:=d7) (xs:=r.2) (j:=k) ts4 Y Y Y Y aH (pW f)) ?_);rintro _ K _ ⟨rfl,rfl⟩ -;refine Z9 ?_;exact d9 ((k:Int)-1) _ ⟨aH,aH,oH s f Y aH g⟩ aH bM Y (fun _ h=>by rwa [xAL]at h)
   refine dU (fun(_:Unit)=>True) (fun _=>[(0,str a),(1,str b),(5,t),(8,i64 i),(9,i64 k),(10,.int .u8 d.toNat),(11,i64 n),(132,.bool (decide (n=1/\d.toNat=63)))]) (fun _=>K) (fun _=>oV t rs) ?_ ?_
   ·refine Z4 ?_;refine bV 135 Y (fun N=>Z7 ?_) (fun N=>Z5 ?_)
    ·exact cB () trivial (.cons 0 Y (.cons 1 Y (.cons 5 Y (.cons 8 Y (.cons 9 Y (.cons 10 Y (.cons 11 Y (.cons 132 (by refine xAF (fun x=>some (Value.bool x)) ?_;first|(rw[decide_eq_decide];omega)|(symm;exact xAQ aH)) .nil)))))))) Y (fun _ h=>h)
    exact cB () trivial (.cons 0 Y (.cons 1 Y (.cons 5 Y (.cons 8 Y (.cons 9 Y (.cons 10 Y (.cons 11 Y (.cons 132 (by refine xAF (fun x=>some (Value.bool x)) ?_;first|(rw[decide_eq_decide];omega)|(symm;exact xAQ aH)) .nil)))))))) Y (fun _ h=>h)
   intro _ _;refine aX 132 Y (fun y=>?_) (fun y=>?_)
   ·have E:b[k]?=some d:=G.elim (fun h=>absurd h.1 aH) (fun h=>h.2.1);have p:=T9 (v:=a) (i:=i) E y.2;refine cN [21] [21] mixed (by decide+kernel) (cM _) (Z2 ?_);refine aJ Y Y (.none Y) Y Y (aW (k:=cC 176) (j:=i) kC Y aL Y aH (by simp only[List.length_map];omega)) Y ?_;refine aJ Y Y (.none Y) Y Y (cE (o:=0) (k:=cC 176) n7 Y aL (show (rs.map (·.1))[_]?=some _ by rw[xAT,f];rfl) Y) Y ?_;refine Z6 ?_;refine eV 148 Y (fun O=>?_) (fun O=>?_)
    ·obtain⟨W,Q,B,l⟩:=rZ s.1 (j:=i+1) aH;have l:=l aH;have H:=l (k+1) aH;have g:tab a b (i+1) (k+1)=tab a b i k:=(by rw[p,xAO (show i<a.length by omega)];rfl);refine Z3 ?_;refine aJ Y Y (.on Y Y Y) Y Y (aW (k:=cC 176) (j:=i+1) kC Y aL Y aH (by simp only[List.length_map];omega)) Y ?_;refine aJ Y Y (.on Y Y Y) Y Y (cE (o:=0) (k:=cC 176) n7 Y aL (show (rs.map (·.1))[_]?=some _ by rw[xAT,Q];rfl) Y) Y ?_;refine Z2 ?_;refine aJ Y Y (.on Y Y Y) Y Y (aW (k:=d7) (xs:=W.2) (j:=k+1) fF Y (.own (lI Q)) Y Y aH) Y (aJ Y Y (.on Y Y Y) Y Y (cE (o:=0) (k:=d7) ts4 Y (.own (lI Q)) H Y) Y (Z1 ?_));refine aJ Y Y (.none Y) Y Y (aW (k:=d7) (xs:=r.2) (j:=k) fF Y (.own (lI f)) Y Y aH) Y (l7 Y Y (.none Y) Y (iS (k:=d7) (xs:=r.2) (j:=k) ts4 Y Y Y Y aH (pW f)) ?_);rintro _ K _ ⟨rfl,rfl⟩ -;refine Z9 ?_;exact d9 ((k:Int)-1) _ ⟨aH,aH,oH s f Y aH g⟩ aH bM Y (fun _ h=>by rwa [xAL]at h)
    have g:false=tab a b i k:=(by rw[p,xAQ (show ¬i<a.length by omega)];rfl);refine ZA ?_;refine aJ Y Y (.none Y) Y Y (aW (k:=d7) (xs:=r.2) (j:=k) fF Y (.own (lI f)) Y Y aH) Y (l7 Y Y (.none Y) Y (iS (k:=d7) (xs:=r.2) (j:=k) ts4 Y Y Y Y aH (pW f)) ?_);rintro _ K _ ⟨rfl,rfl⟩ -;refine Z9 ?_;exact d9 ((k:Int)-1) _ ⟨aH,aH,oH s f Y aH g⟩ aH bM Y (fun _ h=>by rwa [xAL]at h)
   have A:=kAt G C y;have jk:=YS A;have p:=Wb (v:=a) (i:=i) A;refine cN [29] [29] mixed (by decide+kernel) (cM _) (Z2 ?_);refine aJ Y Y (.none Y) Y Y (aW (k:=cC 176) (j:=i) kC Y aL Y aH (by simp only[List.length_map];omega)) Y ?_;refine aJ Y Y (.none Y) Y Y (cE (o:=0) (k:=cC 176) n7 Y aL (show (rs.map (·.1))[_]?=some _ by rw[xAT,f];rfl) Y) Y ?_;refine Z6 ?_;refine eV 75 Y (fun jb=>?_) (fun jb=>?_)
   ·obtain⟨W,Q,B,l⟩:=rZ s.1 (j:=i+1) aH;have l:=l aH;obtain⟨x,hx⟩:∃x,a[i]?=some x:=⟨a[i]'(by omega),x4 aH⟩;have H:=l (k+n) aH;rw[xAO (show i<a.length by omega),hx]at p;refine Z7 ?_;refine eV 82 Y (fun jc=>?_) (fun jc=>?_)
    ·have g:tab a b (i+1) (k+n)=tab a b i k:=(by rw[p,xAO (show some x=some d by rw[xBJ.1 (show x.toNat=d.toNat by omega)])];rfl);refine Z3 ?_;refine aJ Y Y (.on Y Y Y) Y Y (aW (k:=cC 176) (j:=i+1) kC Y aL Y aH (by simp only[List.length_map];omega)) Y ?_;refine aJ Y Y (.on Y Y Y) Y Y (cE (o:=0) (k:=cC 176) n7 Y aL (show (rs.map (·.1))[_]?=some _ by rw[xAT,Q];rfl) Y) Y ?_;refine Z3 ?_;refine aJ Y Y (.on Y Y Y) Y Y (aW (k:=d7) (xs:=W.2) (j:=k+n) fF Y (.own (lI Q)) Y aH aH) Y (aJ Y Y (.on Y Y Y) Y Y (cE (o:=0) (k:=d7) ts4 Y (.own (lI Q)) H Y) Y (Z1 ?_));refine aJ Y Y (.none Y) Y Y (aW (k:=d7) (xs:=r.2) (j:=k) fF Y (.own (lI f)) Y Y aH) Y (l7 Y Y (.none Y) Y (iS (k:=d7) (xs:=r.2) (j:=k) ts4 Y Y Y Y aH (pW f)) ?_);rintro _ K _ ⟨rfl,rfl⟩ -;refine Z9 ?_;exact d9 ((k:Int)-1) _ ⟨aH,aH,oH s f Y aH g⟩ aH bM Y (fun _ h=>by rwa [xAL]at h)
    have g:false=tab a b i k:=(by rw[p,xAQ (fun h=>by cases h;omega)];rfl);refine ZB ?_;refine aJ Y Y (.none Y) Y Y (aW (k:=d7) (xs:=r.2) (j:=k) fF Y (.own (lI f)) Y Y aH) Y (l7 Y Y (.none Y) Y (iS (k:=d7) (xs:=r.2) (j:=k) ts4 Y Y Y Y aH (pW f)) ?_);rintro _ K _ ⟨rfl,rfl⟩ -;refine Z9 ?_;exact d9 ((k:Int)-1) _ ⟨aH,aH,oH s f Y aH g⟩ aH bM Y (fun _ h=>by rwa [xAL]at h)
   have g:false=tab a b i k:=(by rw[p,xAQ (show ¬i<a.length by omega)];rfl);refine ZI ?_;refine aJ Y Y (.none Y) Y Y (aW (k:=d7) (xs:=r.2) (j:=k) fF Y (.own (lI f)) Y Y aH) Y (l7 Y Y (.none Y) Y (iS (k:=d7) (xs:=r.2) (j:=k) ts4 Y Y Y Y aH (pW f)) ?_);rintro _ K _ ⟨rfl,rfl⟩ -;refine Z9 ?_;exact d9 ((k:Int)-1) _ ⟨aH,aH,oH s f Y aH g⟩ aH bM Y (fun _ h=>by rwa [xAL]at h)
  obtain rfl:q= -1:=aH;refine ZB ?_;exact d9 ((i:Int)-1) rs ⟨aH,aH,SN s aH⟩ aH bM Y (fun _ h=>h)
 obtain rfl:z= -1:=aH;refine ZD ?_;exact⟨_,Y,Y,rs,I,Y⟩
end Go.Proofs
end
end
