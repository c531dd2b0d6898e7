/- Part 2 of what the proof stands on: walks and plain laws. Conditions: as each theorem says. -/
import Derived.Lib.ConvBytes
import Derived.Laws.BytesString
import Derived.Lib.Builder
import Derived.Lib.UnsafeStr
import Derived.Laws.Externs
import Derived.MapKept
import Derived.Recover
import Derived.Test.YthopmddkpdehiaaGreatDoorProg
import Derived.Lib.Index
import Derived.Test.YthopmddkpdehiaaGreatDoorA1
set_option linter.unusedVariables false
set_option linter.unusedSimpArgs false
set_option linter.defProp false
set_option maxRecDepth 4000
set_option maxHeartbeats 1000000
section
namespace Go.SL
section
variable{zf:Bool}{M:List Asn}{cells:List Value}{cap:Nat}{fz:Nat×Nat}
structure Src (P:Program) (t2:TypeId) (sz m:Nat) (x:Value) (news:List Value) (w:World):Prop where
 has:P.underlying t2=some .string\/∃e',P.underlying t2=some (.slice e')
 len:(Builtin.lenOf x).run P w=.ok m w
 cells:∀d,(Builtin.firstCells sz m x).run P {w with drawn:=d}=.ok news.toArray {w with drawn:=d}
 size:news.length=m*sz
 one:∀u∈news,u.oneCell'=true
section
variable{P:Program}{w:World}{t t2 e b:Nat}{i:TypeInfo}{z x:Value}{m:Nat}{news:List Value}{ty:TypeId}
def HH(I:P.underlying t=some (.slice e))(p:P.info? e=some i){n:Nat}(r:w.heap[b]?=some (bK cells e fz))(h:Src P t2 i.size m x news w)
  (a:n+m<=cap) (c:cap*i.size<=cells.length) (f:FzOk (cap*i.size) fz):
  ∃w',(Builtin.append_ #[t,t2] ty #[.slice (some ⟨b,0,none⟩) n cap,x]).run P w=.ok (.slice (some ⟨b,0,none⟩) (n+m) cap) w'/\
   w'.heap.size=w.heap.size/\w'.heap[b]?=some (bK (cells.take (n*i.size)++news++cells.drop (n*i.size+news.length)) e fz)/\(∀z,z≠b->w'.heap[z]?=w.heap[z]?)/\w'={w with heap:=w'.heap}:=by
 have N:n*i.size+news.length<=cap*i.size:=by rw[h.size,<-Nat.add_mul];exact xAU _ a
 obtain⟨w',O,W,q,s,g⟩:=sB (P:=P) (b:=b) news (n*i.size) 0 w cells r aH (fun j E=>by have:=f.at (o:=n*i.size+j) aH;simpa using this) h.one;refine⟨w',?_,W,by simpa using q,s,g⟩
 have d:=h.cells w.drawn;have S:=h.len;rcases h.has with hd|⟨C,hd⟩<;>simp[Builtin.append_,run_underlying I,run_underlying hd,sizeOf,typeInfo,p,S,a,d,kS,O]
def zV(I:P.underlying t=some (.slice e))(p:P.info? e=some i)(N:i.zero=some z){base:Option Addr}{n:Nat}{olds:List Value}(h:Src P t2 i.size m x news w)
  (a:∀d,(Builtin.firstCells i.size n (.slice base n cap)).run P {w with drawn:=d}=.ok olds.toArray {w with drawn:=d})
  (H:cap<n+m) (b:(n+m)*i.bytes<=140737488355328) (L:n+m<=9223372036854775807):
  ∃c d,n+m<=c/\(Builtin.append_ #[t,t2] ty #[.slice base n cap,x]).run P w=
   .ok (.slice (some ⟨w.heap.size,0,none⟩) (n+m) c) {w with drawn:=d,heap:=w.heap.push (.cells (olds.toArray++(news.toArray++Builtin.zeroCells z.cells (c-(n+m)))) e)}:=by
 have j:=growslice_fits H b;have r:∀w,(typeInfo e).run P w=.ok i w:=fun w=>by simp only[typeInfo,program,bind,Sem.bind,pure,Sem.run,p]
 have s:∀w,(zeroValue e).run P w=.ok z w:=fun w=>by simp only[zeroValue,typeInfo,program,bind,Sem.bind,pure,Sem.run,p,N]
 refine⟨(Question.appendCap (n+m) cap e).cut (w.tape w.drawn (Question.appendCap (n+m) cap e)),w.drawn+1,by simp[Question.cut],?_⟩
 have S:=h.len;have u:¬(n+m<=cap):=aH;have f:¬(9223372036854775807<((n:Int)+(m:Int))):=aH;have g:¬(281474976710656<Builtin.nextslicecap (n+m) cap*i.bytes):=aH;have l:(Builtin.firstCells i.size m x).run P w.drew=.ok news.toArray w.drew:=h.cells (w.drawn+1);have q:(Builtin.firstCells i.size n (.slice base n cap)).run P w.drew=.ok olds.toArray w.drew:=a (w.drawn+1);rcases h.has with hd|⟨C,hd⟩<;>simp[Builtin.append_,run_underlying I,run_underlying hd,sizeOf,typeInfo,zeroValue,p,N,S,u,f,g,Question.forced,l,q,newRow]<;>rfl
end
def dC{P:Program}{w:World}{α:Type}{k:El α}{t2 C:TypeId}{v:Value}{xs:List α}(I:P.underlying t2=some (.slice C))(h:SlAt k w v xs):Src P t2 k.sz xs.length v (k.cs xs) w:=by
 refine⟨.inr ⟨_,I⟩,?_,?_,k.cs_length xs,k.cs_one xs⟩
 ·rcases h with ⟨S,c,rfl,rfl⟩|⟨b,off,cap,cells,fz,rfl,⟨u0,e⟩,f⟩<;>rfl
 intro d;rcases h with ⟨S,c,rfl,rfl⟩|⟨b,off,cap,cells,fz,rfl,⟨u0,e⟩,f⟩
 ·cases S with
  |none=>rfl
  |some a=>simp[Builtin.firstCells,loadCells,loadCellsFrom,El.cs,pure]
 have:=lJ (P:=P) (w:={w with drawn:=d}) (b:=b) (l:=cells) e (xs.length*k.sz) (k.cs xs) off 0 [] (by simpa using f) (k.cs_length xs)
 simpa[Builtin.firstCells,loadCells]using this
def vA(e:TypeId):El UInt8:={e:=e,sz:=1,enc:=fun c=>[.int .u8 c.toNat],len:=fun _=>rfl,one:=fun _ u h=>by simp at h;subst h;rfl}
def aZ(e:TypeId):El (List UInt8):={e:=e,sz:=1,enc:=fun s=>[str s],len:=fun _=>rfl,one:=fun _ u h=>by simp at h;subst h;rfl}
def AX(e:TypeId)(l:List UInt8):(vA e).cs l=l.map fun c=>.int .u8 c.toNat:=by
 induction l with
 |nil=>rfl
 |cons c l w=>simp only[El.cs,List.flatMap_cons,List.map_cons]at*;rw[w];rfl
def zL{P:Program}{w:World}{e t2:TypeId}{l:List UInt8}(I:P.underlying t2=some .string):Src P t2 1 l.length (str l) ((vA e).cs l) w:=by
 refine⟨.inl I,?_,?_,(by rw[El.cs_length];rfl),?_⟩
 ·show Result.ok _ _=_;rw[oY]
 ·intro d
  show Result.ok _ _=_
  rw[AX,pL];simp
 intro u C;rw[AX]at C;obtain⟨c,_,rfl⟩:=xBM.1 C
 rfl
def elOk(P:Program)(t e sz bytes:Nat):Bool:=
 match P.underlying t,P.info? e with
 |some (.slice C),some i=>C==e&&i.size==sz&&i.bytes==bytes&&(match i.zero with|some z=>z.cells.size==sz|none=>false)
 |_,_=>false
def Bb{P:Program}{t e sz bytes:Nat}(h:elOk P t e sz bytes=true):∃i z,P.underlying t=some (.slice e)/\P.info? e=some i/\i.size=sz/\i.bytes=bytes/\i.zero=some z/\z.cells.size=sz:=by
 unfold elOk at h;cases C:P.underlying t with
 |none=>simp[C]at h
 |some d=>
  cases p:P.info? e with
  |none=>cases d<;>simp[C,p]at h
  |some i=>
   cases d<;>simp[C,p]at h
   obtain⟨⟨⟨rfl,b⟩,l⟩,a⟩:=h;cases N:i.zero with
   |none=>simp[N]at a
   |some z=>simp[N]at a;exact⟨i,z,Y,Y,b,l,N,a⟩
section
variable{E:Env}{fr:Fr}{K:Hl}{L L':List Asn}{Q:Post}{dst:Option Tmp}{ty:TypeId}{pos:String}{aft:Array Edge}{g:Option (Nat×Bool)}{x y:Operand}{t t2 t' s e sz bytes i off b:Nat}{α:Type}{k:El α}{v u:Value}{xs ys:List α}
def In.slCases{q w:World}{F:Hl}(j:In q F K (sl zf k v xs::M) w):
  (v=.slice none 0 0/\xs=[]/\In q F K M w)\/
  (∃b cap c fz,v=.slice (some ⟨b,0,none⟩) xs.length cap/\(zf=true->xs≠[])/\xs.length<=cap/\c.length=(cap-xs.length)*k.sz/\FzOk (cap*k.sz) fz/\In q F K (pt b (bK (k.cs xs++c) k.e fz)::M) w):=by
 obtain⟨h,⟨a,l,s,i,O,rfl⟩,d,e,S,G,H,x⟩:=j.rep;rcases s with ⟨rfl,rfl,rfl⟩|⟨b,cap,c,fz,rfl,N,f,E,g,rfl⟩
 ·exact .inl ⟨Y,Y,j.drop⟩
 exact .inr ⟨b,cap,c,fz,Y,N,f,E,g,j.os,j.tape,j.output,j.size,_,⟨_,l,Y,i,O,Y⟩,d,e,S,G,H,x⟩
def AH(d:xs.length<=cap)(H:cells.take (xs.length*k.sz)=k.cs xs)(v:cells.length=cap*k.sz)(a:FzOk (cap*k.sz) fz)(N:zf=true->xs≠[]):
  ∀h,pt b (bK cells k.e fz) h->sl zf k (.slice (some ⟨b,0,none⟩) xs.length cap) xs h:=by
 rintro h rfl;refine .inr ⟨b,cap,cells.drop (xs.length*k.sz),fz,Y,N,d,?_,a,?_⟩
 ·rw[xBF,v,Nat.sub_mul]
 rw[<-H,List.take_append_drop]
def Xu:sl zf k (.slice none 0 0) ([]:List α) .emp:=.inl ⟨rfl,rfl,rfl⟩
def iQ{h:Hl}(S:Sat M h):Sat (sl zf k (.slice none 0 0) ([]:List α)::M) h:=⟨.emp,h,Xu,S,(Hl.dj_emp h).symm,(Hl.emp_join h).symm⟩
def dJ(jh:elOk E.P t k.e k.sz bytes=true)(hx:fr.ev x=some v)(hy:fr.ev y=some u)
  (hT:Tk (sl zf k v xs) L M)
  (jb:∀w,In E.w0 E.F K L w->Src E.P t2 k.sz ys.length u (k.cs ys) w)
  (hb:(xs.length+ys.length)*bytes<=140737488355328) (Q:xs.length+ys.length<=9223372036854775807):
  EfS E fr K L ⟨dst,.call ⟨.builtin .append,#[x,y],#[t,t2]⟩,ty,pos,aft,g⟩ (fun v' K' L'=>K'=K/\L'=sl zf k v' (xs++ys)::M/\v'.oneCell'=true):=by
 intro a w f j;obtain⟨i,z,h1,h2,q,h4,h5,h6⟩:=Bb jh;have F:=jb w j;have jM:=j.imp hT.sat;have e:Array.map a.eval #[x,y]= #[v,u]:=by simp[f.ev hx,f.ev hy]
 have run:∀ {v':Value} {w':World},(Builtin.append_ #[t,t2] ty #[v,u]).run E.P w=.ok v' w'->(execOp a.eval ⟨dst,.call ⟨.builtin .append,#[x,y],#[t,t2]⟩,ty,pos,aft,g⟩).run E.P w=.ok (.value v') w':=by
  intro v' w' h;simp only[execOp,resolve,e,bind,pure,Sem.bind,invoke,builtin];exact fI h
 rw[<-q]at F;have S:(k.cs (xs++ys)).length=(xs.length+ys.length)*i.size:=by rw[k.cs_length,q,xAE]
 have jf:∀n,(Builtin.zeroCells z.cells n).toList.length=n*i.size:=fun n=>by simp[Builtin.zeroCells,h6,q]
 have I:∀(c b':Nat) {w1:World} {cells:List Value} {fz:Nat×Nat},xs.length+ys.length<=c->cells.take ((xs.length+ys.length)*i.size)=k.cs (xs++ys)->cells.length=c*i.size->FzOk (c*i.size) fz->(zf=true->xs++ys≠[])->
   In E.w0 E.F K (pt b' (bK cells k.e fz)::M) w1->In E.w0 E.F K (sl zf k (.slice (some ⟨b',0,none⟩) (xs.length+ys.length) c) (xs++ys)::M) w1:=by
  intro c b' w1 cells fz g1 g2 g3 g4 g5 C;refine C.imp (M:=sl zf k (.slice (some ⟨b',0,none⟩) (xs.length+ys.length) c) (xs++ys)::M) fun h hh=>?_;obtain⟨a,l,ha,hl,hd,he⟩:=hh;refine⟨a,l,?_,hl,hd,he⟩
  have:=AH (k:=k) (xs:=xs++ys) (zf:=zf) (cap:=c) (cells:=cells) (fz:=fz) (by simpa using g1) (by rw[xAE,<-q];exact g2) (by rw[<-q];exact g3) (by rw[<-q];exact g4) g5 a ha
  exact gF0
 rcases jM.slCases with ⟨rfl,rfl,O⟩|⟨b,cap,A,fz,rfl,je,hc,hj,ja,O⟩
 ·by_cases jc:ys.length=0
  ·have jd:ys=[]:=xA7.1 jc;subst jd;refine⟨.slice none 0 0,w,K,_,.inl (run ?_),⟨Y,Y,Y⟩,Hl.le_refl _,jM⟩
   have G:=F.len;have W:=F.cells w.drawn;rcases F.has with hd|⟨e',hd⟩<;>simp[Builtin.append_,run_underlying h1,run_underlying hd,sizeOf,typeInfo,h2,G,El.cs]at W ⊢<;>simp[W]
  obtain⟨p,d,s,N⟩:=zV (ty:=ty) h1 h2 h5 (base:=none) (n:=0) (cap:=0) (olds:=[]) F (fun d=>rfl) aH (by rw[h4];simpa using hb) (by simpa using Q);simp only[Nat.zero_add]at N s;have e2:(Obj.cells ((#[]:Array Value)++((k.cs ys).toArray++Builtin.zeroCells z.cells (p-ys.length))) k.e)=bK (k.cs ([]++ys)++(Builtin.zeroCells z.cells (p-ys.length)).toList) k.e:=by
   unfold bK;congr 1;apply Array.ext';simp
  rw[e2]at N;have C:=(O.drew d).alloc (bK (k.cs ([]++ys)++(Builtin.zeroCells z.cells (p-ys.length)).toList) k.e);have:=I p w.heap.size (by simpa using s) (by rw[<-S,List.take_left])
   (by rw[xAE,k.cs_length,jf,q,xB1,<-Nat.add_mul];congr 1;omega) (.inl (xAG _)) (fun _=>by intro e;simp at e;exact jc (by simp[e])) C
  simp only[List.length_nil,Nat.zero_add]at this;exact gHB
 have B:(k.cs xs++A).length=cap*i.size:=by rw[xAE,k.cs_length,hj,q,<-Nat.add_mul];congr 1;omega
 by_cases r:xs.length+ys.length<=cap
 ·obtain⟨w',r1,r2,r3,r4,r5⟩:=HH (ty:=ty) h1 h2 (n:=xs.length) O.piece F r aH (by rw[q];exact ja);refine⟨_,_,K,_,.inl (run r1),⟨Y,Y,Y⟩,Hl.le_refl _,?_⟩
  have C:=O.write r2 r3 r4;rw[<-r5]at C;refine I cap b r ?_ ?_ (by rw[q];exact ja) (fun H=>?_) C
  ·have e1:(k.cs xs++A).take (xs.length*i.size)=k.cs xs:=by rw[q,<-k.cs_length,List.take_left]
   rw[e1,<-S,k.cs_append,List.take_left]
  ·have jd:(k.cs ys).length=ys.length*i.size:=by rw[k.cs_length,q]
   have jg:(xs.length+ys.length)*i.size<=cap*i.size:=xAU _ r;rw[Nat.add_mul]at jg;simp only[List.length_append,List.length_take,List.length_drop]at B ⊢;omega
  intro e;have:=je H;simp at e;exact this e.1
 obtain⟨p,d,s,N⟩:=zV (ty:=ty) h1 h2 h5 (base:=some ⟨b,0,none⟩) (n:=xs.length) (cap:=cap) (olds:=k.cs xs) F
  (fun d => by
   have:=lJ (P:=E.P) (w:={w with drawn:=d}) (b:=b) (l:=k.cs xs++A) (u:=k.e) (fz:=fz) O.piece (xs.length*i.size) (k.cs xs) 0 0 [] (by simp only[Nat.add_zero,List.drop_zero];rw[q,<-k.cs_length,List.take_left]) (by rw[k.cs_length,q])
   simpa[Builtin.firstCells,loadCells]using this) aH (by rw[h4];exact hb) Q
 have e2:(Obj.cells ((k.cs xs).toArray++((k.cs ys).toArray++Builtin.zeroCells z.cells (p-(xs.length+ys.length)))) k.e)=bK (k.cs (xs++ys)++(Builtin.zeroCells z.cells (p-(xs.length+ys.length))).toList) k.e:=by
  unfold bK;congr 1;apply Array.ext';simp[k.cs_append]
 rw[e2]at N;have C:=((O.drop).drew d).alloc (bK (k.cs (xs++ys)++(Builtin.zeroCells z.cells (p-(xs.length+ys.length))).toList) k.e);have:=I p w.heap.size s (by rw[<-S,List.take_left])
  (by rw[xAE,k.cs_length,jf,q,xAE,<-Nat.add_mul];congr 1;omega) (.inl (xAG _)) (fun H=>by intro e;have:=je H;simp at e;exact this e.1) C
 exact gHB
end
end
section
variable{zf:Bool}{mv:Int}{M:List Asn}{j:Nat}{hi:Operand}{c:Value}
def slTo(v:Value)(n:Nat):Value:=
 match v with
 | .slice a _ c=>.slice a n c
 |v=>v
section
variable{E:Env}{fr:Fr}{K:Hl}{L L':List Asn}{Q:Post}{dst:Option Tmp}{ty:TypeId}{pos:String}{aft:Array Edge}{g:Option (Nat×Bool)}{x y:Operand}{t t2 t' s e sz bytes i off b:Nat}{α:Type}{k:El α}{v u:Value}{xs ys:List α}
def EG{kk:IntKind}{m:Nat}(I:iK E.P t k.e k.sz=true)(F:fr.ev x=some v)(A:SeesSl k K L v xs)(z:fr.ev hi=some (.int kk mv))(i:mv=(m:Int))(B:m<=xs.length)
  (N:∀w,In E.w0 E.F K L w->∀a n c,v=.slice a n c->n<=c):
  Ev E fr K L ⟨dst,.slice t x none (some hi) none,ty,pos,aft,g⟩ (slTo v m):=fun a w f j=>by
 subst i;obtain⟨p,r,s,H⟩:=mS I;simp only[execOp,f.ev F,f.ev z,Option.map];refine fI ?_;have C:(underlying t).run E.P w=.ok (.slice k.e) w:=by simp only[underlying,program,bind,Sem.bind,pure,Sem.run,r]
 have l:(sizeOf k.e).run E.P w=.ok p.size w:=by simp only[sizeOf,typeInfo,program,bind,Sem.bind,pure,Sem.run,s]
 have e:∀(a:Option Addr) (n c:Nat),m<=c->(Instr.sliceAt t (.slice a n c) none (some (.int kk m)) none).run E.P w=.ok (.slice a m c) w:=by
  intro a n c y;unfold Instr.sliceAt;rw[bH C];simp only[Instr.slice];rw[bH C];simp only[];have u:(Instr.sliceBounds true n c none (some (.int kk m)) none).run E.P w=.ok (0,m,c) w:=by
   simp[Instr.sliceBounds,Instr.sliceBound,asIntOf,bind,Sem.bind,pure,y]
  rw[bH u];simp only[];rw[bH l]
  by_cases d:c=0
  ·subst d;simp[pure]
  simp only[d,if_false];cases a with
  |none=>simp[pure]
  |some ad=>simp[Addr.add,pure]
 rcases A.at j with ⟨S,c,rfl,rfl⟩|⟨b,off,q,h,G,rfl,⟨u0,M⟩,O⟩
 ·have:m=0:=by simpa using B
  subst this;exact e S 0 c (xAA _)
 exact e _ _ _ (xAR B (N w j _ _ _ Y))
def Ts{q w:World}{F:Hl}(e:Tk (sl zf k v xs) L M)(j:In q F K L w):∀a n c,v=.slice a n c->n<=c:=by
 intro a n c H;rcases(j.imp e.sat).slCases with ⟨rfl,_,_⟩|⟨b,f,d,h,rfl,_,g,_⟩
 ·cases H;exact xAG _
 cases H;exact g
def mN{kk:IntKind}{m:Nat}(I:iK E.P t k.e k.sz=true)(b:fr.ev x=some v)(a:Tk (sl zf k v xs) L M)(P:Hs (sl zf k v xs) L)(y:fr.ev hi=some (.int kk mv))(i:mv=(m:Int))(B:m<=xs.length):
  Ev E fr K L ⟨dst,.slice t x none (some hi) none,ty,pos,aft,g⟩ (slTo v m):=
 EG I b (.own P) y i B (fun w j=>Ts a j)
def sU{m:Nat}(B:m<=xs.length):∀h,sl zf k v xs h->sl false k (slTo v m) (xs.take m) h:=by
 rintro h (⟨rfl,rfl,rfl⟩|⟨b,f,j,w,rfl,N,e,E,g,rfl⟩)
 ·have:m=0:=by simpa using B
  subst this;exact .inl ⟨Y,cD,Y⟩
 have c:(xs.take m).length=m:=by rw[xA6];omega
 refine .inr ⟨b,f,(k.cs xs).drop (m*k.sz)++j,w,by rw[c];rfl,cD,aH,?_,g,?_⟩
 ·have d:m*k.sz<=xs.length*k.sz:=xAU _ B;have a:xs.length*k.sz<=f*k.sz:=xAU _ e;rw[xAE,xBF,k.cs_length,E,c,Nat.sub_mul,Nat.sub_mul];omega
 rw[<-k.cs_take,<-xA1,List.take_append_drop]
def Wh{A b:Asn}(c:Tk A L M)(k:∀h,A h->b h):∀h,Sat L h->Sat (b::M) h:=
 fun h e=>let ⟨a,l,s,v,hd,d⟩:=c.sat h e;⟨a,l,k a s,v,hd,d⟩
def El.cs_set(a:k.sz=1){y0:α}(b:k.enc y0=[c])(E:j<xs.length):k.cs (xs.set j y0)=(k.cs xs).set j c:=by
 have e:∀(z:α),∃d,k.enc z=[d]:=fun z=>by
  have:=k.len z;rw[a]at this
  match h:k.enc z,this with
  | [d],_=>exact⟨d,Y⟩
 induction xs generalizing j with
 |nil=>simp at E
 |cons z N w=>
  obtain⟨d,hd⟩:=e z;cases j with
  |zero=>simp[El.cs,List.flatMap_cons,hd,b]
  |succ j=>
   have:=w (j:=j) (by simpa using E);simp only[El.cs,List.set_cons_succ,List.flatMap_cons,hd,List.cons_append,List.nil_append]at this ⊢;rw[this]
def dN(I:cT E.P s i off=true)(p:fr.ev x=some (mR v (j*k.sz)))(l:SeesSl k K L v xs)(h:j<xs.length):Ev E fr K L ⟨dst,.fieldAddr s x i,ty,pos,aft,g⟩ (mR v (j*k.sz+off)):=fun a w f q=>by
 rcases l.at q with ⟨S,c,rfl,rfl⟩|⟨b,o,e,d,r,rfl,⟨u0,z⟩,F⟩
 ·simp at h
 have B:fr.ev x=some (ptr b (o+j*k.sz)):=by rw[p];simp[mR,kS]
 have:=aD (E:=E) (K:=K) (L:=L) (dst:=dst) (ty:=ty) (pos:=pos) (aft:=aft) (g:=g) I B rfl a w f q;rw[this];simp[mR,kS,Nat.add_assoc]
def eW{o:Nat}{u:α}(I:fJ E.P t=true)(B:fr.ev x=some (mR v (j*k.sz+o)))(A:SeesSl k K L v xs)(i:xs[j]?=some u)(p:(k.enc u)[o]?=some c):
  Ev E fr K L ⟨dst,.load t x,ty,pos,aft,g⟩ c:=fun a w f q=>by
 simp only[execOp,f.ev B];refine fI ?_;have l:j<xs.length:=by
  rcases xAD j xs.length with e|e
  ·exact e
  simp[List.getElem?_eq_none e]at i
 have y:o<k.sz:=by
  rw[<-k.len u];rcases xAD o (k.enc u).length with e|e
  ·exact e
  simp[List.getElem?_eq_none e]at p
 rcases A.at q with ⟨S,c,rfl,rfl⟩|⟨b,off,s,h,H,rfl,⟨u0,z⟩,F⟩
 ·simp at i
 obtain⟨C,M⟩:=p5 I w;have d:=k.cs_at i (r:=[]);rw[xAL,<-F]at d
 show (loadVar t (Addr.add ⟨b,off,none⟩ (j*k.sz+o))).run E.P w=_
 rw[kS];unfold loadVar;rw[bH C];refine vU z ?_;have:=xAF (·[o]?) d;simp only[List.getElem?_take,List.getElem?_drop,y,if_true]at this;have G:j*k.sz+o<xs.length*k.sz:=by
  have:(j+1)*k.sz<=xs.length*k.sz:=xAU _ l;rw[Nat.succ_mul]at this;omega
 rw[x7 G,p]at this;exact this
def iS{y0:α}(ht:fJ E.P t=true)(hx:fr.ev x=some (mR v (j*k.sz)))(hy:fr.ev y=some c)(H:k.enc y0=[c])(r:c.oneCell'=true)(z:j<xs.length)
  (hF:Fnd (sl zf k v xs) (sl zf k v (xs.set j y0)) L L'):
  EfS E fr K L ⟨dst,.store t x y,ty,pos,aft,g⟩ (fun _ Q s=>Q=K/\s=L'):=by
 intro a w f q;obtain⟨M,m1,m2⟩:=hF.split;have e:k.sz=1:=by have:=k.len y0;simpa[H]using this.symm
 rcases(q.imp m1).slCases with ⟨rfl,rfl,_⟩|⟨b,u,d,fz,rfl,hz,i,A,I,N⟩
 ·simp at z
 have B:fr.ev x=some (ptr b j):=by rw[hx];simp[mR,kS,e]
 have G:=N.piece;have F:(k.cs xs).length=xs.length:=by rw[k.cs_length,e];omega
 have C:(k.cs xs++d).set j c=k.cs (xs.set j y0)++d:=by
  have e0:k.cs (xs.set j y0)=(k.cs xs).set j c:=k.cs_set e H z;rw[e0,List.set_append_left _ _ (by rw[F];exact z)]
 have W:=B3 (P:=E.P) (o:=j) (v:=c) G (by rw[xAE,F];omega) (I.at (by rw[e];omega)) r;obtain⟨s1,s2,s3⟩:=qX (o:=j) c G;have hr:(execOp a.eval ⟨dst,.store t x y,ty,pos,aft,g⟩).run E.P w=.ok .skip (w.setCell ⟨b,j,none⟩ c):=by
  simp only[execOp,f.ev B,f.ev hy];have p:c.cells= #[c]:=by cases c<;>simp[Value.oneCell']at r<;>rfl
  have:(Instr.storeAt t (ptr b j) c).run E.P w=.ok () (w.setCell ⟨b,j,none⟩ c):=by
   show (storeVar t _ c).run E.P w=_
   unfold storeVar;rw[bH (p5 ht w).2];simp only[p];rw[x6 cD];simp only[storeCells,kS,Nat.add_zero]
   show (store _ _>>=fun _=>pure ()).run E.P w=_
   rw[bH W];rfl
  rw[bH this];rfl
 refine⟨_,_,_,_,.inr ⟨hr,Y⟩,⟨Y,Y⟩,Hl.le_refl _,?_⟩
 have O:=N.write s1 s2 s3;rw[C]at O;refine O.imp fun h hh=>m2 h ?_
 obtain⟨S,l,ha,hl,hd,he⟩:=hh;refine⟨S,l,?_,hl,hd,he⟩
 refine .inr ⟨b,u,d,fz,by rw[xBD],?_,by rw[xBD];exact i,by rw[xBD];exact A,I,ha⟩
 intro r h2;exact hz r (by have:=xAF List.length h2;simp at this;exact xA7.1 (by simpa using this))
def bJ{q:Nat}{u z0 out:List Value}{parts:List (Nat×Operand)}(ht:iK E.P t e sz=true)(N:cZ E.P e=some u)(G:u.length=sz)(l:Nat.ble (q*sz) 16777216=true)(s:Nat.blt 0 (q*sz)=true)
  (C:(List.range (q*sz)).map (fun i=>u.toArray[i%sz]!)=z0) (h:Fill fr (fun i=>some (i*sz,sz)) z0 parts out):
  EfS E fr K L ⟨dst,.buildSlice t q parts.toArray,ty,pos,aft,g⟩ (fun v M L'=>∃b,v=.slice (some ⟨b,0,none⟩) q q/\M=K/\L'=pt b (bK out e)::L):=by
 intro a w f j;obtain⟨I,P,x,S⟩:=mS ht;have O:Array.map (fun(p:Nat×Operand)=>(p.1,a.eval p.2)) parts.toArray=(parts.map fun p=>(p.1,a.eval p.2)).toArray:=cD;have hu:(underlying t).run E.P w=.ok (.slice e) w:=by simp only[underlying,program,bind,Sem.bind,pure,Sem.run,P]
 have B:(sizeOf e).run E.P w=.ok sz w:=by simp only[sizeOf,typeInfo,program,bind,Sem.bind,pure,Sem.run,x,S]
 have y:q*sz<=16777216:=xCP l;have A:0<q*sz:=by simp[Nat.blt]at s;omega
 unfold cZ at N;simp only[x,Option.bind_some]at N;cases d:I.zero with
 |none=>simp[d]at N
 |some z=>
  simp[d]at N;have Q:(zeroValue e).run E.P w=.ok z w:=by simp only[zeroValue,typeInfo,program,bind,Sem.bind,pure,Sem.run,x,d]
  have c:=Mz h f;have H:u.toArray=z.cells:=by rw[<-N]
  have W:(Instr.buildSlice t q (parts.map fun p=>(p.1,a.eval p.2)).toArray).run E.P w=.ok (.slice (some ⟨w.heap.size,0,none⟩) q q) {w with heap:=w.heap.push (bK out e)}:=by
   unfold Instr.buildSlice;rw[bH hu];simp only[];rw[bH B];rw[x6 aH];have F:¬q*sz=0:=aH;have r:((Array.range (q*sz)).map fun i=>z.cells[i%z.cells.size]!)=z0.toArray:=by
    have hs:z.cells.size=sz:=by rw[<-G,<-N];simp
    rw[<-C,H,hs]
    apply Array.ext';simp
   rw[x6 F,bH Q,bH (tM _ _)];simp only[r];rw[c]
   rfl
  refine⟨_,_,K,_,.inl ?_,⟨_,Y,Y,Y⟩,Hl.le_refl _,j.alloc _⟩
  simp only[execOp];have:=fI W;rw[<-O]at this;exact this
end
end
abbrev elB(e:TypeId):El UInt8:=vA e
def Dc(e:TypeId)(s:List UInt8):(elB e).cs s=s.map fun c=>.int .u8 c.toNat:=AX e s
def EC(w:World)(e:TypeId)(s:ByteArray):
  Lib.bytesWorld w e s={w with drawn:=w.drawn+1,heap:=w.heap.push (.cells (Lib.bytesCells w e s) e ((Lib.bytesCells w e s).size,(Lib.bytesCells w e s).size+1))}:=by
 have y:(Lib.bytesWorld w e s).heap=w.heap.push (.cells (Lib.bytesCells w e s) e ((Lib.bytesCells w e s).size,(Lib.bytesCells w e s).size+1)):=by
  apply Array.ext_getElem?
  intro i;rcases Nat.lt_trichotomy i w.heap.size with h|h|h
  ·rw[Lib.bytesWorld_at_old w e s i h,Array.getElem?_push,x6 aH]
  ·subst h;rw[Lib.bytesWorld_at_new,Array.getElem?_push,x7 rfl]
  rw[Array.getElem?_eq_none (by rw[Lib.bytesWorld_size];omega),Array.getElem?_eq_none gAG]
 have b:Lib.bytesWorld w e s={w with drawn:=w.drawn+1,heap:=(Lib.bytesWorld w e s).heap}:=rfl;rw[b,y]
section
variable{E:Env}{fr:Fr}{K:Hl}{L L':List Asn}{Q:Post}{dst:Option Tmp}{ty:TypeId}{pos:String}{aft:Array Edge}{g:Option (Nat×Bool)}{x y:Operand}{t t2 t' s e:Nat}{v:Value}{xs ys:List UInt8}
def tO{b:TypeId}{u:TypeDesc}(B:E.P.underlying b=some u)(hd:E.P.underlying t=some (.slice e))(A:E.P.underlying e=some (.int .u8))(C:fr.ev x=some (str xs)):
  EfS E fr K L ⟨dst,.convert b t x,ty,pos,aft,g⟩ (fun v p L'=>p=K/\L'=sl false (elB e) v xs::L):=by
 intro a w f j;have M:(⟨xs.toArray⟩:ByteArray).size=xs.length:=by simp[ByteArray.size]
 have z:(execOp a.eval ⟨dst,.convert b t x,ty,pos,aft,g⟩).run E.P w=.ok (.value (.slice (some ⟨w.heap.size,0,none⟩) xs.length (grownCap w xs.length 0 e))) (Lib.bytesWorld w e ⟨xs.toArray⟩):=by
  simp only[execOp,f.ev C];have:=Lib.run_convert_string_bytes (P:=E.P) w b t e ⟨xs.toArray⟩ B hd A;rw[M]at this;exact fI this
 have c:xs.length<=grownCap w xs.length 0 e:=by simp[grownCap,Question.cut]
 have i:Lib.bytesCells w e ⟨xs.toArray⟩=((elB e).cs xs++List.replicate (grownCap w xs.length 0 e-xs.length) (Value.int .u8 0)).toArray:=by
  apply Array.ext'
  simp[Lib.bytesCells,Dc,M]
 refine⟨_,_,K,_,.inl z,⟨Y,Y⟩,Hl.le_refl _,?_⟩
 rw[EC];have F:=(j.drew (w.drawn+1)).alloc (.cells (Lib.bytesCells w e ⟨xs.toArray⟩) e ((Lib.bytesCells w e ⟨xs.toArray⟩).size,(Lib.bytesCells w e ⟨xs.toArray⟩).size+1));refine F.imp fun h y=>?_;obtain⟨q,l,s,r,hd,A⟩:=y;have d:(Lib.bytesCells w e ⟨xs.toArray⟩).size=grownCap w xs.length 0 e:=by rw[i];simp[Dc];omega
 refine⟨q,l,.inr ⟨w.heap.size,grownCap w xs.length 0 e,List.replicate (grownCap w xs.length 0 e-xs.length) (.int .u8 0),(grownCap w xs.length 0 e,grownCap w xs.length 0 e+1),Y,cD,c,by simp[vA],.inr (by simp[vA]),?_⟩,r,hd,A⟩
 simp only[pt]at s;rw[s,d,i];rfl
def KF(xs:List UInt8):∀acc:ByteArray,(xs.map fun c:UInt8=>(c.toNat:Int)).foldl (fun r n=>r.push (UInt8.ofNat n.toNat)) acc=⟨acc.data++xs.toArray⟩:=by
 induction xs with
 |nil=>intro acc;simp
 |cons c xs w=>
  intro acc;simp only[List.map_cons,List.foldl_cons];rw[w];have:UInt8.ofNat ((c.toNat:Int)).toNat=c:=cD;rw[this];cases acc
  simp[ByteArray.push]
def fV(l:E.P.underlying t=some (.slice e))(A:E.P.underlying e=some (.int .u8))(hd:E.P.underlying t2=some .string)(y:fr.ev x=some v)(h:SeesSl (elB e) K L v xs):
  Ev E fr K L ⟨dst,.convert t t2 x,ty,pos,aft,g⟩ (str xs):=fun a w f j=>by
 simp only[execOp,f.ev y];refine fI ?_;rcases h.at j with ⟨S,c,rfl,rfl⟩|⟨b,off,i,d,z,rfl,⟨u0,q⟩,r⟩
 ·rw[run_convert_bytes_string w t t2 e S 0 c l A hd];cases S<;>rfl
 rw[run_convert_bytes_string w t t2 e (some ⟨b,off,none⟩) xs.length i l A hd];have s:(loadCells ⟨b,off,none⟩ xs.length).run E.P w=.ok ((xs.map fun c:UInt8=>(c.toNat:Int)).map (Value.int .u8)).toArray w:=by
  have u:(d.drop (off+0)).take xs.length=xs.map fun c=>.int .u8 c.toNat:=by
   rw[Nat.add_zero,<-Dc e,<-r];simp[vA]
  have:=lJ (P:=E.P) q xs.length _ off 0 [] u cD;unfold loadCells
  simpa[Function.comp_def]using this
 rw[run_bytesToString w ⟨b,off,none⟩ xs.length i _ s,KF]
 show Result.ok (Value.string ⟨ByteArray.empty.data++xs.toArray⟩) w=_
 have p:ByteArray.empty.data= #[]:=rfl;rw[p,Array.empty_append]
def Xc(m:Int):IntKind.u8.wrap m=m%256:=by
 unfold IntKind.wrap IntKind.bits IntKind.signed;simp
def Mu(c d:UInt8)(a:fr.ev x=some (.int .u8 c.toNat))(b:fr.ev y=some (.int .u8 d.toNat)):Ev E fr K L ⟨dst,.binOp .add t x y t',ty,pos,aft,g⟩ (.int .u8 (c+d).toNat):=by
 have:=Mv (E:=E) (K:=K) (L:=L) (dst:=dst) (ty:=ty) (pos:=pos) (aft:=aft) (g:=g) (t:=t) (t':=t') a b;rw[Xc]at this;have M:((c+d).toNat:Int)=((c.toNat:Int)+(d.toNat:Int))%256:=by rw[UInt8.toNat_add];omega
 rw[M];exact this
def Ao{m n:Nat}(a:n<=m)(B:m<256)(b:fr.ev x=some (.int .u8 m))(c:fr.ev y=some (.int .u8 n)):Ev E fr K L ⟨dst,.binOp .sub t x y t',ty,pos,aft,g⟩ (.int .u8 (m-n:Nat)):=by
 have:=Mx (E:=E) (K:=K) (L:=L) (dst:=dst) (ty:=ty) (pos:=pos) (aft:=aft) (g:=g) (t:=t) (t':=t') b c;have M:IntKind.u8.wrap ((m:Int)-(n:Int))=((m-n:Nat):Int):=by rw[Xc];omega
 rwa [M]at this
def pT{k:IntKind}{m:Int}{ds:TypeDesc}(hd:E.P.underlying t2=some (.int .i64))(c:E.P.underlying t=some ds)(a:fr.ev x=some (.int k m))(h: -9223372036854775808<=m)(b:m<=9223372036854775807):
  Ev E fr K L ⟨dst,.convert t t2 x,ty,pos,aft,g⟩ (i64 m):=by
 have:=pU (E:=E) (K:=K) (L:=L) (dst:=dst) (ty:=ty) (pos:=pos) (aft:=aft) (g:=g) hd c a
 rwa [tY h b]at this
def G2{e:IntKind}{c:UInt8}(b:E.P.underlying t=some (.int e))(hd:E.P.underlying t2=some .string)(d:fr.ev x=some (.int .u8 c.toNat))(h:c.toNat<128):
  Ev E fr K L ⟨dst,.convert t t2 x,ty,pos,aft,g⟩ (str [c]):=fun a w f j=>by
 simp only[execOp,f.ev d];refine fI ?_;unfold convert;rw[bH (run_underlying b w),bH (run_underlying hd w)]
 show Result.ok (Value.string (Utf8.encode _)) w=_
 have M:Utf8.encode (c.toNat:Int)=⟨[c].toArray⟩:=by
  unfold Utf8.encode;have H:Utf8.valid (c.toNat:Int)=true:=by unfold Utf8.valid;simp;omega
  simp only[H,if_true,Int.toNat_natCast];rw[x7 aH];simp
 rw[M]
end
section
variable{ats:Array TypeId}{l:List Value}{fz:Nat×Nat}
def unsB(P:Program)(T n:Nat):Bool:=
 match P.info? T with
 |some j=>j.size==n&&n !=0&&liesAt P P.depth T (n/P.cellsOf T) 0 T 1
 |none=>false
section
variable{E:Env}{fr:Fr}{K:Hl}{L L':List Asn}{Q:Post}{dst:Option Tmp}{ty:TypeId}{pos:String}{aft:Array Edge}{g:Option (Nat×Bool)}{x y:Operand}{t t2 t' s e b n:Nat}{T:TypeId}{v:Value}{xs ys:List UInt8}
def wH{w:World}(h:w.heap[b]?=some (bK l T fz)):w.shape? b=some (T,l.length):=by
 simp[World.shape?,h]
def Ia(d:E.P.underlying t=some (.pointer T))(hd:E.P.underlying t2=some .unsafePointer)(e:fr.ev x=some (ptr b))(u:Sees K L b (bK l T fz))(c:unsB E.P T l.length=true):
  Ev E fr K L ⟨dst,.convert t t2 x,ty,pos,aft,g⟩ (ptr b):=fun a w f j=>by
 simp only[execOp,f.ev e];refine fI ?_;unfold unsB at c;cases p:E.P.info? T with
 |none=>simp[p]at c
 |some i=>
  simp[p]at c;have hp:0<l.length:=by
   rcases Nat.eq_zero_or_pos l.length with h|h
   ·exact gH3
   exact h
  exact Lib.run_to_unsafe w ⟨b,0,none⟩ d hd p (by rw[c.1.1];omega) (wH (u.at j)) hp
def EF(d:E.P.underlying t=some .unsafePointer)(hd:E.P.underlying t2=some (.pointer T))(e:fr.ev x=some (ptr b))(u:Sees K L b (bK l T fz))(c:unsB E.P T l.length=true):
  Ev E fr K L ⟨dst,.convert t t2 x,ty,pos,aft,g⟩ (ptr b):=fun a w f j=>by
 simp only[execOp,f.ev e];refine fI ?_;unfold unsB at c;cases p:E.P.info? T with
 |none=>simp[p]at c
 |some h=>
  exact gGI
def nH{r:Operand}{os:List Operand}{vs:List Value}{f:FuncId}{fn:Func}{ex:Array Value->Sem Value}(c:fr.ev r=some (.func (.func f) #[] #[]))(d:fr.evs os=some vs)
  (h:E.P.funcs[f]?=some fn) (b:(fn.name== "runtime.NumGoroutine")=false) (l:fn.body.isNone=true) (z:Extern.findNext fn=none) (F:Extern.find fn=some ex) (i:∀w,In E.w0 E.F K L w->(ex vs.toArray).run E.P w=.ok v w):
  Ev E fr K L ⟨dst,.call ⟨.value r,os.toArray,ats⟩,ty,pos,aft,g⟩ v:=fun a w s j=>by
 have M:Array.map a.eval os.toArray=vs.toArray:=by simp[s.evs d]
 simp only[execOp,resolve,M,s.ev c,Deferred.ofValue,bind,pure,Sem.bind,invoke,List.append_toArray];simp only[List.nil_append,List.append_nil];rw[run_callFunc_extern h b l z F,i w j]
 rfl
def BO{a:TypeId}(C:E.P.underlying t=some (.pointer a))(c:unsB E.P a n=true)(d:fr.ev x=some (ptr b))(e:fr.ev y=some (ptr b)):Ev E fr K L ⟨dst,.binOp .neq t x y t',ty,pos,aft,g⟩ (.bool false):=
 iY d e (fun w=>rfl) fun w=>by
  unfold unsB at c;cases p:E.P.info? a with
  |none=>simp[p]at c
  |some f=>exact Lib.run_neq_ptr_same w ⟨b,0,none⟩ C p
def ML:Value->Value
 | .slice a _ _=>.pointer a
 |v=>v
def An(p:fr.ev x=some v)(h:Hs (sl true (elB e) v xs) L):
  Ev E fr K L ⟨dst,.call ⟨.builtin .unsafeSliceData,#[x],ats⟩,ty,pos,aft,g⟩ (ML v):=fun a w f j=>by
 have l:Array.map a.eval #[x]= #[v]:=by simp[f.ev p]
 simp only[execOp,resolve,l,bind,pure,Sem.bind,invoke,builtin];obtain⟨M,m1⟩:=h.split;rcases(j.imp m1).slCases with ⟨rfl,rfl,_⟩|⟨b,c,i,fz,rfl,N,q,_⟩
 ·rfl
 have P:xs≠[]:=N rfl;have r:0<xs.length:=List.length_pos_iff.2 P;have d:¬c=0:=aH
 show (do pure (Next.value (<-Builtin.unsafeSliceData_ ats ty #[.slice (some ⟨b,0,none⟩) xs.length c])):Sem Next).run E.P w=_
 rw[bH (Lib.run_unsafeSliceData_row _ _ _ _ _ _ d)];rfl
def wG{M:List Asn}{pt A:TypeId}(W:ats= #[pt,A])(hp:E.P.underlying pt=some (.pointer e))(hc:E.P.cellsOf e=1)(q:xs.length<=9223372036854775807)
  (hx:fr.ev x=some (ML v)) (hy:fr.ev y=some (i64 xs.length)) (S:Tk (sl true (elB e) v xs) L M):
  EfS E fr K L ⟨dst,.call ⟨.builtin .unsafeString,#[x,y],ats⟩,ty,pos,aft,g⟩ (fun u I L'=>u=str xs/\I=K/\L'=M):=by
 intro a w f j;subst W;have B:Array.map a.eval #[x,y]= #[ML v,i64 xs.length]:=by simp[f.ev hx,f.ev hy]
 rcases(j.imp S.sat).slCases with ⟨rfl,rfl,p⟩|⟨b,O,h,fz,rfl,N,ja,jc,jb,p⟩
 ·refine⟨str [],w,K,M,.inl ?_,⟨Y,Y,Y⟩,Hl.le_refl _,p⟩
  simp only[execOp,resolve,B,bind,pure,Sem.bind,invoke,builtin]
  rfl
 have C : xs ≠ [] := N rfl;have r := p.piece;have d := Lib.run_unsafeString_row (P := E.P) (w := w) pt A ty e hp hc b ((elB e).cs xs ++ h).length (wH r) xs C (by rw [xAE, Dc, xAW]; omega) q (fun i c F => by
  rw[kS];refine nK r ?_;rw[Dc,xA8 (by simp;exact(xAI.1 F).1)];simp[F])
 refine⟨str xs,w.freeze ⟨b,0,none⟩ xs.length,K,M,.inl ?_,⟨Y,Y,Y⟩,Hl.le_refl _,?_⟩
 ·simp only[execOp,resolve,B,bind,pure,Sem.bind,invoke,builtin,ML]
  show (do pure (Next.value (<-Builtin.unsafeString_ #[pt,A] ty #[.pointer (some ⟨b,0,none⟩),i64 xs.length])):Sem Next).run E.P w=_
  rw[bH d];rfl
 have l:¬xs.length=0:=by simpa using C
 have Q:w.freeze ⟨b,0,none⟩ xs.length={w with heap:=(w.freeze ⟨b,0,none⟩ xs.length).heap}:=by unfold World.freeze;rw[x6 l]
 rw[Q];have s:∃G,(w.freeze ⟨b,0,none⟩ xs.length).heap[b]?=some G:=by
  unfold World.freeze;rw[x6 l]
  exact⟨_,by rw[Array.getElem?_modify,x7 rfl,r];rfl⟩
 obtain ⟨G, t⟩ := s;exact (p.write (H := (w.freeze ⟨b, 0, none⟩ xs.length).heap) (by unfold World.freeze; rw [x6 l]; simp) t (fun z N => by
  unfold World.freeze;rw[x6 l]
  rw[Array.getElem?_modify,x6 (fun e=>N e.symm)])).drop
end
def d8{E:Env}{x:Exit}{fr:Fr}{K:Hl}{L L':List Asn}{Q:Post}(k:∀h,Sat L h->Sat L' h)(h:D E x fr K L' Q):D E x fr K L Q:=fun a w f i=>h a w f (i.imp k)
section
variable{E:Env}{c x y:Code}{fr:Fr}{K:Hl}{L:List Asn}{Q:Post}{α β:Type}
def Rnd2(E:Env)(I:α->β->Prop)(fr':α->β->Fr)(K:α->β->Hl)(L':α->β->List Asn)(μ:α->β->Nat)(m:Nat):Act->World->Prop:=
 fun a w=>∃i j,I i j/\μ i j<m/\FrOk E.n E.ds (fr' i j) a/\In E.w0 E.F (K i j) (L' i j) w
def yD{P c:Act->World->Prop}(h:∀a w,P a w->c a w):∀e a w,Exit.then P Q e a w->Exit.then c Q e a w:=by
 intro e a w q;cases e<;>first|exact q|exact h _ _ q
def jC(I:α->β->Prop)(fr':α->β->Fr)(d:α->β->Hl)(L':α->β->List Asn)(μ:α->β->Nat)(b:α)(g:β)(P:I b g)(k:Kp fr (fr' b g))(t:d b g=K)(v:∀h,Sat L h->Sat (L' b g) h)
  (r:∀i j,I i j->T E c (fr' i j) (d i j) (L' i j) (Exit.then (Rnd2 E I fr' d L' μ (μ i j)) Q)):T E (.loop c) fr K L Q:=by
 refine eD (fun p:α×β=>I p.1 p.2) (fun p=>fr' p.1 p.2) (fun p=>d p.1 p.2) (fun p=>L' p.1 p.2) (fun p=>μ p.1 p.2) (b,g) P k t v ?_;rintro⟨i,j⟩ s a w f B;refine Code.wp_mono ?_ (r i j s a w f B)
 exact yD fun a w ⟨u,y,e,l,q,z⟩=>⟨(u,y),e,l,q,z⟩
def d9{I:α->β->Prop}{fr':α->β->Fr}{b:α->β->Hl}{L':α->β->List Asn}{μ:α->β->Nat}{m:Nat}(i:α)(j:β)(c:I i j)(G:μ i j<m)(k:Kp fr (fr' i j))(t:b i j=K)(v:∀h,Sat L h->Sat (L' i j) h):
  D E .normal fr K L (Exit.then (Rnd2 E I fr' b L' μ m) Q):=
 fun a w f q=>⟨i,j,c,G,f.keep k,by rw[t];exact q.imp v⟩
def Mid2(E:Env)(I:α->β->Prop)(fr:α->β->Fr)(K:α->β->Hl)(L:α->β->List Asn):Act->World->Prop:=fun a w=>∃i j,I i j/\FrOk E.n E.ds (fr i j) a/\In E.w0 E.F (K i j) (L i j) w
def Hq(I:α->β->Prop)(fr':α->β->Fr)(b:α->β->Hl)(L':α->β->List Asn)(h:T E x fr K L (Exit.then (Mid2 E I fr' b L') Q))(d:∀i j,I i j->T E y (fr' i j) (b i j) (L' i j) Q):
  T E (.seq x y) fr K L Q:=by
 intro a w f i;refine wp_seq (Code.wp_mono (fun e a w q=>?_) (h a w f i))
 cases e<;>first|exact q|(obtain⟨i,j,g,c,l⟩:=q;exact d i j g _ _ c l)
def oZ{I:α->β->Prop}{fr':α->β->Fr}{b:α->β->Hl}{L':α->β->List Asn}(i:α)(j:β)(p:I i j)(k:Kp fr (fr' i j))(t:b i j=K)(v:∀h,Sat L h->Sat (L' i j) h):
  D E .normal fr K L (Exit.then (Mid2 E I fr' b L') Q):=fun a w f q=>⟨i,j,p,f.keep k,by rw[t];exact q.imp v⟩
end
end
end Go.SL
end
section
namespace Go.SL
open Go.MapKept
section
variable{fn:Func}{F:Hl}{P:Program}{w w0:World}
abbrev Ent:=List UInt8×Value×Nat
def ent(p:Ent):MapEntry:={key:=str p.1,val:=p.2.1,born:=p.2.2}
abbrev mapO(es:List Ent)(c:Nat):Obj:=.map (es.map ent).toArray c
def oU(k:List UInt8):List Ent->Nat->Option (Nat×Value)
 | [],_=>none
 |e::es,i=>if k=e.1 then some (i,e.2.1)else oU k es (i+1)
def mget(es:List Ent)(k:List UInt8):Option Value:=(es.find? fun e=>decide (k=e.1)).map (·.2.1)
def Mn(a b:List UInt8):((⟨a.toArray⟩:ByteArray)==⟨b.toArray⟩)=decide (a=b):=by
 show (a.toArray==b.toArray)=_
 by_cases h:a=b
 ·subst h;simp
 rw[xAQ h,beq_eq_false_iff_ne];intro e;exact h gAO
def sJ(k:List UInt8):∀(es:List Ent) (i:Nat),Instr.findNow .string (str k) (es.map ent) i=some (oU k es i):=by
 intro es;induction es with
 |nil=>intro i;rfl
 |cons e es w=>
  intro i;simp only[List.map_cons,Instr.findNow,ent,Instr.sameNow,oU];rw[Mn]
  by_cases h:k=e.1
  ·simp[h]
  exact gH6
def xM(k:List UInt8):∀(es:List Ent) (i:Nat),(oU k es i).map (·.2)=mget es k:=by
 intro es;induction es with
 |nil=>intro i;rfl
 |cons e es w=>
  intro i;unfold oU mget
  by_cases h:k=e.1
  ·simp[h]
  exact gHN
section
variable{E:Env}{fr:Fr}{K:Hl}{L L':List Asn}{Q:Post}{dst:Option Tmp}{ty:TypeId}{pos:String}{aft:Array Edge}{g:Option (Nat×Bool)}{x y m:Operand}{t t' kt et b c:Nat}{v z:Value}{k:List UInt8}{es:List Ent}
def tN:EfS E fr K L ⟨dst,.makeMap t none,ty,pos,aft,g⟩ (fun u c L'=>∃b,u=.map (some b)/\c=K/\L'=pt b (mapO [] 0)::L):=by
 intro a w f j;have:(execOp a.eval ⟨dst,.makeMap t none,ty,pos,aft,g⟩).run E.P w=.ok (.value (.map (some w.heap.size))) {w with heap:=w.heap.push (mapO [] 0)}:=by
  simp only[execOp];refine fI ?_
  rfl
 exact⟨_,_,K,_,.inl this,⟨_,Y,Y,Y⟩,Hl.le_refl _,j.alloc _⟩
def Dh(B:E.P.underlying t=some (.map kt et))(h:E.P.underlying kt=some .string)(N:gX E.P et=some z)(v:fr.ev x=some (.map (some b)))(A:fr.ev y=some (str k))(u:Sees K L b (mapO es c)):
  Ev E fr K L ⟨dst,.lookup t x y true,ty,pos,aft,g⟩ (.tuple #[(mget es k).getD z,.bool (mget es k).isSome]):=fun a w f j=>by
 simp only[execOp,f.ev v,f.ev A];refine fI ?_;have s:=u.at j;have i:(Instr.checkKey (es.map ent).toArray.isEmpty 10000 kt (str k)).run E.P w=.ok () w:=run_checkKey h (d:=.string) (k:=str k) trivial _ 9999;have l:=run_findKey (w:=w) (kt:=kt) h (sJ k es 0);have q:(zeroValue et).run E.P w=.ok z w:=by
  unfold gX at N;cases e:E.P.info? et with
  |none=>simp[e]at N
  |some C=>simp[e]at N;simp only[zeroValue,typeInfo,program,bind,Sem.bind,pure,Sem.run,e,N]
 have r:=xM k es 0;unfold Instr.lookup;rw[bH (run_underlying B w)];simp only[]
 show ((getObj b)>>=fun _=>_).run E.P w=_
 rw[bH (MapKept.run_getObj_map s)];simp only[];rw[bH (tM _ _),bH i]
 show ((Instr.findKey kt (str k) (es.map ent))>>=fun _=>_).run E.P w=_
 rw[bH l,<-r];cases oU k es 0 with
 |some p=>rfl
 |none=>
  show ((zeroValue et)>>=fun _=>_).run E.P w=_
  rw[bH q];rfl
def KV{k:List UInt8}{es:List Ent}:∀ {i:Nat},oU k es i=none->es.any (fun e=>decide (k=e.1))=false:=by
 induction es with
 |nil=>intro i h;rfl
 |cons e es w=>
  intro i h;unfold oU at h;split at h
  ·cases h
  rename_i F;rw[List.any_cons,xAQ F,Bool.false_or];exact w h
def wE(B:P.underlying t=some (.map kt et))(j:P.underlying kt=some .string)(r:w.heap[b]?=some (mapO es c))(u:es.any (fun e=>decide (k=e.1))=false):
  (Instr.mapUpdate t (.map (some b)) (str k) v).run P w=.ok () {w with heap:=w.heap.setIfInBounds b (mapO (es++[(k,v,c)]) (c+1))}:=by
 have g:oU k es 0=none:=by
  have:∀(es:List Ent) (i:Nat),es.any (fun e=>decide (k=e.1))=false->oU k es i=none:=by
   intro es;induction es with
   |nil=>intro i h;rfl
   |cons e es l=>
    intro i h;rw[List.any_cons,Bool.or_eq_false_iff]at h;unfold oU;rw[x6 (by simpa using h.1)];exact l _ h.2
  exact this es 0 u
 have a:(Instr.checkKey false 10000 kt (str k)).run P w=.ok () w:=run_checkKey j (d:=.string) (k:=str k) trivial _ 9999;have f:=run_findKey (w:=w) (kt:=kt) j (sJ k es 0);unfold Instr.mapUpdate;rw[bH (run_underlying B w)];simp only[]
 show ((getObj b)>>=fun _=>_).run P w=_
 rw[bH (MapKept.run_getObj_map r)];simp only[];rw[bH a]
 show ((Instr.findKey kt (str k) (es.map ent))>>=fun _=>_).run P w=_
 rw[bH f,g]
 show (setObj b _).run P w=_
 rw[MapKept.run_setObj_map _ r];have M:(es.map ent).toArray.push {key:=str k,val:=v,born:=c}=((es++[(k,v,c)]).map ent).toArray:=by simp[ent]
 rw[M]
def jR(B:E.P.underlying t=some (.map kt et))(l:E.P.underlying kt=some .string)(q:fr.ev m=some (.map (some b)))(s:fr.ev x=some (str k))(hv:fr.ev y=some v)(u:es.any (fun e=>decide (k=e.1))=false)
  (P:Fnd (pt b (mapO es c)) (pt b (mapO (es++[(k,v,c)]) (c+1))) L L'):EfS E fr K L ⟨dst,.insert t m x y,ty,pos,aft,g⟩ (fun _ i d=>i=K/\d=L'):=by
 intro a w f j;have r:=j.mem P;have p:(execOp a.eval ⟨dst,.insert t m x y,ty,pos,aft,g⟩).run E.P w=.ok .skip {w with heap:=w.heap.setIfInBounds b (mapO (es++[(k,v,c)]) (c+1))}:=by
  simp only[execOp,f.ev q,f.ev s,f.ev hv];rw[bH (wE B l r u)];rfl
 have h:=MapKept.heap_set (o':=mapO (es++[(k,v,c)]) (c+1)) r;exact gGJ
end
def Ha{t:Tmp}{ty:TypeId}(h:fn.results= #[.cell t ty])(tmps:Array Value)(P:Program)(w:World){ad:Addr}{v:Value}(s:tmps.getD t undef=.pointer (some ad))(a:(loadVar ty ad).run P w=.ok v w):
  (results fn tmps).run P w=.ok v w:=by
 have M:tmps[t]?.getD undef=.pointer (some ad):=by simpa using s
 simp[results,h,M,asAddr,a]
def o0{n:Nat}{E K:Hl}{fr:Fr}{L L1 M:List Asn}{R:Ending->Hl->List Asn->Prop}{t b m:Nat}{T u:TypeId}{l vs:List Value}{fz:Nat×Nat}
  (j:fn.results= #[.cell t T]) (q:fr.get t=some (ptr b)) (e:aggB P T m=true) (p:Sees K L b (bK l u fz)) (hv:l.take m=vs) (g:vs.length=m) (le:E.le K) (v:Tks L1 L M) (h:R (.returned (.agg vs.toArray)) K L1):
  D ⟨P,n,[],w0,F⟩ .ret fr K L (uY P fn w0 F E R):=fun a w f i=>by
 refine⟨f.defers,.agg vs.toArray,?_,K,L1,h,le,(i.imp v.sat).left⟩
 refine Ha j _ _ _ (ad:=⟨b,0,none⟩) (by simp[f.get _ _ q]) ?_;obtain⟨c,d⟩:=zU e w;unfold loadVar;rw[bH c];simp only[if_true];rw[bH d];have:=lJ (P:=P) (p.at i) m vs 0 0 [] (by simpa using hv) g;exact gEZ
section
variable{E:Env}{c x y:Code}{fr:Fr}{K:Hl}{L:List Asn}{Q:Post}{α β γ:Type}
def Rnd3(E:Env)(I:α->β->γ->Prop)(fr':α->β->γ->Fr)(K:α->β->γ->Hl)(L':α->β->γ->List Asn)(μ:α->β->γ->Nat)(m:Nat):Act->World->Prop:=
 fun a w=>∃i j k,I i j k/\μ i j k<m/\FrOk E.n E.ds (fr' i j k) a/\In E.w0 E.F (K i j k) (L' i j k) w
def l5(I:α->β->γ->Prop)(fr':α->β->γ->Fr)(e:α->β->γ->Hl)(L':α->β->γ->List Asn)(μ:α->β->γ->Nat)(b:α)(g:β)(d:γ)(P:I b g d)(k:Kp fr (fr' b g d))(u:e b g d=K)(v:∀h,Sat L h->Sat (L' b g d) h)
  (r:∀i j k,I i j k->T E c (fr' i j k) (e i j k) (L' i j k) (Exit.then (Rnd3 E I fr' e L' μ (μ i j k)) Q)):T E (.loop c) fr K L Q:=by
 refine eD (fun p:α×β×γ=>I p.1 p.2.1 p.2.2) (fun p=>fr' p.1 p.2.1 p.2.2) (fun p=>e p.1 p.2.1 p.2.2) (fun p=>L' p.1 p.2.1 p.2.2) (fun p=>μ p.1 p.2.1 p.2.2) (b,g,d) P k u v ?_;rintro⟨i,j,k⟩ t a w f B;refine Code.wp_mono ?_ (r i j k t a w f B)
 exact yD fun a w ⟨x,y,A,l,q,s,z⟩=>⟨(x,y,A),l,q,s,z⟩
def gJ{I:α->β->γ->Prop}{fr':α->β->γ->Fr}{b:α->β->γ->Hl}{L':α->β->γ->List Asn}{μ:α->β->γ->Nat}{m:Nat}(i:α)(j:β)(l:γ)(c:I i j l)(G:μ i j l<m)(k:Kp fr (fr' i j l))(t:b i j l=K)(v:∀h,Sat L h->Sat (L' i j l) h):
  D E .normal fr K L (Exit.then (Rnd3 E I fr' b L' μ m) Q):=
 fun a w f q=>⟨i,j,l,c,G,f.keep k,by rw[t];exact q.imp v⟩
end
def In.forget{K a:Hl}{L:List Asn}(le:K.le a)(i:In w0 F a L w):In w0 F K L w:=by
 obtain⟨h,g,c,f,S,G,H,l⟩:=i.rep;have b:∀ {k:Hl},a.dj k->K.dj k:=by
  intro k d x;rcases d x with e|e
  ·left
   cases j:K x with
   |none=>rfl
   |some o=>rw[le x o j]at e;cases e
  exact .inr e
 exact⟨i.os,i.tape,i.output,i.size,h,g,(b c.symm).symm,f,b S,G,Hl.le_trans le H,l⟩
def MO{f:FuncId}{args:List Value}{K:Hl}{L:List Asn}{R:Ending->List Asn->Prop}(h:Sp P f args K L (fun e _ L'=>R e L')):Sp P f args K L (fun e a L'=>a=K/\R e L'):=
 ⟨h.1,fun F w i=>(h.2 F w i).mono fun e x ⟨a,L',r,le,j⟩=>⟨K,L',⟨rfl,r⟩,Hl.le_refl _,j.forget le⟩⟩
def fC{E:Env}{x:Exit}{fr:Fr}{K:Hl}{L:List Asn}{Q:Post}{b:Nat}{o:Obj}(h:∀c,K.le c->c b=some o->D E x fr c L Q):D E x fr K (pt b o::L) Q:=fun a w f i=>let ⟨d,e,l⟩:=i.settle;h _ d e a w f l
end
end Go.SL
end
section
namespace Go.SL
def In.settleSl{α:Type}{z:Bool}{k:El α}{q w:World}{F K:Hl}{v:Value}{xs:List α}{L:List Asn}(i:In q F K (sl z k v xs::L) w):
  ∃c,K.le c/\Ksl k c v xs/\In q F c L w:=by
 obtain⟨h,⟨a,l,u,g,O,rfl⟩,r⟩:=i.rep;rcases u with ⟨rfl,rfl,rfl⟩|⟨b,f,j,d,rfl,N,A,E,B,rfl⟩
 ·refine⟨K,Hl.le_refl _,.inl ⟨none,0,Y,Y⟩,⟨i.os,i.tape,i.output,i.size,l,g,?_⟩⟩
  have e:Hl.join Hl.emp l=l:=by funext x;simp[Hl.join,Hl.emp]
  rw[e]at r;exact r
 have y:In q F K (pt b (bK (k.cs xs++j) k.e d)::L) w:=⟨i.os,i.tape,i.output,i.size,_,⟨_,l,rfl,g,O,rfl⟩,r⟩;obtain⟨p,s,t⟩:=y.settle;refine⟨_,p,.inr ⟨b,0,f,k.cs xs++j,d,Y,⟨_,s⟩,?_⟩,t⟩
 exact gFY
section
variable{E:Env}{c:Code}{ops:Array Oper}{x:Exit}{fr:Fr}{K:Hl}{L:List Asn}{Q:Post}{α:Type}{z:Bool}{k:El α}{v:Value}{xs:List α}
def fS{l:List Oper}(h:∀b,K.le b->Ksl k b v xs->OL E ops l fr b L Q):OL E ops l fr K (sl z k v xs::L) Q:=fun a w f i=>let ⟨_,c,d,e⟩:=i.settleSl;h _ c d a w f e
def iX(h:∀b,K.le b->Ksl k b v xs->D E x fr b L Q):D E x fr K (sl z k v xs::L) Q:=fun a w f i=>let ⟨_,c,d,l⟩:=i.settleSl;h _ c d a w f l
end
def Ksl.one{α:Type}{k:El α}{K:Hl}{v:Value}{xs:List α}(h:Ksl k K v xs):v.oneCell'=true:=by
 rcases h with ⟨S,c,rfl,_⟩|⟨b,off,f,g,w,rfl,_,_⟩<;>rfl
def Ksl.isSlice{α:Type}{k:El α}{K:Hl}{v:Value}{xs:List α}(h:Ksl k K v xs):∃a n c,v=.slice a n c:=by
 rcases h with ⟨S,c,rfl,_⟩|⟨b,off,f,g,w,rfl,_,_⟩
 ·exact⟨_,_,_,Y⟩
 exact⟨_,_,_,Y⟩
def vC{E:Env}{x:Exit}{fr:Fr}{K S:Hl}{L:List Asn}{Q:Post}(le:K.le S)(h:D E x fr K L Q):D E x fr S L Q:=fun a w f i=>h a w f (i.forget le)
def eO{α:Type}(k:El α){L:List Asn}:∀h,Sat L h->Sat (sl false k (.slice none 0 0) []::L) h:=fun h y=>
 ⟨Hl.emp,h,.inl ⟨rfl,rfl,rfl⟩,y,fun _=>.inl rfl,by funext x;simp[Hl.join,Hl.emp]⟩
abbrev Cell:={v:Value//v.oneCell'=true}
def cC(e:TypeId):El Cell:={e:=e,sz:=1,enc:=fun c=>[c.1],len:=fun _=>rfl,one:=fun c u h=>by simp at h;subst h;exact c.2}
def dM(e:TypeId):El (Cell×Cell):={e:=e,sz:=2,enc:=fun c=>[c.1.1,c.2.1],len:=fun _=>rfl,one:=fun c u h=>by simp at h;rcases h with rfl|rfl;exact c.1.2;exact c.2.2}
section
variable{E:Env}{c x y:Code}{fr:Fr}{K:Hl}{L:List Asn}{Q:Post}{α β γ δ:Type}
def Rnd4(E:Env)(I:α->β->γ->δ->Prop)(fr':α->β->γ->δ->Fr)(K:α->β->γ->δ->Hl)(L':α->β->γ->δ->List Asn)(μ:α->β->γ->δ->Nat)(m:Nat):Act->World->Prop:=
 fun a w=>∃i j k l,I i j k l/\μ i j k l<m/\FrOk E.n E.ds (fr' i j k l) a/\In E.w0 E.F (K i j k l) (L' i j k l) w
def m8(I:α->β->γ->δ->Prop)(fr':α->β->γ->δ->Fr)(e:α->β->γ->δ->Hl)(L':α->β->γ->δ->List Asn)(μ:α->β->γ->δ->Nat)(b:α)(g:β)(d:γ)(F:δ)(P:I b g d F)(k:Kp fr (fr' b g d F))(v:e b g d F=K)(x:∀h,Sat L h->Sat (L' b g d F) h)
  (r:∀i j k l,I i j k l->T E c (fr' i j k l) (e i j k l) (L' i j k l) (Exit.then (Rnd4 E I fr' e L' μ (μ i j k l)) Q)):T E (.loop c) fr K L Q:=by
 refine eD (fun p:α×β×γ×δ=>I p.1 p.2.1 p.2.2.1 p.2.2.2) (fun p=>fr' p.1 p.2.1 p.2.2.1 p.2.2.2) (fun p=>e p.1 p.2.1 p.2.2.1 p.2.2.2) (fun p=>L' p.1 p.2.1 p.2.2.1 p.2.2.2) (fun p=>μ p.1 p.2.1 p.2.2.1 p.2.2.2) (b,g,d,F) P k v x ?_;rintro⟨i,j,k,l⟩ u a w f G;refine Code.wp_mono ?_ (r i j k l u a w f G)
 exact yD fun a w ⟨y,A,B,C,q,s,t,z⟩=>⟨(y,A,B,C),q,s,t,z⟩
def jQ{I:α->β->γ->δ->Prop}{fr':α->β->γ->δ->Fr}{b:α->β->γ->δ->Hl}{L':α->β->γ->δ->List Asn}{μ:α->β->γ->δ->Nat}{m:Nat}(i:α)(j:β)(l:γ)(n:δ)(c:I i j l n)(G:μ i j l n<m)(k:Kp fr (fr' i j l n))(t:b i j l n=K)(v:∀h,Sat L h->Sat (L' i j l n) h):
  D E .normal fr K L (Exit.then (Rnd4 E I fr' b L' μ m) Q):=
 fun a w f q=>⟨i,j,l,n,c,G,f.keep k,by rw[t];exact q.imp v⟩
end
section
variable{E:Env}{c x y:Code}{fr:Fr}{K:Hl}{L:List Asn}{Q:Post}{α1 α2 α3 α4 α5 α6 α7:Type}
def Rnd7(E:Env)(I:α1->α2->α3->α4->α5->α6->α7->Prop)(fr':α1->α2->α3->α4->α5->α6->α7->Fr)(K:α1->α2->α3->α4->α5->α6->α7->Hl)(L':α1->α2->α3->α4->α5->α6->α7->List Asn)(μ:α1->α2->α3->α4->α5->α6->α7->Nat)(m:Nat):Act->World->Prop:=
 fun a w=>∃e c i b d f g,I e c i b d f g/\μ e c i b d f g<m/\FrOk E.n E.ds (fr' e c i b d f g) a/\In E.w0 E.F (K e c i b d f g) (L' e c i b d f g) w
def Hp(I:α1->α2->α3->α4->α5->α6->α7->Prop)(fr':α1->α2->α3->α4->α5->α6->α7->Fr)(z:α1->α2->α3->α4->α5->α6->α7->Hl)(L':α1->α2->α3->α4->α5->α6->α7->List Asn)(μ:α1->α2->α3->α4->α5->α6->α7->Nat)(j:α1)(q:α2)(s:α3)(u:α4)(b:α5)(x:α6)(y:α7)(P:I j q s u b x y)(k:Kp fr (fr' j q s u b x y))(hK:z j q s u b x y=K)(hL:∀h,Sat L h->Sat (L' j q s u b x y) h)
  (v:∀e d i g l r t,I e d i g l r t->T E c (fr' e d i g l r t) (z e d i g l r t) (L' e d i g l r t) (Exit.then (Rnd7 E I fr' z L' μ (μ e d i g l r t)) Q)):T E (.loop c) fr K L Q:=by
 refine eD (fun p:α1×α2×α3×α4×α5×α6×α7=>I p.1 p.2.1 p.2.2.1 p.2.2.2.1 p.2.2.2.2.1 p.2.2.2.2.2.1 p.2.2.2.2.2.2) (fun p=>fr' p.1 p.2.1 p.2.2.1 p.2.2.2.1 p.2.2.2.2.1 p.2.2.2.2.2.1 p.2.2.2.2.2.2) (fun p=>z p.1 p.2.1 p.2.2.1 p.2.2.2.1 p.2.2.2.2.1 p.2.2.2.2.2.1 p.2.2.2.2.2.2) (fun p=>L' p.1 p.2.1 p.2.2.1 p.2.2.2.1 p.2.2.2.2.1 p.2.2.2.2.2.1 p.2.2.2.2.2.2) (fun p=>μ p.1 p.2.1 p.2.2.1 p.2.2.2.1 p.2.2.2.2.1 p.2.2.2.2.2.1 p.2.2.2.2.2.2) (j,q,s,u,b,x,y) P k hK hL ?_;rintro⟨e,d,i,g,l,r,t⟩ hI a w f w1;refine Code.wp_mono ?_ (v e d i g l r t hI a w f w1)
 exact yD fun a w ⟨A,C,B,F,G,H,M,N,O,S,W⟩=>⟨(A,C,B,F,G,H,M),N,O,S,W⟩
def rQ{I:α1->α2->α3->α4->α5->α6->α7->Prop}{fr':α1->α2->α3->α4->α5->α6->α7->Fr}{l:α1->α2->α3->α4->α5->α6->α7->Hl}{L':α1->α2->α3->α4->α5->α6->α7->List Asn}{μ:α1->α2->α3->α4->α5->α6->α7->Nat}{m:Nat}(e:α1)(c:α2)(i:α3)(b:α4)(d:α5)(g:α6)(j:α7)(p:I e c i b d g j)(G:μ e c i b d g j<m)(k:Kp fr (fr' e c i b d g j))(t:l e c i b d g j=K)(v:∀h,Sat L h->Sat (L' e c i b d g j) h):
  D E .normal fr K L (Exit.then (Rnd7 E I fr' l L' μ m) Q):=
 fun a w f q=>⟨e,c,i,b,d,g,j,p,G,f.keep k,by rw[t];exact q.imp v⟩
end
section
variable{a:Act}{a1:Addr}{aft:Array Edge}{args:List Value}{d:Nat}{pos:String}{ty:TypeId}{v v1 v2:Value}{w:World}
def zP(P:Program)(fn:Func)(w0:World)(F K0:Hl)(R:Ending->Hl->List Asn->Prop):Post:=
 bodyPostD P fn fun e x=>∃K g,R e K g/\K0.le K/\In w0 F K g x
def Ea{P:Program}{f:FuncId}{fn:Func}{c:Code}{n:Nat}{K:Hl}{L:List Asn}{R:Ending->Hl->List Asn->Prop}
  (d:P.funcs[f]?=some fn) (r:fn.body=some c) (u:fn.ntmps=n) (g:Nat.ble args.length n=true) (a:(fn.name== "runtime.NumGoroutine")=false)
  (h:∀(F:Hl) (w:World),T ⟨P,n,[],w,F⟩ c (Fr.init 0 args n) K L (zP P fn w F K R)):Sp P f args K L R:=by
 refine⟨⟨fn,d,a,by simp[r]⟩,fun F w i=>calls_of_wp_defers d r (h F w _ _ ⟨Y,?_,?_⟩ i)⟩
 ·exact gFC
 intro k v e;obtain⟨_,b⟩:=vS e;have j:k<args.length:=by
  rcases xAD k args.length with h|h
  ·exact h
  simp[List.getElem?_eq_none h]at b
 show (args.toArray++Array.replicate _ _)[k]?=some v
 rw[Array.getElem?_append_left (by simpa using j)]
 simpa using b
abbrev dfr(f:FuncId)(caps:Array Value):Deferred:={target:=.fn (.func f) caps,args:= #[]}
section
variable{E:Env}{fr:Fr}{K:Hl}{L:List Asn}{Q:Post}{ops:Array Oper}{rest:List Oper}
def IB{r:Operand}{f:FuncId}{caps:Array Value}(c:fr.ev r=some (.func (.func f) #[] caps))
  (h:OL ⟨E.P,E.n,dfr f caps::E.ds,E.w0,E.F⟩ ops rest fr K L Q):OL E ops (⟨none,.defer ⟨.value r,#[],#[]⟩,ty,pos,aft,none⟩::rest) fr K L Q:=by
 intro a w b i;refine wpList_plain Y fun k j=>?_;unfold Oper.wp;have:(execOp a.eval ⟨none,.defer ⟨.value r,#[],#[]⟩,ty,pos,aft,none⟩).run E.P w=.ok (.defer (dfr f caps)) w:=by
  simp only[execOp,resolve,b.ev c,Deferred.ofValue,bind,pure,Sem.bind];simp[Sem.run,dfr]
 rw[this];refine j _ _ (h _ _ ⟨?_,b.size,fun k v e=>b.get k v e⟩ i)
 show dfr f caps::a.defers=_
 rw[b.defers]
end
def SpD(P:Program)(f:FuncId)(args:List Value)(K:Hl)(L:List Asn)(u:FrameMode)(R:Ending->FrameMode->Hl->List Asn->Prop):Prop:=
 (∃fn,P.funcs[f]?=some fn/\(fn.name== "runtime.NumGoroutine")=false/\fn.body.isSome=true)/\
 ∀F w,In w F K L w->CallsD P f args.toArray u w fun e u' x=>∃a g,R e u' a g/\K.le a/\In w F a g x
def aAO{P:Program}{ρ:Operand->Value}:(execOp ρ ⟨some d,.call ⟨.builtin .recover,#[],#[]⟩,ty,pos,aft,none⟩).run P w=.ok .recover w:=by
 simp only[execOp,resolve,bind,pure,Sem.bind];rfl
def Hj{P:Program}{f:FuncId}{fn:Func}{rest:Code}{n B:Nat}{y:TypeId}{j:String}{g:Array Edge}{id:Nat}{K:Hl}{L:List Asn}{R:Ending->Hl->List Asn->Prop}{u u':FrameMode}{rv:Value}
  (hf:P.funcs[f]?=some fn) (S:fn.body=some (.seq (.region id #[⟨some d,.call ⟨.builtin .recover,#[],#[]⟩,ty,pos,aft,none⟩,⟨some B,.assign (.tmp d),y,j,g,none⟩] false) rest)) (hn:fn.ntmps=n) (hl:Nat.ble args.length n=true) (hd:Nat.blt d n=true) (N:Nat.blt B n=true) (t:(fn.name== "runtime.NumGoroutine")=false)
  (H:∀(c:Frame) (cs:List Frame),c.mode=u->recoverD (c::cs)=some (rv,{c with mode:=u'}::cs)\/(recoverD (c::cs)=none/\rv=.nilIface/\u'=u))
  (h:∀(F:Hl) (w:World),T ⟨P,n,[],w,F⟩ rest ((B,rv)::(d,rv)::Fr.init 0 args n) K L (uY P fn w F K R)):
  SpD P f args K L u fun e A b L'=>A=u'/\R e b L':=by
 refine⟨⟨fn,hf,t,by simp[S]⟩,fun F w i=>callsD_of_wpS hf S fun W cs hu=>?_⟩
 have ja:args.length<=n:=xCP hl;have Q:FrOk n [] (Fr.init 0 args n) {tmps:=args.toArray++Array.replicate (fn.ntmps-args.toArray.size) undef,defers:=[]}:=by
  refine⟨Y,by simp[hn];omega,?_⟩
  intro k v e;obtain⟨_,C⟩:=vS e;have hk:k<args.length:=by
   rcases xAD k args.length with h|h
   ·exact h
   simp[List.getElem?_eq_none h]at C
  show (args.toArray++Array.replicate _ _)[k]?=some v
  rw[Array.getElem?_append_left (by simpa using hk)]
  simpa using C
 have f2:=(Q.put hd rv).put N rv;refine wpS_seq (wpS_region ?_)
 have fin:∀p,p={W with mode:=u'}::cs->(rest.wpS P (bodyPostS P fn W cs fun e A w'=>∃b L',(A=u'/\R e b L')/\K.le b/\In w F b L' w') (({tmps:=args.toArray++Array.replicate (fn.ntmps-args.toArray.size) undef,defers:=[]:Act}.put (some d) rv).put (some B) rv) p w):=by
  intro p M;refine wpS_of_wp (Code.wp_mono ?_ (h F w _ _ f2 i))
  intro e a' w' q;subst M;cases e with
  |normal=>obtain⟨G,v,C,b,L',r,z,s⟩:=q;exact⟨G,_,Y,v,C,b,L',⟨Y,r⟩,z,s⟩
  |ret=>obtain⟨G,v,C,b,L',r,z,s⟩:=q;exact⟨G,_,Y,v,C,b,L',⟨Y,r⟩,z,s⟩
  |panic ch=>obtain⟨G,b,L',r,z,s⟩:=q;exact⟨G,_,Y,b,L',⟨Y,r⟩,z,s⟩
  |exit id=>exact q.elim
  |goto l=>exact q.elim
  |outgrown=>obtain⟨b,L',r,z,s⟩:=q;exact⟨_,b,L',⟨Y,r⟩,z,s⟩
 have ev:∀(a:Act) (w:World),(execOp (a.put (some d) rv).eval ⟨some B,.assign (.tmp d),y,j,g,none⟩).run P w=.ok (.value ((a.put (some d) rv).eval (.tmp d))) w:=fun a w=>rfl
 have E:({tmps:=args.toArray++Array.replicate (fn.ntmps-args.toArray.size) undef,defers:=[]:Act}.put (some d) rv).eval (.tmp d)=rv:=(Q.put hd rv).ev (x:=.tmp d) (by simp[Fr.ev,Fr.get])
 show wpOpsS P _ _ [0,1] _ _ _
 unfold wpOpsS;simp only[List.getElem?_toArray,List.getElem?_cons_zero,Region.wanted,if_true];rw[aAO];simp only[];rcases H W cs hu with O|⟨O,e1,e2⟩
 ·rw[O];simp only[];unfold wpOpsS;simp only[List.getElem?_toArray,List.getElem?_cons_succ,List.getElem?_cons_zero,Region.wanted,if_true];rw[ev];simp only[];rw[E];exact fin _ Y
 rw[O];simp only[];unfold wpOpsS;simp only[List.getElem?_toArray,List.getElem?_cons_succ,List.getElem?_cons_zero,Region.wanted,if_true];have I:∀(a:Act) (w:World),(execOp (a.put (some d) .nilIface).eval ⟨some B,.assign (.tmp d),y,j,g,none⟩).run P w=.ok (.value ((a.put (some d) .nilIface).eval (.tmp d))) w:=fun a w=>rfl
 rw[I];simp only[];subst e1;rw[E];refine fin _ ?_;rw[e2,<-hu]
def yN(c:Frame)(cs:List Frame)(h:c.mode=.returning):recoverD (c::cs)=some (.nilIface,{c with mode:=.returning}::cs)\/(recoverD (c::cs)=none/\Value.nilIface=.nilIface/\FrameMode.returning=.returning):=
 .inr ⟨by cases c;simp only at h;subst h;rfl,rfl,rfl⟩
def yM(c:Frame)(cs:List Frame)(h:c.mode=.panicking [{v,recovered:=false}]):
  recoverD (c::cs)=some (v,{c with mode:=.panicking [{v,recovered:=true}]}::cs)\/(recoverD (c::cs)=none/\v=.nilIface/\FrameMode.panicking [{v,recovered:=true}]=.panicking [{v,recovered:=false}]):=
 .inl (by cases c;simp only at h;subst h;rfl)
section
variable{P:Program}{fn:Func}{n:Nat}{w0:World}{F K0 K:Hl}{fr:Fr}{L L1 L2:List Asn}{R:Ending->Hl->List Asn->Prop}
def Dz{f:FuncId}{caps:Array Value}{u:FrameMode}{RD:Ending->FrameMode->Hl->List Asn->Prop}(y:FrOk n [dfr f caps] fr a)(i:In w0 F K L w)(E:u≠.run)(C:Tks L1 L L2)(s:SpD P f caps.toList K L1 u RD)
  (q:∀v u' b L',RD (.returned v) u' b L'->K.le b->settle u'=.returning/\∀w',In w0 F b (L'++L2) w'->∃v,(results fn a.tmps).run P w'=.ok v w'/\∃c d,R (.returned v) c d/\K0.le c/\In w0 F c d w')
  (p:∀t u' b L',¬RD (.panicked t) u' b L') (l:∀u' b L',¬RD .outgrown u' b L'):
  Leaves P fn a.tmps (fun e w'=>∃b L',R e b L'/\K0.le b/\In w0 F b L' w') a.defers u w:=by
 rw[y.defers];obtain⟨x,G,h⟩:=(i.imp C.sat).hide;obtain⟨⟨g,Q,z,I⟩,s⟩:=s;refine leaves_cons E (f:=f) (args:=caps.toList.toArray) ?_ ((s x w G).mono fun e u' w' ⟨b,L',r,le,j⟩=>?_)
 ·have:=Bc (vs:=caps) Q z I w;simp only[invoke]
  exact gF0
 cases e with
 |returned v=>
  obtain⟨A,B⟩:=q _ _ _ _ r le;simp only[];rw[A];exact B w' (h j)
 |panicked t=>exact absurd r (p _ _ _ _)
 |outgrown=>exact absurd r (l _ _ _)
end
def o5{P:Program}{T u:TypeId}{b:Nat}{l:List Value}{fz:Nat×Nat}(I:fJ P T=true)(h:w.heap[b]?=some (bK l u fz))(hv:l[0]?=some v):(loadVar T ⟨b,0,none⟩).run P w=.ok v w:=by
 obtain⟨a,c⟩:=p5 I w;unfold loadVar;rw[bH a];exact vU h hv
def DJ{P:Program}{fn:Func}{t1 t2:Tmp}{T1 T2:TypeId}(h:fn.results= #[.cell t1 T1,.cell t2 T2])(tmps:Array Value)(w:World){a2:Addr}(M:tmps.getD t1 undef=.pointer (some a1))(O:tmps.getD t2 undef=.pointer (some a2))
  (G:(loadVar T1 a1).run P w=.ok v1 w) (H:(loadVar T2 a2).run P w=.ok v2 w):(results fn tmps).run P w=.ok (.tuple #[v1,v2]) w:=by
 have M:tmps[t1]?.getD undef=.pointer (some a1):=by simpa using M
 have O:tmps[t2]?.getD undef=.pointer (some a2):=by simpa using O
 simp[results,h,M,O,asAddr,Sem.run_bind,Result.andThen,G,H]
def IR{P:Program}{fn:Func}{t1 t2 t3:Tmp}{T1 T3:TypeId}(h:fn.results= #[.cell t1 T1,.tmp t2,.cell t3 T3])(tmps:Array Value)(w:World){a3:Addr}{t:Value}(M:tmps.getD t1 undef=.pointer (some a1))(O:tmps.getD t2 undef=v2)(C:tmps.getD t3 undef=.pointer (some a3))
  (G:(loadVar T1 a1).run P w=.ok v1 w) (x:(loadVar T3 a3).run P w=.ok t w):(results fn tmps).run P w=.ok (.tuple #[v1,v2,t]) w:=by
 have M:tmps[t1]?.getD undef=.pointer (some a1):=by simpa using M
 have C:tmps[t3]?.getD undef=.pointer (some a3):=by simpa using C
 have O:tmps[t2]?.getD undef=v2:=by simpa using O
 simp[results,h,M,O,C,asAddr,Sem.run_bind,Result.andThen,G,x]
inductive Way:Exit->FrameMode->Prop where
 |norm:Way .normal .returning
 |ret:Way .ret .returning
 |pan (ch:List PanicEntry):Way (.panic ch) (.panicking ch)
def Way.ne{x:Exit}{u:FrameMode}(h:Way x u):u≠.run:=by cases h<;>simp
def Way.post{x:Exit}{u:FrameMode}(h:Way x u){P:Program}{fn:Func}{R:Ending->World->Prop}(k:Leaves P fn a.tmps R a.defers u w):bodyPostD P fn R x a w:=by
 cases h<;>exact k
section
variable{P:Program}{fn:Func}{n:Nat}{w0:World}{F K0 K:Hl}{fr:Fr}{L L1 L2 M:List Asn}{R:Ending->Hl->List Asn->Prop}{x:Exit}{u u':FrameMode}{f:FuncId}{caps:Array Value}{t1 t2 t3:Nat}{T1 T2 T3 b1 b2 b3:Nat}{RD:Ending->Hl->List Asn->Prop}
def QO(r:Way x u)(G:fn.results= #[.cell t1 T1,.cell t2 T2])(O:fJ P T1=true)(S:fJ P T2=true)(Q:fr.get t1=some (ptr b1))(z:fr.get t2=some (ptr b2))(B:Tks L1 L L2)
  (H:SpD P f caps.toList K L1 u fun e g b L'=>g=u'/\RD e b L') (C:settle u'=.returning)
  (d:∀e b L',RD e b L'->(∃v,e=.returned v)/\(K.le b->∃v1 v2 M,(∀h,Sat (L'++L2) h->Sat (pt b1 (bK [v1] T1)::pt b2 (bK [v2] T2)::M) h)/\R (.returned (.tuple #[v1,v2])) b M/\K0.le b)):
  D ⟨P,n,[dfr f caps],w0,F⟩ x fr K L (zP P fn w0 F K0 R):=fun a w s i=>by
 refine r.post (Dz s i r.ne B H ?_ ?_ ?_)
 ·rintro v g b L' ⟨rfl,c⟩ le;refine⟨C,fun t j=>?_⟩
  obtain⟨_,h⟩:=d _ _ _ c;obtain⟨v1,v2,M,l,E,p⟩:=h le;have q:=j.imp l;have y:=q.piece;have N:=(q.imp (fun h=>hO)).piece;have I:In w0 F b M t:=(q.drop).drop;exact⟨_,DJ G a.tmps t (a1:=⟨b1,0,none⟩) (a2:=⟨b2,0,none⟩) (by simp[s.get _ _ Q]) (by simp[s.get _ _ z]) (o5 O y Y) (o5 S N Y),b,M,E,p,I⟩
 ·rintro W g b L' ⟨_,c⟩;exact gFD
 rintro g b L' ⟨_,c⟩;exact gFD
def QP(r:Way x u)(H:fn.results= #[.cell t1 T1,.tmp t2,.cell t3 T3])(W:fJ P T1=true)(s3:fJ P T3=true)(Q:fr.get t1=some (ptr b1))(B:fr.get t2=some v2)(I:fr.get t3=some (ptr b3))(E:Tks L1 L L2)
  (O:SpD P f caps.toList K L1 u fun e g b L'=>g=u'/\RD e b L') (C:settle u'=.returning)
  (d:∀e b L',RD e b L'->(∃v,e=.returned v)/\(K.le b->∃v1 t M,(∀h,Sat (L'++L2) h->Sat (pt b1 (bK [v1] T1)::pt b3 (bK [t] T3)::M) h)/\R (.returned (.tuple #[v1,v2,t])) b M/\K0.le b)):
  D ⟨P,n,[dfr f caps],w0,F⟩ x fr K L (zP P fn w0 F K0 R):=fun a w s i=>by
 refine r.post (Dz s i r.ne E O ?_ ?_ ?_)
 ·rintro v g b L' ⟨rfl,c⟩ le;refine⟨C,fun y j=>?_⟩
  obtain⟨_,h⟩:=d _ _ _ c;obtain⟨v1,t,M,l,G,p⟩:=h le;have q:=j.imp l;have z:=q.piece;have N:=(q.imp (fun h=>hO)).piece;have S:In w0 F b M y:=(q.drop).drop;exact⟨_,IR H a.tmps y (a1:=⟨b1,0,none⟩) (a3:=⟨b3,0,none⟩) (by simp[s.get _ _ Q]) (by simp[s.get _ _ B]) (by simp[s.get _ _ I]) (o5 W z Y) (o5 s3 N Y),b,M,G,p,S⟩
 ·rintro ch g b L' ⟨_,c⟩;exact gFD
 rintro g b L' ⟨_,c⟩;exact gFD
def UA(c:fn.results= #[.cell t1 T1,.cell t2 T2])(u:fJ P T1=true)(g:fJ P T2=true)(Q:fr.get t1=some (ptr b1))(b:fr.get t2=some (ptr b2))(v:Tks [pt b1 (bK [v1] T1),pt b2 (bK [v2] T2)] L M)(le:K0.le K)(h:R (.returned (.tuple #[v1,v2])) K M):
  D ⟨P,n,[],w0,F⟩ .ret fr K L (zP P fn w0 F K0 R):=fun a w s i=>by
 show Leaves P fn a.tmps _ a.defers .returning w
 rw[s.defers];have q:=i.imp v.sat;have r:=q.piece;have N:=(q.imp (fun h=>hO)).piece;have l:In w0 F K M w:=(q.drop).drop;exact⟨_,DJ c a.tmps w (a1:=⟨b1,0,none⟩) (a2:=⟨b2,0,none⟩) (by simp[s.get _ _ Q]) (by simp[s.get _ _ b]) (o5 u r Y) (o5 g N Y),K,M,h,le,l⟩
end
end
section
variable{E:Env}{fr:Fr}{K:Hl}{L:List Asn}{Q:Post}{dst:Option Tmp}{ty:TypeId}{pos:String}{aft:Array Edge}{g:Option (Nat×Bool)}{x y:Operand}{t t' u:TypeId}{v:Value}{ms:Array (String×TypeId)}
def vH{P:Program}(w:World)(C:P.underlying t=some (.interface ms)):(Op.equal t (.iface u v) .nilIface).run P w=.ok false w:=by
 have h:∀d:Nat,(Op.equalIn (d+1) t (.iface u v) .nilIface).run P w=.ok false w:=fun d=>by simp[Op.equalIn,run_underlying C]
 exact h 9999
def yH{P:Program}(w:World)(C:P.underlying t=some (.interface ms)):(Op.equal t .nilIface .nilIface).run P w=.ok true w:=by
 have h:∀d:Nat,(Op.equalIn (d+1) t .nilIface .nilIface).run P w=.ok true w:=fun d=>by simp[Op.equalIn,run_underlying C]
 exact h 9999
def uH(C:E.P.underlying t=some (.interface ms))(a:fr.ev x=some (.iface u v))(b:fr.ev y=some .nilIface):Ev E fr K L ⟨dst,.binOp .neq t x y t',ty,pos,aft,g⟩ (.bool true):=
 iY a b (fun w=>by first|rfl|(unfold eqGuard;simp[run_underlying C])) fun w=>by
  simp only[binOp];rw[bH (vH w C)];rfl
def yX(C:E.P.underlying t=some (.interface ms))(a:fr.ev x=some .nilIface):Ev E fr K L ⟨dst,.binOp .neq t x (.const .nilIface) t',ty,pos,aft,g⟩ (.bool false):=
 iY a (v:=.nilIface) rfl (fun w=>by unfold eqGuard;simp) fun w=>by
  simp only[binOp];rw[bH (yH w C)];rfl
def iO(C:E.P.underlying t=some (.interface ms))(a:fr.ev x=some (.iface u v))(b:fr.ev y=some .nilIface):Ev E fr K L ⟨dst,.binOp .eql t x y t',ty,pos,aft,g⟩ (.bool false):=
 iY a b (fun w=>by first|rfl|(unfold eqGuard;simp[run_underlying C])) fun w=>by
  simp only[binOp];rw[bH (vH w C)];rfl
def yW(C:E.P.underlying t=some (.interface ms))(a:fr.ev x=some .nilIface):Ev E fr K L ⟨dst,.binOp .eql t x (.const .nilIface) t',ty,pos,aft,g⟩ (.bool true):=
 iY a (v:=.nilIface) rfl (fun w=>by unfold eqGuard;simp) fun w=>by
  simp only[binOp];rw[bH (yH w C)];rfl
end
section
variable{E:Env}{fr:Fr}{K h:Hl}{L:List Asn}{junk:List Value}{b j:Nat}
def xW{v:Value}:∀ {l:List Value} {o:Nat},o<l.length->SetAt l o v (l.set o v):=by
 intro l;induction l with
 |nil=>intro o h;simp at h
 |cons a l w=>
  intro o h;cases o with
  |zero=>exact .zero
  |succ o=>exact .succ (w gBW)
section
variable{α:Type}{k:El α}{z:Bool}{v:Value}{xs:List α}
def Tj(j:xs≠[])(i:Sat (sl z k v xs::L) h):∃b cap junk fz,v=.slice (some ⟨b,0,none⟩) xs.length cap/\xs.length<=cap/\junk.length=(cap-xs.length)*k.sz/\FzOk (cap*k.sz) fz/\Sat (pt b (bK (k.cs xs++junk) k.e fz)::L) h:=by
 obtain⟨a,l,s,g,hd,A⟩:=i;rcases s with ⟨_,e,_⟩|⟨b,cap,junk,fz,c,p,d,f,F,G⟩
 ·exact absurd e j
 exact⟨b,cap,junk,fz,c,d,f,F,a,l,G,g,hd,A⟩
def Tl{cap:Nat}{cells:List Value}{fz:Nat×Nat}(N:z=true->xs≠[])(d:xs.length<=cap)(E:junk.length=(cap-xs.length)*k.sz)(c:FzOk (cap*k.sz) fz)(A:cells=k.cs xs++junk)
  (e:Sat (pt b (bK cells k.e fz)::L) h):Sat (sl z k (.slice (some ⟨b,0,none⟩) xs.length cap) xs::L) h:=by
 subst A;obtain⟨a,l,s,v,hd,y⟩:=e;exact⟨a,l,.inr ⟨b,cap,junk,fz,Y,N,d,E,c,s⟩,v,hd,y⟩
def Yj{c:Code}{Q:Post}(p:xs≠[])(h:∀b cap junk fz,v=.slice (some ⟨b,0,none⟩) xs.length cap->xs.length<=cap->junk.length=(cap-xs.length)*k.sz->FzOk (cap*k.sz) fz->T E c fr K (pt b (bK (k.cs xs++junk) k.e fz)::L) Q):
  T E c fr K (sl z k v xs::L) Q:=fun a w f i=>by
 obtain⟨x,j,r⟩:=i.rep;obtain⟨b,cap,junk,fz,d,e,l,g,F⟩:=Tj p j;exact h b cap junk fz d e l g a w f ⟨i.os,i.tape,i.output,i.size,x,F,r⟩
def cs_set(k:El α){i:Nat}{u:Value}{x b:α}(E:j<k.sz)(A:(k.enc x).set j u=k.enc b):∀ {xs:List α},xs[i]?=some x->(k.cs xs++junk).set (i*k.sz+j) u=k.cs (xs.set i b)++junk:=by
 induction i with
 |zero=>
  intro xs a;cases xs with
  |nil=>simp at a
  |cons y xs=>
   simp at a;subst a
   simp only[El.cs,List.flatMap_cons,List.set_cons_zero,Nat.zero_mul,Nat.zero_add,List.append_assoc];rw[List.set_append_left _ _ (by rw[k.len];exact E),A]
 |succ i w=>
  intro xs a;cases xs with
  |nil=>simp at a
  |cons y xs=>
   have:=w (by simpa using a);simp only[El.cs,List.flatMap_cons,List.set_cons_succ,List.append_assoc]at this ⊢;rw[List.set_append_right _ _ (by rw[k.len,Nat.succ_mul];omega),k.len,show (i+1)*k.sz+j-k.sz=i*k.sz+j from by rw[Nat.succ_mul];omega,this]
end
def P7(b off n c m:Nat):mR (.slice (some ⟨b,off,none⟩) n c) m=ptr b (off+m):=by
 simp[mR,Addr.add]
def Dg{α:Type}{k:El α}{xs:List α}{dst:Option Tmp}{ty:TypeId}{pos:String}{aft:Array Edge}{g:Option (Nat×Bool)}{x y:Operand}{t:TypeId}{off n c m:Nat}{a:Int}{kk:IntKind}(B:off+j*k.sz=m)(I:iK E.P t k.e k.sz=true)(f:fr.ev x=some (.slice (some ⟨b,off,none⟩) n c))(e:SeesSl k K L (.slice (some ⟨b,off,none⟩) n c) xs)(h:fr.ev y=some (.int kk a))(i:a=(j:Int))(d:j<xs.length):
  Ev E fr K L ⟨dst,.indexAddr t x y,ty,pos,aft,g⟩ (ptr b m):=by
 have:=aW (dst:=dst) (ty:=ty) (pos:=pos) (aft:=aft) (g:=g) I f e h i d;rw[P7,B]at this;exact this
end
end Go.SL
end
section
namespace Go.SL
open Go.MapKept
def mset(k:List UInt8)(v:Value)(c:Nat):List Ent->List Ent
 | []=>[(k,v,c)]
 |e::es=>if k=e.1 then (e.1,v,e.2.2)::es else e::mset k v c es
def D2(es:List Ent)(k:List UInt8)(c:Nat):Nat:=if (mget es k).isSome=true then c else c+1
def O7{k:List UInt8}:∀ {es:List Ent} {i:Nat},oU k es i=none->mget es k=none:=by
 intro es i h;have:=xM k es i;rw[h]at this;exact this.symm
def OB{k:List UInt8}{v:Value}{c:Nat}:∀ {es:List Ent} {i:Nat},oU k es i=none->mset k v c es=es++[(k,v,c)]:=by
 intro es;induction es with
 |nil=>intro i _;rfl
 |cons e es w=>
  intro i h;unfold oU at h;split at h
  ·cases h
  rename_i F;unfold mset;rw[x6 F,w h];rfl
def RJ{k:List UInt8}{v:Value}{c:Nat}:∀ {es:List Ent} {i j:Nat} {u:Value},oU k es i=some (j,u)->i<=j/\(∃e,es[j-i]?=some e/\k=e.1)/\
  (es.map ent).modify (j-i) (fun e=>{e with key:=str k,val:=v})=(mset k v c es).map ent:=by
 intro es;induction es with
 |nil=>intro i j u h;cases h
 |cons e es w=>
  intro i j u h;unfold oU at h;split at h
  ·rename_i A;cases h
   refine⟨xAG _,⟨e,cD,A⟩,?_⟩
   unfold mset;rw[x7 A,Nat.sub_self]
   simp[List.modify,List.modifyTailIdx,ent,A]
   rfl
  rename_i F;obtain⟨a,⟨C,b,l⟩,z⟩:=w h;have E:j-i=(j-(i+1))+1:=aH;refine⟨aH,⟨C,by rw[E];simpa using b,l⟩,?_⟩
  rw[E];unfold mset;rw[x6 F]
  simp only[List.map_cons,List.modify_succ_cons];rw[z]
section
variable{E:Env}{fr:Fr}{K:Hl}{L L':List Asn}{Q:Post}{dst:Option Tmp}{ty:TypeId}{pos:String}{aft:Array Edge}{g:Option (Nat×Bool)}{x y m:Operand}{t t' kt et b c:Nat}{v z:Value}{k:List UInt8}{es:List Ent}
def Kt(B:E.P.underlying t=some (.map kt et))(h:E.P.underlying kt=some .string)(N:gX E.P et=some z)(v:fr.ev x=some (.map (some b)))(A:fr.ev y=some (str k))(u:Sees K L b (mapO es c)):
  Ev E fr K L ⟨dst,.lookup t x y false,ty,pos,aft,g⟩ ((mget es k).getD z):=fun a w f j=>by
 simp only[execOp,f.ev v,f.ev A];refine fI ?_;have s:=u.at j;have i:(Instr.checkKey (es.map ent).toArray.isEmpty 10000 kt (str k)).run E.P w=.ok () w:=run_checkKey h (d:=.string) (k:=str k) trivial _ 9999;have l:=run_findKey (w:=w) (kt:=kt) h (sJ k es 0);have q:(zeroValue et).run E.P w=.ok z w:=by
  unfold gX at N;cases e:E.P.info? et with
  |none=>simp[e]at N
  |some C=>simp[e]at N;simp only[zeroValue,typeInfo,program,bind,Sem.bind,pure,Sem.run,e,N]
 have r:=xM k es 0;unfold Instr.lookup;rw[bH (run_underlying B w)];simp only[]
 show ((getObj b)>>=fun _=>_).run E.P w=_
 rw[bH (MapKept.run_getObj_map s)];simp only[];rw[bH (tM _ _),bH i]
 show ((Instr.findKey kt (str k) (es.map ent))>>=fun _=>_).run E.P w=_
 rw[bH l,<-r];cases oU k es 0 with
 |some p=>rfl
 |none=>
  show ((zeroValue et)>>=fun _=>_).run E.P w=_
  rw[bH q];rfl
def V8{P:Program}{w:World}(B:P.underlying t=some (.map kt et))(j:P.underlying kt=some .string)(r:w.heap[b]?=some (mapO es c)):
  (Instr.mapUpdate t (.map (some b)) (str k) v).run P w=.ok () {w with heap:=w.heap.setIfInBounds b (mapO (mset k v c es) (D2 es k c))}:=by
 cases a:oU k es 0 with
 |none=>
  rw[wE B j r (KV a),OB a];unfold D2;rw[O7 a];rfl
 |some p=>
  obtain⟨i,u⟩:=p;obtain⟨_,⟨e,f,F⟩,g⟩:=RJ (v:=v) (c:=c) a;rw[Nat.sub_zero]at f g;have l:(Instr.checkKey false 10000 kt (str k)).run P w=.ok () w:=run_checkKey j (d:=.string) (k:=str k) trivial _ 9999;have q:=run_findKey (w:=w) (kt:=kt) j (sJ k es 0);have E:((es.map ent).toArray[i]?)=some (ent e):=by simp[f]
  have h:(ent e).key=str k:=by unfold ent;rw[F]
  have W:(Instr.keyThatStays (str k) (str k)).run P w=.ok (str k) w:=MapKept.run_keyThatStays (d:=.string) (k:=str k) trivial;unfold Instr.mapUpdate;rw[bH (run_underlying B w)];simp only[]
  show ((getObj b)>>=fun _=>_).run P w=_
  rw[bH (MapKept.run_getObj_map r)];simp only[];rw[bH l]
  show ((Instr.findKey kt (str k) (es.map ent))>>=fun _=>_).run P w=_
  rw[bH q,a]
  show ((Instr.keyThatStays ((((es.map ent).toArray[i]?).map (·.key)).getD (str k)) (str k))>>=fun _=>_).run P w=_
  rw[E]
  show ((Instr.keyThatStays (ent e).key (str k))>>=fun _=>_).run P w=_
  rw[h,bH W]
  show (setObj b _).run P w=_
  rw[MapKept.run_setObj_map _ r];have M:((es.map ent).toArray.modify i fun e=>{e with key:=str k,val:=v})=((mset k v c es).map ent).toArray:=by
   rw[<-g];simp[List.modify_toArray]
  have O:D2 es k c=c:=by unfold D2;rw[<-xM k es 0,a];rfl
  rw[M,O]
def aAR(B:E.P.underlying t=some (.map kt et))(i:E.P.underlying kt=some .string)(p:fr.ev m=some (.map (some b)))(q:fr.ev x=some (str k))(hv:fr.ev y=some v)
  (P:Fnd (pt b (mapO es c)) (pt b (mapO (mset k v c es) (D2 es k c))) L L'):EfS E fr K L ⟨dst,.mapUpdate t m x y,ty,pos,aft,g⟩ (fun _ h d=>h=K/\d=L'):=by
 intro a w f j;have r:=j.mem P;have l:(execOp a.eval ⟨dst,.mapUpdate t m x y,ty,pos,aft,g⟩).run E.P w=.ok .skip {w with heap:=w.heap.setIfInBounds b (mapO (mset k v c es) (D2 es k c))}:=by
  simp only[execOp,f.ev p,f.ev q,f.ev hv];rw[bH (V8 B i r)];rfl
 have e:=MapKept.heap_set (o':=mapO (mset k v c es) (D2 es k c)) r;exact⟨_,_,_,_,.inr ⟨l,Y⟩,⟨Y,Y⟩,Hl.le_refl _,j.writeAt P cD e.1 e.2⟩
end
end Go.SL
end
section
namespace Go
open Go.SL
def xAB:=@Hl.le_refl
def x5:=@Hl.le_trans
def xCX:=@Go.Proofs.Tryz.underlying0
def xBZ:=@Go.Proofs.Tryz.underlying118
def xBU:=@Go.Proofs.Tryz.underlying129
def xAP:=@Go.Proofs.Tryz.underlying130
def xCU:=@Go.Proofs.Tryz.underlying135
def xCI:=@Go.Proofs.Tryz.underlying175
def xBP:=@Go.Proofs.Tryz.underlying176
def xB0:=@Go.Proofs.Tryz.underlying185
def xBQ:=@Go.Proofs.Tryz.underlying205
def xBK:=@Go.Proofs.Tryz.underlying206
def xCL:=@Go.Proofs.Tryz.underlying21
def xCV:=@Go.Proofs.Tryz.underlying240
def xBN:=@Go.Proofs.Tryz.underlying257
def xB3:=@Go.Proofs.Tryz.underlying26
def xB8:=@Go.Proofs.Tryz.underlying282
def xCH:=@Go.Proofs.Tryz.underlying285
def xCA:=@Go.Proofs.Tryz.underlying289
def xAY:=@Go.Proofs.Tryz.underlying29
def xBV:=@Go.Proofs.Tryz.underlying293
def xCS:=@Go.Proofs.Tryz.underlying297
def xAM:=@Go.Proofs.Tryz.underlying3
def xCM:=@Go.Proofs.Tryz.underlying30
def xCT:=@Go.Proofs.Tryz.underlying300
def xCR:=@Go.Proofs.Tryz.underlying308
def xCG:=@Go.Proofs.Tryz.underlying309
def xBW:=@Go.Proofs.Tryz.underlying311
def xBO:=@Go.Proofs.Tryz.underlying334
def xCJ:=@Go.Proofs.Tryz.underlying335
def xCQ:=@Go.Proofs.Tryz.underlying345
def xB7:=@Go.Proofs.Tryz.underlying350
def xCF:=@Go.Proofs.Tryz.underlying374
def xB9:=@Go.Proofs.Tryz.underlying376
def xCE:=@Go.Proofs.Tryz.underlying380
def xAC:=@Go.Proofs.Tryz.underlying39
def xBC:=@Go.Proofs.Tryz.underlying4
def xCD:=@Go.Proofs.Tryz.underlying402
def xAN:=@Go.Proofs.Tryz.underlying42
def xBS:=@Go.Proofs.Tryz.underlying468
def xAZ:=@Go.Proofs.Tryz.underlying5
def xCB:=@Go.Proofs.Tryz.underlying53
def xCK:=@Go.Proofs.Tryz.underlying535
def xB2:=@Go.Proofs.Tryz.underlying55
def x9:=@Go.Proofs.Tryz.underlying9
def xCW:=@Go.Proofs.Tryz.underlying94
def xCN:=@Go.Proofs.Tryz.underlying96
def xCO:=@Go.Proofs.Tryz.underlying97
noncomputable abbrev x3:=Go.Proofs.Tryz.prog
end Go
namespace Go.Proofs
open Go Go.SL
set_option maxRecDepth 100000
def mixed:x3.follows .mixedOrders=true:=cV
def mI:aggB x3 188 3=true:=cV
def qZ:aggB x3 202 4=true:=cV
def LL:aggB x3 25 2=true:=cV
def VV:aggB x3 282 3=true:=cV
def VW:aggB x3 285 1=true:=cV
def jN:aggB x3 28 4=true:=cV
def VX:aggB x3 293 1=true:=cV
def VY:aggB x3 297 1=true:=cV
def VZ:aggB x3 300 2=true:=cV
def Ht:aggB x3 308 3=true:=cV
def sV:aggB x3 311 1=true:=cV
def lY:aggB x3 34 2=true:=cV
def xY:aggB x3 371 2=true:=cV
def Hu:aggB x3 376 2=true:=cV
def Hv:aggB x3 380 5=true:=cV
def gT:aggB x3 41 7=true:=cV
def Hw:aggB x3 428 2=true:=cV
def WH:fN x3 123=some ([.int .i64 0,.int .i64 0],[(0,1),(1,1)]):=cV
def TE:fM x3 123=true:=cV
def aAU:fN x3 174=some ([(str []),(str []),.int .i64 0,.slice none 0 0,.slice none 0 0,.bool false],[(0,4),(4,1),(5,1)]):=cV
def Ym:fM x3 174=true:=cV
def aAV:fN x3 178=some ([(str []),(str []),.int .i64 0,.slice none 0 0,.slice none 0 0,.bool false,.bool false,.map none,.slice none 0 0,.slice none 0 0,.int .i64 0],[(0,6),(6,1),(7,1),(8,1),(9,1),(10,1)]):=cV
def Yn:fM x3 178=true:=cV
def MT:fN x3 202=some ([.int .u8 0,(str []),.int .i64 0,.int .i64 0],[(0,1),(1,1),(2,1),(3,1)]):=cV
def Hy:fM x3 202=true:=cV
def aAW:fN x3 204=some ([(str []),.int .i64 0,.int .u8 0,(str []),.int .i64 0,.int .i64 0],[(0,1),(1,1),(2,4)]):=cV
def Yo:fM x3 204=true:=cV
def aAX:fN x3 208=some ([(str []),.int .i64 0,.int .u8 0,(str []),.int .i64 0,.int .i64 0,.slice none 0 0,.slice none 0 0,.map none,.map none],[(0,6),(6,2),(8,1),(9,1)]):=cV
def Yp:fM x3 208=true:=cV
def aAY:fN x3 217=some ([.slice none 0 0],[(0,1)]):=cV
def Yq:fM x3 217=true:=cV
def aCA:fN x3 25=some ([(str []),(str [])],[(0,1),(1,1)]):=cV
def aAZ:fM x3 25=true:=cV
def WJ:fN x3 282=some ([.int .i64 0,(str []),.int .i64 0],[(0,1),(1,1),(2,1)]):=cV
def TF:fM x3 282=true:=cV
def WK:fN x3 285=some ([.int .i64 0],[(0,1)]):=cV
def TG:fM x3 285=true:=cV
def aA0:fN x3 293=some ([.nilIface],[(0,1)]):=cV
def Yr:fM x3 293=true:=cV
def aA1:fN x3 297=some ([.slice none 0 0],[(0,1)]):=cV
def Ys:fM x3 297=true:=cV
def WL:fN x3 300=some ([.int .i64 0,.int .i64 0],[(0,1),(1,1)]):=cV
def TH:fM x3 300=true:=cV
def aA2:fN x3 308=some ([(str []),(str []),.int .i64 0],[(0,1),(1,1),(2,1)]):=cV
def Yt:fM x3 308=true:=cV
def EP:fN x3 34=some ([.int .i64 0,(str [])],[(0,1),(1,1)]):=cV
def yR:fM x3 34=true:=cV
def aA5:fN x3 369=some ([(str [])],[(0,1)]):=cV
def Yu:fM x3 369=true:=cV
def aA6:fN x3 371=some ([.nilIface,.slice none 0 0],[(0,1),(1,1)]):=cV
def Yv:fM x3 371=true:=cV
def aA7:fN x3 376=some ([.bool false,.slice none 0 0],[(0,1),(1,1)]):=cV
def Yw:fM x3 376=true:=cV
def aA8:fN x3 380=some ([.int .i64 0,.bool false,.int .i64 0,.slice none 0 0,.slice none 0 0],[(0,2),(2,1),(3,1),(4,1)]):=cV
def Yx:fM x3 380=true:=cV
def yF:fN x3 41=some ([.int .i64 0,.int .i64 0,.int .i64 0,.bool false,.slice none 0 0,.slice none 0 0,.int .i64 0],[(0,1),(1,1),(2,1),(3,1),(4,1),(5,1),(6,1)]):=cV
def qP:fM x3 41=true:=cV
def aCB:fN x3 89=some ([.pointer none,.slice none 0 0],[(0,1),(1,1)]):=cV
def aBA:fM x3 89=true:=cV
def qA:elOk x3 130 5 1 1=true:=cV
def Eg:elOk x3 135 224 1 16=true:=cV
def sW:elOk x3 176 4 1 1=true:=cV
def Hz:elOk x3 26 25 2 32=true:=cV
def m9:elOk x3 29 34 2 24=true:=cV
def Eh:elOk x3 309 371 2 40=true:=cV
def Ei:elOk x3 374 288 1 16=true:=cV
def eE:elOk x3 39 9 1 16=true:=cV
def q5:elOk x3 42 41 7 88=true:=cV
def uV:elOk x3 55 3 1 8=true:=cV
def B4:cT x3 123 0 0=true:=cV
def PZ:cT x3 123 1 1=true:=cV
def n5:cT x3 132 0 0=true:=cV
def iD:cT x3 132 1 1=true:=cV
def rD:cT x3 137 0 0=true:=cV
def yA:cT x3 137 1 1=true:=cV
def nC:cT x3 174 0 0=true:=cV
def iE:cT x3 174 1 4=true:=cV
def tT:cT x3 174 2 5=true:=cV
def eU:cT x3 178 0 0=true:=cV
def FY:cT x3 178 1 6=true:=cV
def yB:cT x3 178 2 7=true:=cV
def B5:cT x3 178 3 8=true:=cV
def mE:cT x3 178 4 9=true:=cV
def mU:cT x3 178 5 10=true:=cV
def iF:cT x3 202 0 0=true:=cV
def jW:cT x3 202 1 1=true:=cV
def Qa:cT x3 202 2 2=true:=cV
def kF:cT x3 202 3 3=true:=cV
def jX:cT x3 204 0 0=true:=cV
def dE:cT x3 204 1 1=true:=cV
def dX:cT x3 204 2 2=true:=cV
def dF:cT x3 208 0 0=true:=cV
def n6:cT x3 208 1 6=true:=cV
def FZ:cT x3 208 2 8=true:=cV
def Ga:cT x3 208 3 9=true:=cV
def rF:cT x3 217 0 0=true:=cV
def Em:cT x3 25 0 0=true:=cV
def En:cT x3 25 1 1=true:=cV
def B6:cT x3 282 0 0=true:=cV
def Gb:cT x3 282 1 1=true:=cV
def Qb:cT x3 282 2 2=true:=cV
def Gc:cT x3 285 0 0=true:=cV
def Eo:cT x3 28 0 0=true:=cV
def AM:cT x3 28 1 1=true:=cV
def qB:cT x3 28 2 2=true:=cV
def mV:cT x3 28 3 3=true:=cV
def Gd:cT x3 293 0 0=true:=cV
def Ge:cT x3 297 0 0=true:=cV
def Gf:cT x3 300 0 0=true:=cV
def Gg:cT x3 300 1 1=true:=cV
def B7:cT x3 308 0 0=true:=cV
def B8:cT x3 308 1 1=true:=cV
def yC:cT x3 308 2 2=true:=cV
def tU:cT x3 311 0 0=true:=cV
def iT:cT x3 34 0 0=true:=cV
def fK:cT x3 34 1 1=true:=cV
def pD:cT x3 371 0 0=true:=cV
def B9:cT x3 371 1 1=true:=cV
def Gh:cT x3 376 0 0=true:=cV
def tV:cT x3 376 1 1=true:=cV
def mF:cT x3 378 0 0=true:=cV
def rG:cT x3 378 1 1=true:=cV
def jF:cT x3 380 0 0=true:=cV
def Gi:cT x3 380 1 2=true:=cV
def BA:cT x3 380 2 3=true:=cV
def BB:cT x3 380 3 4=true:=cV
def jD:cT x3 41 0 0=true:=cV
def fT:cT x3 41 1 1=true:=cV
def eM:cT x3 41 2 2=true:=cV
def tW:cT x3 41 3 3=true:=cV
def fA:cT x3 41 4 4=true:=cV
def jE:cT x3 41 5 5=true:=cV
def kR:cT x3 41 6 6=true:=cV
def J5:cT x3 89 0 0=true:=cV
def J6:cT x3 89 1 1=true:=cV
def iG:iK x3 130 5 1=true:=cV
def wU:iK x3 135 224 1=true:=cV
def fF:iK x3 176 4 1=true:=cV
def Cj:iK x3 181 184 1=true:=cV
def rH:iK x3 26 25 2=true:=cV
def jG:iK x3 29 34 2=true:=cV
def sY:iK x3 309 371 2=true:=cV
def sZ:iK x3 374 288 1=true:=cV
def b0:iK x3 39 9 1=true:=cV
def eP:iK x3 42 41 7=true:=cV
def qD:iK x3 55 3 1=true:=cV
def TT:fJ x3 118=true:=cV
def Ck:fJ x3 129=true:=cV
def jZ:fJ x3 130=true:=cV
def Eu:fJ x3 135=true:=cV
def Ew:fJ x3 169=true:=cV
def aBB:fJ x3 172=true:=cV
def MU:fJ x3 175=true:=cV
def n7:fJ x3 176=true:=cV
def aBC:fJ x3 184=true:=cV
def TU:fJ x3 191=true:=cV
def sC:fJ x3 199=true:=cV
def oW:fJ x3 200=true:=cV
def WO:fJ x3 205=true:=cV
def WQ:fJ x3 206=true:=cV
def WR:fJ x3 224=true:=cV
def Ex:fJ x3 26=true:=cV
def aBD:fJ x3 283=true:=cV
def wW:fJ x3 288=true:=cV
def kX:fJ x3 29=true:=cV
def ts3:fJ x3 3=true:=cV
def nD:fJ x3 30=true:=cV
def J8:fJ x3 309=true:=cV
def J9:fJ x3 374=true:=cV
def eL:fJ x3 39=true:=cV
def ts4:fJ x3 4=true:=cV
def tX:fJ x3 42=true:=cV
def TV:fJ x3 427=true:=cV
def ts5:fJ x3 5=true:=cV
def AN:fJ x3 79=true:=cV
def H3:fJ x3 87=true:=cV
def ts9:fJ x3 9=true:=cV
def aBE:gX x3 279=some (.nilFunc):=cV
def WT:gX x3 282=some (.agg #[.int .i64 0,(str []),.int .i64 0]):=cV
def TW:gX x3 285=some (.agg #[.int .i64 0]):=cV
def MX:gX x3 289=some (.bool false):=cV
def aBF:gX x3 290=some (.nilFunc):=cV
def JA:gX x3 293=some (.agg #[.nilIface]):=cV
def aBG:gX x3 297=some (.agg #[.slice none 0 0]):=cV
def tv3:gX x3 3=some (.int .i64 0):=cV
def aBH:gX x3 308=some (.agg #[(str []),(str []),.int .i64 0]):=cV
def TX:gX x3 369=some (.agg #[(str [])]):=cV
def TY:gX x3 376=some (.agg #[.bool false,.slice none 0 0]):=cV
def WU:gX x3 380=some (.agg #[.int .i64 0,.bool false,.int .i64 0,.slice none 0 0,.slice none 0 0]):=cV
def aBI:gX x3 428=some (.agg #[.int .i64 0,.int .i64 0]):=cV
def TZ:cZ x3 118=some [.pointer none]:=cV
def Ua:cZ x3 132=some [.pointer none,.slice none 0 0]:=cV
def aBJ:cZ x3 169=some [.nilFunc]:=cV
def aBK:cZ x3 184=some [.nilFunc]:=cV
def Ub:cZ x3 188=some [.pointer none,.pointer none,.int .u64 0]:=cV
def WV:cZ x3 202=some [.int .u8 0,(str []),.int .i64 0,.int .i64 0]:=cV
def aBL:cZ x3 224=some [.nilIface]:=cV
def aCC:cZ x3 25=some [(str []),(str [])]:=cV
def Y0:cZ x3 28=some [(str []),(str []),.int .i64 0,.slice none 0 0]:=cV
def aBM:cZ x3 282=some [.int .i64 0,(str []),.int .i64 0]:=cV
def aBN:cZ x3 285=some [.int .i64 0]:=cV
def WW:cZ x3 288=some [.nilIface]:=cV
def aCD:cZ x3 29=some [.slice none 0 0]:=cV
def aBO:cZ x3 293=some [.nilIface]:=cV
def aBP:cZ x3 297=some [.slice none 0 0]:=cV
def tz3:cZ x3 3=some [.int .i64 0]:=cV
def Y1:cZ x3 30=some [.int .i64 0]:=cV
def aBQ:cZ x3 300=some [.int .i64 0,.int .i64 0]:=cV
def WX:cZ x3 308=some [(str []),(str []),.int .i64 0]:=cV
def WY:cZ x3 311=some [.slice none 0 0]:=cV
def E1:cZ x3 34=some [.int .i64 0,(str [])]:=cV
def Na:cZ x3 371=some [.nilIface,.slice none 0 0]:=cV
def WZ:cZ x3 376=some [.bool false,.slice none 0 0]:=cV
def Xa:cZ x3 380=some [.int .i64 0,.bool false,.int .i64 0,.slice none 0 0,.slice none 0 0]:=cV
def aCE:cZ x3 39=some [.slice none 0 0]:=cV
def tz4:cZ x3 4=some [.bool false]:=cV
def qG:cZ x3 41=some [.int .i64 0,.int .i64 0,.int .i64 0,.bool false,.slice none 0 0,.slice none 0 0,.int .i64 0]:=cV
def aBR:cZ x3 427=some [.map none]:=cV
def aBS:cZ x3 428=some [.int .i64 0,.int .i64 0]:=cV
def tz5:cZ x3 5=some [.int .u8 0]:=cV
def aBT:cZ x3 79=some [.nilIface]:=cV
def aCF:cZ x3 87=some [.pointer none]:=cV
def tz9:cZ x3 9=some [(str [])]:=cV
def tf242_0_0:cT x3 242 0 0=true:=cV
def tf242_1_1:cT x3 242 1 1=true:=cV
def ts240:fJ x3 240=true:=cV
def ts333:fJ x3 333=true:=cV
def ts340:fJ x3 340=true:=cV
def ta322_4:aggB x3 322 4=true:=cV
def tb322:fN x3 322=some ([.int .u8 0,(str []),.int .i64 0,.int .i64 0],[(0,1),(1,1),(2,1),(3,1)]):=cV
def tb322f:fM x3 322=true:=cV
def tf324_0_0:cT x3 324 0 0=true:=cV
def tf324_1_1:cT x3 324 1 1=true:=cV
def tf324_2_2:cT x3 324 2 2=true:=cV
def tf324_3_3:cT x3 324 3 3=true:=cV
def tf324_4_4:cT x3 324 4 4=true:=cV
def tf322_3_3:cT x3 322 3 3=true:=cV
def tf322_0_0:cT x3 322 0 0=true:=cV
def tf233_1_4:cT x3 233 1 4=true:=cV
def tf233_2_5:cT x3 233 2 5=true:=cV
def tf233_3_6:cT x3 233 3 6=true:=cV
def tf233_4_7:cT x3 233 4 7=true:=cV
def tf233_7_10:cT x3 233 7 10=true:=cV
def tf233_8_11:cT x3 233 8 11=true:=cV
def tf233_9_12:cT x3 233 9 12=true:=cV
def tf233_5_8:cT x3 233 5 8=true:=cV
def tf233_6_9:cT x3 233 6 9=true:=cV
def tf233_0_0:cT x3 233 0 0=true:=cV
def tv4:gX x3 4=some (.bool false):=cV
def tz176:cZ x3 176=some [.slice none 0 0]:=cV
def tf322_1_1:cT x3 322 1 1=true:=cV
def tf326_0_0:cT x3 326 0 0=true:=cV
def tf326_1_1:cT x3 326 1 1=true:=cV
def ts320:fJ x3 320=true:=cV
def tz322:cZ x3 322=some [.int .u8 0,(str []),.int .i64 0,.int .i64 0]:=cV
def tf411_0_0:cT x3 411 0 0=true:=cV
def tf411_2_2:cT x3 411 2 2=true:=cV
def tf411_3_3:cT x3 411 3 3=true:=cV
def tf411_4_4:cT x3 411 4 4=true:=cV
def tf411_5_5:cT x3 411 5 5=true:=cV
def tb411f:fM x3 411=true:=cV
def tf322_2_2:cT x3 322 2 2=true:=cV
def tf411_1_1:cT x3 411 1 1=true:=cV
def tf411_6_6:cT x3 411 6 6=true:=cV
def ts334:fJ x3 334=true:=cV
def tz340:cZ x3 340=some [.pointer none]:=cV
def tb337f:fM x3 337=true:=cV
def tf337_0_0:cT x3 337 0 0=true:=cV
def tf337_1_1:cT x3 337 1 1=true:=cV
def tf337_2_2:cT x3 337 2 2=true:=cV
def tf337_3_3:cT x3 337 3 3=true:=cV
def tf337_4_4:cT x3 337 4 4=true:=cV
def tf337_5_5:cT x3 337 5 5=true:=cV
def ts335:fJ x3 335=true:=cV
def tz240:cZ x3 240=some [.slice none 0 0]:=cV
def tz333:cZ x3 333=some [.pointer none]:=cV
def ta146_3:aggB x3 146 3=true:=cV
def tb146:fN x3 146=some ([.slice none 0 0,.int .i64 0,.int .i64 0],[(0,1),(1,1),(2,1)]):=cV
def tb146f:fM x3 146=true:=cV
def tz146:cZ x3 146=some [.slice none 0 0,.int .i64 0,.int .i64 0]:=cV
def tb233f:fM x3 233=true:=cV
def tb155:fN x3 155=some ([.slice none 0 0,.slice none 0 0],[(0,1),(1,1)]):=cV
def tb155f:fM x3 155=true:=cV
def tf146_0_0:cT x3 146 0 0=true:=cV
def tf146_1_1:cT x3 146 1 1=true:=cV
def tf146_2_2:cT x3 146 2 2=true:=cV
def tf99_2_2:cT x3 99 2 2=true:=cV
def ts96:fJ x3 96=true:=cV
def tz155:cZ x3 155=some [.slice none 0 0,.slice none 0 0]:=cV
def tb242:fN x3 242=some ([.slice none 0 0,.slice none 0 0],[(0,1),(1,1)]):=cV
def tb242f:fM x3 242=true:=cV
def tb324f:fM x3 324=true:=cV
def tb326:fN x3 326=some ([.pointer none,.slice none 0 0],[(0,1),(1,1)]):=cV
def tb326f:fM x3 326=true:=cV
def tf155_0_0:cT x3 155 0 0=true:=cV
def tf155_1_1:cT x3 155 1 1=true:=cV
def tf157_0_0:cT x3 157 0 0=true:=cV
def tf157_1_1:cT x3 157 1 1=true:=cV
def tf99_0_0:cT x3 99 0 0=true:=cV
def tf99_1_1:cT x3 99 1 1=true:=cV
def ts151:fJ x3 151=true:=cV
def ts43:fJ x3 43=true:=cV
def ts94:fJ x3 94=true:=cV
def ts95:fJ x3 95=true:=cV
def tz151:cZ x3 151=some [.pointer none]:=cV
def tz43:cZ x3 43=some [.pointer none]:=cV
def tb157:fN x3 157=some ([.slice none 0 0,.slice none 0 0],[(0,1),(1,1)]):=cV
def tb157f:fM x3 157=true:=cV
def tf99_3_3:cT x3 99 3 3=true:=cV
def ts97:fJ x3 97=true:=cV
def tz157:cZ x3 157=some [.slice none 0 0,.slice none 0 0]:=cV
def tf101_1_1:cT x3 101 1 1=true:=cV
def tf101_2_2:cT x3 101 2 2=true:=cV
def tf101_3_3:cT x3 101 3 3=true:=cV
def ta101_9:aggB x3 101 9=true:=cV
def tf101_0_0:cT x3 101 0 0=true:=cV
def tb99:fN x3 99=some ([.slice none 0 0,.slice none 0 0,.slice none 0 0,.slice none 0 0],[(0,1),(1,1),(2,1),(3,1)]):=cV
def tb99f:fM x3 99=true:=cV
def tf101_4_4:cT x3 101 4 4=true:=cV
def tf101_5_8:cT x3 101 5 8=true:=cV
def tz101:cZ x3 101=some [.int .i64 0,.int .i64 0,.int .i64 0,(str []),(str []),(str []),.int .i64 0,.slice none 0 0,.slice none 0 0]:=cV
def tf390_1_0:cT x3 390 1 0=true:=cV
def tf392_0_0:cT x3 392 0 0=true:=cV
def tf394_1_0:cT x3 394 1 0=true:=cV
def tf396_1_0:cT x3 396 1 0=true:=cV
def tf396_2_1:cT x3 396 2 1=true:=cV
def ts21:fJ x3 21=true:=cV
def ta470_257:aggB x3 470 257=true:=cV
def tf400_2_4:cT x3 400 2 4=true:=cV
def tf470_0_0:cT x3 470 0 0=true:=cV
def tf470_1_256:cT x3 470 1 256=true:=cV
def tv9:gX x3 9=some ((str [])):=cV
def tv5:gX x3 5=some (.int .u8 0):=cV
def tf134_0_0:cT x3 134 0 0=true:=cV
def tb400:fN x3 400=some ([.int .u32 0,.int .i32 0,.int .u32 0,.nilIface,.slice none 0 0],[(0,3),(3,1),(4,1)]):=cV
def tb400f:fM x3 400=true:=cV
def tf400_0_0:cT x3 400 0 0=true:=cV
def tf400_1_3:cT x3 400 1 3=true:=cV
def ts398:fJ x3 398=true:=cV
def tv202:gX x3 202=some (.agg #[.int .u8 0,(str []),.int .i64 0,.int .i64 0]):=cV
def tf134_1_2:cT x3 134 1 2=true:=cV
def tb134:fN x3 134=some ([.pointer none,.slice none 0 0,.int .i64 0],[(0,2),(2,1)]):=cV
def tb134f:fM x3 134=true:=cV
end Go.Proofs

end
section
namespace Go.Proofs
open Go Go.SL
def aUn{p:Prop}(h:p:=by first|exact xBU|exact Tryz.underlying151|exact Tryz.underlying20|exact Tryz.underlying202|exact Tryz.underlying288|exact Tryz.underlying369|exact Tryz.underlying43|exact Tryz.underlying79|exact x9):p:=h
def aTs{p:Prop}(h:p:=by first|exact TT|exact Ck|exact jZ|exact Eu|exact Ew|exact aBB|exact MU|exact n7|exact sC|exact oW|exact WO|exact WQ|exact ts21|exact ts240|exact Ex|exact aBD|exact wW|exact kX|exact ts3|exact nD|exact J8|exact ts320|exact ts334|exact ts335|exact J9|exact eL|exact ts398|exact ts4|exact tX|exact TV|exact ts5|exact AN|exact H3|exact ts9|exact ts94|exact ts95|exact ts96|exact ts97):p:=h
def aTa{p:Prop}(h:p:=by first|exact ta101_9|exact ta146_3|exact mI|exact qZ|exact jN|exact Ht|exact sV|exact ta322_4|exact lY|exact Hu|exact Hv|exact gT|exact Hw):p:=h
def aTf{p:Prop}(h:p:=by first|exact tf101_0_0|exact tf101_1_1|exact tf101_2_2|exact tf101_3_3|exact tf101_4_4|exact tf101_5_8|exact B4|exact PZ|exact n5|exact iD|exact tf134_0_0|exact tf134_1_2|exact rD|exact yA|exact tf146_0_0|exact tf146_1_1|exact tf146_2_2|exact nC|exact iE|exact tT|exact eU|exact FY|exact yB|exact B5|exact mE|exact mU|exact iF|exact jW|exact Qa|exact kF|exact jX|exact dE|exact dX|exact dF|exact n6|exact FZ|exact Ga|exact rF|exact tf233_0_0|exact tf233_1_4|exact tf233_2_5|exact tf233_3_6|exact tf233_4_7|exact tf233_5_8|exact tf233_6_9|exact tf233_7_10|exact tf233_8_11|exact tf233_9_12|exact tf242_0_0|exact tf242_1_1|exact Em|exact En|exact B6|exact Gb|exact Qb|exact Gc|exact Eo|exact AM|exact qB|exact mV|exact Gd|exact Ge|exact Gf|exact Gg|exact B7|exact B8|exact yC|exact tU|exact tf322_0_0|exact tf322_1_1|exact tf322_2_2|exact tf322_3_3|exact tf324_0_0|exact tf324_1_1|exact tf324_2_2|exact tf324_3_3|exact tf324_4_4|exact tf326_0_0|exact tf326_1_1|exact tf337_0_0|exact tf337_1_1|exact tf337_2_2|exact tf337_3_3|exact tf337_4_4|exact tf337_5_5|exact iT|exact fK|exact pD|exact B9|exact Gh|exact tV|exact mF|exact rG|exact jF|exact Gi|exact BA|exact BB|exact tf390_1_0|exact tf392_0_0|exact tf394_1_0|exact tf396_1_0|exact tf396_2_1|exact tf400_0_0|exact tf400_1_3|exact tf400_2_4|exact tf411_0_0|exact tf411_1_1|exact tf411_2_2|exact tf411_3_3|exact tf411_4_4|exact tf411_5_5|exact tf411_6_6|exact jD|exact fT|exact eM|exact tW|exact fA|exact jE|exact kR|exact tf470_0_0|exact tf470_1_256|exact J5|exact J6|exact tf99_0_0|exact tf99_1_1|exact tf99_2_2|exact tf99_3_3):p:=h
def aTz{p:Prop}(h:p:=by first|exact tz101|exact TZ|exact Ua|exact tz146|exact aBJ|exact Ub|exact WV|exact aCC|exact Y0|exact aBM|exact aBN|exact aCD|exact aBO|exact aBP|exact Y1|exact aBQ|exact WX|exact WY|exact tz322|exact E1|exact Na|exact WZ|exact Xa|exact aCE|exact qG|exact aBR|exact aBS|exact aBT|exact aCF|exact tz9):p:=h
def aZe{p:Prop}(h:p:=by first|exact .zero|exact .succ .zero|exact .succ (.succ .zero)|exact .succ (.succ (.succ .zero))|exact .succ (.succ (.succ (.succ .zero)))|exact .succ (.succ (.succ (.succ (.succ .zero))))|exact .succ (.succ (.succ (.succ (.succ (.succ .zero)))))|exact .succ (.succ (.succ (.succ (.succ (.succ (.succ .zero))))))|exact .succ (.succ (.succ (.succ (.succ (.succ (.succ (.succ .zero)))))))|exact .succ (.succ (.succ (.succ (.succ (.succ (.succ (.succ (.succ .zero))))))))|exact .succ (.succ (.succ (.succ (.succ (.succ (.succ (.succ (.succ (.succ .zero)))))))))|exact .succ (.succ (.succ (.succ (.succ (.succ (.succ (.succ (.succ (.succ (.succ .zero))))))))))|exact .succ (.succ (.succ (.succ (.succ (.succ (.succ (.succ (.succ (.succ (.succ (.succ .zero)))))))))))):p:=h
def aWh{p:Prop}(h:p:=by first|exact .none Y|exact .on Y Y Y):p:=h
def aEv{p:Prop}(h:p:=by first|(guard_target=~Go.SL.Ev _ _ _ _ ⟨_,.move _,_,_,_,_⟩ _;exact aB Y)|(guard_target=~Go.SL.Ev _ _ _ _ ⟨_,.assign _,_,_,_,_⟩ _;exact aE Y)|(guard_target=~Go.SL.Ev _ _ _ _ ⟨_,.nilCheck _,_,_,_,_⟩ _;exact bD)|(guard_target=~Go.SL.Ev _ _ _ _ ⟨_,.extract _ _,_,_,_,_⟩ _;exact bN Y Y)|(guard_target=~Go.SL.Ev _ _ _ _ ⟨_,.load _ _,_,_,_,_⟩ _;(first|exact aK aTs Y aL Y|exact cK aTa Y aL Y Y))|(guard_target=~Go.SL.Ev _ _ _ _ ⟨_,.fieldAddr _ _ _,_,_,_,_⟩ _;exact aD aTf Y Y)|(guard_target=~Go.SL.Ev _ _ _ _ ⟨_,.pick _ _ _,_,_,_,_⟩ _;(first|exact a8 Y Y|exact bF Y Y))|(guard_target=~Go.SL.Ev _ _ _ _ ⟨_,.binOp _ _ _ _ _,_,_,_,_⟩ _;(first|(guard_target=~Go.SL.Ev _ _ _ _ ⟨_,.binOp .eql _ _ _ _,_,_,_,_⟩ _;(first|exact bS Y Y|exact dV Y Y|exact iO aUn Y Y|exact yW aUn Y|exact mM aUn Y Y))|(guard_target=~Go.SL.Ev _ _ _ _ ⟨_,.binOp .neq _ _ _ _,_,_,_,_⟩ _;(first|exact eH Y Y|exact s9 Y Y|exact uH aUn Y Y|exact yX aUn Y|exact yY aUn Y Y))|(guard_target=~Go.SL.Ev _ _ _ _ ⟨_,.binOp .add _ _ _ _,_,_,_,_⟩ _;exact bR Y Y aH aH)|(guard_target=~Go.SL.Ev _ _ _ _ ⟨_,.binOp .sub _ _ _ _,_,_,_,_⟩ _;exact gM Y Y aH aH)|(guard_target=~Go.SL.Ev _ _ _ _ ⟨_,.binOp .mul _ _ _ _,_,_,_,_⟩ _;exact nP Y Y aH aH)|(guard_target=~Go.SL.Ev _ _ _ _ ⟨_,.binOp .lss _ _ _ _,_,_,_,_⟩ _;exact cP Y Y)|(guard_target=~Go.SL.Ev _ _ _ _ ⟨_,.binOp .leq _ _ _ _,_,_,_,_⟩ _;exact gF Y Y)|(guard_target=~Go.SL.Ev _ _ _ _ ⟨_,.binOp .gtr _ _ _ _,_,_,_,_⟩ _;exact e7 Y Y)|(guard_target=~Go.SL.Ev _ _ _ _ ⟨_,.binOp .geq _ _ _ _,_,_,_,_⟩ _;exact gA Y Y)))|(guard_target=~Go.SL.Ev _ _ _ _ ⟨_,.call ⟨.builtin _,_,_⟩,_,_,_,_⟩ _;(first|(guard_target=~Go.SL.Ev _ _ _ _ ⟨_,.call ⟨.builtin .len,_,_⟩,_,_,_,_⟩ _;exact bX Y aUn Y)|(guard_target=~Go.SL.Ev _ _ _ _ ⟨_,.call ⟨.builtin .min,_,_⟩,_,_,_,_⟩ _;exact o1 Y Y)|(guard_target=~Go.SL.Ev _ _ _ _ ⟨_,.call ⟨.builtin .max,_,_⟩,_,_,_,_⟩ _;exact Rn Y Y)))|(guard_target=~Go.SL.Ev _ _ _ _ ⟨_,.makeFunc _ _ _,_,_,_,_⟩ _;exact lA Y Y)|(guard_target=~Go.SL.Ev _ _ _ _ ⟨_,.index _ _ _,_,_,_,_⟩ _;exact cJ aUn Y Y Y bZ)|(guard_target=~Go.SL.Ev _ _ _ _ ⟨_,.field _ _ _,_,_,_,_⟩ _;exact nI aUn Y aTs Y Y)|(guard_target=~Go.SL.Ev _ _ _ _ ⟨_,.unOp .not _ _,_,_,_,_⟩ _;exact eB Y)):p:=h
def aCL{K1 K0:Hl}{X:Value}{M:List Asn}{G:Value->Hl->List Asn->Prop}(h:G X K0 M):∀v K' L',(v=X/\K'=K0/\L'=M)->K1.le K'->G v K' L':=fun _ _ _ ⟨a,b,c⟩ _=>by rw[a,b,c];exact h
def aCK{K1 K0:Hl}{M:List Asn}{G:Hl->List Asn->Prop}(h:G K0 M):∀(v:Value) K' L',(K'=K0/\L'=M)->K1.le K'->G K' L':=fun _ _ _ ⟨b,c⟩ _=>by rw[b,c];exact h
def aCJ{K1 K0:Hl}{X:Nat->Value}{M:Nat->List Asn}{G:Value->Hl->List Asn->Prop}(h:∀b,G (X b) K0 (M b)):∀v K' L',(∃b,v=X b/\K'=K0/\L'=M b)->K1.le K'->G v K' L':=fun _ _ _ ⟨b,a,c,d⟩ _=>by rw[a,c,d];exact h b
def Z1{p q:Prop}(h:q)(k:Wq q->p:=by intro h;(first|(guard_target=Go.SL.OL _ _ [] _ _ _ _;(first|refine aG ?_))|(guard_target=Go.SL.OL _ _ (⟨some _,_,_,_,_,none⟩::_) _ _ _ _;(first|refine aA aEv Y ?_|refine cG (eZ Y Y) Y ?_|refine cG (dP aTz) Y ?_))|(guard_target=Go.SL.OL _ _ (⟨none,_,_,_,_,none⟩::_) _ _ _ _;(first|refine cA (bW aTs Y Y cR bP aZe Y) (aCK ?_)))|(guard_target=Go.SL.OL _ _ _ _ _ _ _;(first|refine aR Y Y ?_|refine aN Y Y Y ?_|refine fQ Y Y Y ?_))|(guard_target=Go.SL.T _ (.cond _ _ _) _ _ _ _;(first|refine dO Y ?_|refine fD Y ?_))|(guard_target=Go.SL.T _ _ _ _ _ _;(first|refine aI ?_|refine aC ?_|refine aU ?_|refine bI ?_|refine cO ?_|refine bC ?_))|(guard_target=Go.SL.D _ _ _ _ _ _;(first|refine aF ?_|refine aT ?_|refine aO ?_|refine bO ?_|refine cF bZ ?_|refine aS ?_|refine bE ?_|refine aY ?_|refine aM ?_|refine gB Y ?_|refine bG Y Y (Hl.le_refl _) ?_|refine dG Y (Hl.le_refl _) ?_))|(first|refine aJ Y Y aWh Y Y aEv Y ?_|refine bB Y Y (.off Y Y Y) Y ?_|refine bB Y Y (.offu Y Y Y) Y ?_|refine cI ?_));exact h.w):p:=k ⟨h⟩
def Z2{p q:Prop}(h:q)(k:Wq q->p:=by intro h;(iterate 2 (refine Z1 ?_));exact h.w):p:=k ⟨h⟩
def Z3{p q:Prop}(h:q)(k:Wq q->p:=by intro h;(iterate 3 (refine Z1 ?_));exact h.w):p:=k ⟨h⟩
def Z4{p q:Prop}(h:q)(k:Wq q->p:=by intro h;(iterate 4 (refine Z1 ?_));exact h.w):p:=k ⟨h⟩
def Z5{p q:Prop}(h:q)(k:Wq q->p:=by intro h;(iterate 5 (refine Z1 ?_));exact h.w):p:=k ⟨h⟩
def Z6{p q:Prop}(h:q)(k:Wq q->p:=by intro h;(iterate 6 (refine Z1 ?_));exact h.w):p:=k ⟨h⟩
def Z7{p q:Prop}(h:q)(k:Wq q->p:=by intro h;(iterate 7 (refine Z1 ?_));exact h.w):p:=k ⟨h⟩
def Z8{p q:Prop}(h:q)(k:Wq q->p:=by intro h;(iterate 8 (refine Z1 ?_));exact h.w):p:=k ⟨h⟩
def Z9{p q:Prop}(h:q)(k:Wq q->p:=by intro h;(iterate 9 (refine Z1 ?_));exact h.w):p:=k ⟨h⟩
def ZA{p q:Prop}(h:q)(k:Wq q->p:=by intro h;(iterate 10 (refine Z1 ?_));exact h.w):p:=k ⟨h⟩
def ZB{p q:Prop}(h:q)(k:Wq q->p:=by intro h;(iterate 11 (refine Z1 ?_));exact h.w):p:=k ⟨h⟩
def ZC{p q:Prop}(h:q)(k:Wq q->p:=by intro h;(iterate 12 (refine Z1 ?_));exact h.w):p:=k ⟨h⟩
def ZD{p q:Prop}(h:q)(k:Wq q->p:=by intro h;(iterate 13 (refine Z1 ?_));exact h.w):p:=k ⟨h⟩
def ZE{p q:Prop}(h:q)(k:Wq q->p:=by intro h;(iterate 14 (refine Z1 ?_));exact h.w):p:=k ⟨h⟩
def ZF{p q:Prop}(h:q)(k:Wq q->p:=by intro h;(iterate 15 (refine Z1 ?_));exact h.w):p:=k ⟨h⟩
def ZG{p q:Prop}(h:q)(k:Wq q->p:=by intro h;(iterate 16 (refine Z1 ?_));exact h.w):p:=k ⟨h⟩
def ZH{p q:Prop}(h:q)(k:Wq q->p:=by intro h;(iterate 17 (refine Z1 ?_));exact h.w):p:=k ⟨h⟩
def ZI{p q:Prop}(h:q)(k:Wq q->p:=by intro h;(iterate 18 (refine Z1 ?_));exact h.w):p:=k ⟨h⟩
def ZJ{p q:Prop}(h:q)(k:Wq q->p:=by intro h;(iterate 19 (refine Z1 ?_));exact h.w):p:=k ⟨h⟩
def ZK{p q:Prop}(h:q)(k:Wq q->p:=by intro h;(iterate 20 (refine Z1 ?_));exact h.w):p:=k ⟨h⟩
def ZL{p q:Prop}(h:q)(k:Wq q->p:=by intro h;(iterate 21 (refine Z1 ?_));exact h.w):p:=k ⟨h⟩
def ZM{p q:Prop}(h:q)(k:Wq q->p:=by intro h;(iterate 22 (refine Z1 ?_));exact h.w):p:=k ⟨h⟩
def ZN{p q:Prop}(h:q)(k:Wq q->p:=by intro h;(iterate 23 (refine Z1 ?_));exact h.w):p:=k ⟨h⟩
def ZO{p q:Prop}(h:q)(k:Wq q->p:=by intro h;(iterate 24 (refine Z1 ?_));exact h.w):p:=k ⟨h⟩
def ZP{p q:Prop}(h:q)(k:Wq q->p:=by intro h;(iterate 25 (refine Z1 ?_));exact h.w):p:=k ⟨h⟩
def ZQ{p q:Prop}(h:q)(k:Wq q->p:=by intro h;(iterate 26 (refine Z1 ?_));exact h.w):p:=k ⟨h⟩
def ZR{p q:Prop}(h:q)(k:Wq q->p:=by intro h;(iterate 27 (refine Z1 ?_));exact h.w):p:=k ⟨h⟩
def ZS{p q:Prop}(h:q)(k:Wq q->p:=by intro h;(iterate 28 (refine Z1 ?_));exact h.w):p:=k ⟨h⟩
def ZT{p q:Prop}(h:q)(k:Wq q->p:=by intro h;(iterate 29 (refine Z1 ?_));exact h.w):p:=k ⟨h⟩
def ZU{p q:Prop}(h:q)(k:Wq q->p:=by intro h;(iterate 30 (refine Z1 ?_));exact h.w):p:=k ⟨h⟩
def ZV{p q:Prop}(h:q)(k:Wq q->p:=by intro h;(iterate 33 (refine Z1 ?_));exact h.w):p:=k ⟨h⟩
def ZW{p q:Prop}(h:q)(k:Wq q->p:=by intro h;(iterate 36 (refine Z1 ?_));exact h.w):p:=k ⟨h⟩
def aQ{A As L M N}(h:Tk A L M)(k:Tks As M N):Tks (A::As) L N:=.cons h k
def bT{L}:Tks [] L L:=.nil
def cL{A L}:Tk A (A::L) L:=.here
def dQ{A L B0}:Tk A (B0::A::L) (B0::L):=.there (.here)
def jS{A L B0 B1}:Tk A (B0::B1::A::L) (B0::B1::L):=.there (.there (.here))
def AR{A L B0 B1 B2}:Tk A (B0::B1::B2::A::L) (B0::B1::B2::L):=.there (.there (.there (.here)))
def EI{A L B0 B1 B2 B3}:Tk A (B0::B1::B2::B3::A::L) (B0::B1::B2::B3::L):=.there (.there (.there (.there (.here))))
def EJ{A L B0 B1 B2 B3 B4}:Tk A (B0::B1::B2::B3::B4::A::L) (B0::B1::B2::B3::B4::L):=.there (.there (.there (.there (.there (.here)))))
def k6T{A L B0 B1 B2 B3 B4 B5}:Tk A (B0::B1::B2::B3::B4::B5::A::L) (B0::B1::B2::B3::B4::B5::L):=.there (.there (.there (.there (.there (.there (.here))))))
def k7T{A L B0 B1 B2 B3 B4 B5 B6}:Tk A (B0::B1::B2::B3::B4::B5::B6::A::L) (B0::B1::B2::B3::B4::B5::B6::L):=.there (.there (.there (.there (.there (.there (.there (.here)))))))
def k8T{A L B0 B1 B2 B3 B4 B5 B6 B7}:Tk A (B0::B1::B2::B3::B4::B5::B6::B7::A::L) (B0::B1::B2::B3::B4::B5::B6::B7::L):=.there (.there (.there (.there (.there (.there (.there (.there (.here))))))))
def k9T{A L B0 B1 B2 B3 B4 B5 B6 B7 B8}:Tk A (B0::B1::B2::B3::B4::B5::B6::B7::B8::A::L) (B0::B1::B2::B3::B4::B5::B6::B7::B8::L):=.there (.there (.there (.there (.there (.there (.there (.there (.there (.here)))))))))
def aCI{A L B0 B1 B2 B3 B4 B5 B6 B7 B8 B9}:Tk A (B0::B1::B2::B3::B4::B5::B6::B7::B8::B9::A::L) (B0::B1::B2::B3::B4::B5::B6::B7::B8::B9::L):=.there (.there (.there (.there (.there (.there (.there (.there (.there (.there (.here))))))))))
def YR{A L B0 B1 B2 B3 B4 B5 B6 B7 B8 B9 B10}:Tk A (B0::B1::B2::B3::B4::B5::B6::B7::B8::B9::B10::A::L) (B0::B1::B2::B3::B4::B5::B6::B7::B8::B9::B10::L):=.there (.there (.there (.there (.there (.there (.there (.there (.there (.there (.there (.here)))))))))))
def aCG{A L B0 B1 B2 B3 B4 B5 B6 B7 B8 B9 B10 B11}:Tk A (B0::B1::B2::B3::B4::B5::B6::B7::B8::B9::B10::B11::A::L) (B0::B1::B2::B3::B4::B5::B6::B7::B8::B9::B10::B11::L):=.there (.there (.there (.there (.there (.there (.there (.there (.there (.there (.there (.there (.here))))))))))))
end Go.Proofs
namespace Go.Proofs
open Go Go.SL
def uAa{p q:Prop}(h:q)(k:Wq q->p:=by intro h;refine aV (aQ cL bT) ?_;exact h.w):p:=k ⟨h⟩
def uAb{p q:Prop}(h:q)(k:Wq q->p:=by intro h;refine aA (bU (k:=(aZ 9)) Y xAC Y aL) Y ?_;exact h.w):p:=k ⟨h⟩
def uAc{p q:Prop}(h:q)(k:Wq q->p:=by intro h;refine aV (.cons .here (.cons (.there (.there .here)) (.cons (.there (.there (.there (.there (.there (.there .here)))))) (.cons (.there (.there .here)) (.cons (.there (.there .here)) (.cons (.there (.there .here)) (.cons (.there (.there .here)) (.cons (.there (.there .here)) (.cons (.there (.there .here)) .nil))))))))) ?_;exact h.w):p:=k ⟨h⟩
def uAd{p q:Prop}(h:q)(k:Wq q->p:=by intro h;refine aV .nil ?_;exact h.w):p:=k ⟨h⟩
def uAe{p q:Prop}(h:q)(k:Wq q->p:=by intro h;refine aA (cE (o:=0) (k:=(aZ 9)) ts9 Y aL bZ Y) Y ?_;exact h.w):p:=k ⟨h⟩
def uAf{p q:Prop}(h:q)(k:Wq q->p:=by intro h;refine aV (.cons (.there .here) (.cons (.there .here) (.cons (.there .here) (.cons (.there .here) (.cons .here (.cons .here (.cons .here .nil))))))) ?_;exact h.w):p:=k ⟨h⟩
def uAg{p q:Prop}(h:q)(k:Wq q->p:=by intro h;refine aV (aQ cL (aQ cL bT)) ?_;exact h.w):p:=k ⟨h⟩
def uAh{p q:Prop}(h:q)(k:Wq q->p:=by intro h;refine cG (tO x9 xAP xAZ Y) Y ?_;exact h.w):p:=k ⟨h⟩
def uAi{p q:Prop}(h:q)(k:Wq q->p:=by intro h;refine aV (aQ jS (aQ cL bT)) ?_;exact h.w):p:=k ⟨h⟩
def uAj{p q:Prop}(h:q)(k:Wq q->p:=by intro h;refine aA (bU (k:=aZ 9) Y xAC Y aL) Y ?_;exact h.w):p:=k ⟨h⟩
def uAk{p q:Prop}(h:q)(k:Wq q->p:=by intro h;refine aA (dA yF qP cW) Y ?_;exact h.w):p:=k ⟨h⟩
def uAl{p q:Prop}(h:q)(k:Wq q->p:=by intro h;refine aJ Y Y (.none Y) Y Y (fP x9 Y Y Y Y Y aH aH) Y ?_;exact h.w):p:=k ⟨h⟩
def uAm{p q:Prop}(h:q)(k:Wq q->p:=by intro h;refine aV (aQ dQ (aQ dQ (aQ cL bT))) ?_;exact h.w):p:=k ⟨h⟩
def uAn{p q:Prop}(h:q)(k:Wq q->p:=by intro h;refine aV (aQ dQ (aQ cL bT)) ?_;exact h.w):p:=k ⟨h⟩
def uAo{p q:Prop}(h:q)(k:Wq q->p:=by intro h;refine aV (aQ jS (aQ cL (aQ cL bT))) ?_;exact h.w):p:=k ⟨h⟩
def uAp{p q:Prop}(h:q)(k:Wq q->p:=by intro h;refine aV (aQ cL (aQ dQ (aQ dQ bT))) ?_;exact h.w):p:=k ⟨h⟩
def uAq{p q:Prop}(h:q)(k:Wq q->p:=by intro h;refine aV (aQ cL (aQ cL (aQ cL bT))) ?_;exact h.w):p:=k ⟨h⟩
def uAr{p q:Prop}(h:q)(k:Wq q->p:=by intro h;refine aV (.cons .here .nil) ?_;exact h.w):p:=k ⟨h⟩
def uAs{p q:Prop}(h:q)(k:Wq q->p:=by intro h;refine cI ?_;refine uAa ?_;exact h.w):p:=k ⟨h⟩
def uAt{p q:Prop}(h:q)(k:Wq q->p:=by intro h;refine aA (bU (k:=(elB 5)) Y xAP Y aL) Y ?_;exact h.w):p:=k ⟨h⟩
def uAu{p q:Prop}(h:q)(k:Wq q->p:=by intro h;refine aA (cE (o:=0) (k:=(elB 5)) ts5 Y aL bZ Y) Y ?_;exact h.w):p:=k ⟨h⟩
def uAv{p q:Prop}(h:q)(k:Wq q->p:=by intro h;refine aV (aQ cL (aQ jS (aQ jS (aQ cL (aQ cL bT))))) ?_;exact h.w):p:=k ⟨h⟩
def uAw{p q:Prop}(h:q)(k:Wq q->p:=by intro h;refine aV (aQ dQ (aQ dQ bT)) ?_;exact h.w):p:=k ⟨h⟩
def uAx{p q:Prop}(h:q)(k:Wq q->p:=by intro h;refine aA (dA MT Hy (.cons Y Y Y (.skip (.cons .nil)) .nil)) Y ?_;exact h.w):p:=k ⟨h⟩
end Go.Proofs
end
section
namespace Go.Plain
section
variable{i:Nat}{α:Type}{s:List α}{c:α}{f:α->α}
def takeWhile_stop{α:Type}(p:α->Bool):∀(l:List α) (k:Nat),k<=l.length->(l.take k).all p=true->(∀c,l[k]?=some c->p c=false)->l.takeWhile p=l.take k
 | [],k,j,_,_=>by simp
 |x::l,0,_,_,h=>by simp[h x cD]
 |x::l,k+1,j,s,h=>by
  simp only[List.take_succ_cons,List.all_cons,Bool.and_eq_true]at s;simp only[List.takeWhile_cons,s.1,if_true,List.take_succ_cons];rw[takeWhile_stop p l k (by simpa using j) s.2 (fun c d=>h c (by simpa using d))]
def take_all_succ{p:α->Bool}{l:List α}{k:Nat}(d:l[k]?=some c)(h:(l.take k).all p=true)(hp:p c=true):(l.take (k+1)).all p=true:=by
 have j:k<l.length:=by
  rcases xAD k l.length with h|h
  ·exact h
  simp[List.getElem?_eq_none h]at d
 rw[xAK j,List.all_append,h];have:l[k]=c:=by simpa[List.getElem?_eq_getElem j]using d
 simp[this,hp]
def mp{α:Type}(f:α->α)(s:List α)(i:Nat):List α:=(s.take i).map f++s.drop i
def mp_zero(f:α->α)(s:List α):mp f s 0=s:=by simp[mp]
def mp_len(f:α->α)(s:List α)(i:Nat):(mp f s i).length=s.length:=by simp[mp];omega
def mp_end(f:α->α)(s:List α)(h:s.length<=i):mp f s i=s.map f:=by simp[mp,List.take_of_length_le h,List.drop_of_length_le h]
def mp_get(f:α->α)(s:List α)(i:Nat):(mp f s i)[i]?=s[i]?:=by
 unfold mp;rcases xAD i s.length with h|h
 ·rw[xBY gAG];simp only[List.length_map,List.length_take,List.getElem?_drop]
  congr 1;omega
 rw[xAH h,xAH];simp;omega
def mp_set(h:s[i]?=some c):(mp f s i).set i (f c)=mp f s (i+1):=by
 unfold mp;have p:i<s.length:=by
  rcases xAD i s.length with e|e
  ·exact e
  simp[List.getElem?_eq_none e]at h
 have d:s[i]=c:=by simpa[List.getElem?_eq_getElem p]using h
 have v:((s.take i).map f).length=i:=by simp;omega
 rw[List.set_append_right _ _ (by rw[v];exact xAG _),v,Nat.sub_self,xAV p,List.set_cons_zero,xAK p,List.map_append,d];simp
def mp_same(h:s[i]?=some c)(a:f c=c):mp f s i=mp f s (i+1):=by
 rw[<-mp_set h,a];have:=mp_get f s i;rw[h]at this
 apply List.ext_getElem?
 intro j;rw[List.getElem?_set];split
 ·rename_i e;subst e
  rw[this];split
  ·rfl
  rename_i b;rw[xAH aH]at this;cases this
 rfl
end
end Go.Plain
end
section
namespace Go.Syn
abbrev aP:=List UInt8
def gE(c:UInt8):Bool:=(decide (97<=(c|||32).toNat)&&decide ((c|||32).toNat<=122))||decide (c.toNat=95)
def fX(c:UInt8):Bool:=decide (48<=c.toNat)&&decide (c.toNat<=57)
def eS(c:UInt8):Bool:=gE c||fX c
abbrev Res(α:Type):=Except (Int×Int) α
def lN(s:aP):Nat->Nat->Res Nat
 |0,a=>.ok a
 |f+1,a=>
  match s[a]? with
  |none=>.ok a
  |some c=>
   if c.toNat=32\/c.toNat=9\/c.toNat=13\/c.toNat=10 then lN s f (a+1)
   else if c.toNat=35 then lN s f (a+((s.drop a).takeWhile fun c=>decide (¬c.toNat=10)).length)
   else if c.toNat=47 then
    if ((s[a+1]?).getD 0).toNat≠42 then .ok a
    else if Lib.index (s.drop (min (a+2) s.length)) [42,47]<0 then .error (2,a)
    else lN s f (a+2+(Lib.index (s.drop (min (a+2) s.length)) [42,47]).toNat+2)
   else .ok a
def skip(s:aP)(a:Nat):Res Nat:=lN s (s.length+1-a) a
section
variable{s:aP}{f i:Nat}{c:UInt8}
def tQ(h:s.length<=i):lN s (f+1) i=.ok i:=by simp only[lN];rw[xAH h]
def p8(d:s[i]?=some c)(h:c.toNat=32\/c.toNat=9\/c.toNat=13\/c.toNat=10):lN s (f+1) i=lN s f (i+1):=by simp only[lN,d];rw[x7 h]
def DW(d:s[i]?=some c)(h:c.toNat=35):lN s (f+1) i=lN s f (i+((s.drop i).takeWhile fun c=>decide (¬c.toNat=10)).length):=by
 simp only[lN,d];rw[x6 aH,x7 h]
def sT(d:s[i]?=some c)(h:c.toNat=47)(u:¬((s[i+1]?).getD 0).toNat=42):lN s (f+1) i=.ok i:=by
 simp only[lN,d];rw[x6 aH,x6 aH,x7 h,x7 u]
def FK(d:s[i]?=some c)(h:c.toNat=47)(u:((s[i+1]?).getD 0).toNat=42)(a:Lib.index (s.drop (min (i+2) s.length)) [42,47]<0):lN s (f+1) i=.error (2,i):=by
 simp only[lN,d];rw[x6 aH,x6 aH,x7 h,x6 (by simpa using u),x7 a]
def yP(d:s[i]?=some c)(h:c.toNat=47)(u:((s[i+1]?).getD 0).toNat=42)(a:¬Lib.index (s.drop (min (i+2) s.length)) [42,47]<0):
  lN s (f+1) i=lN s f (i+2+(Lib.index (s.drop (min (i+2) s.length)) [42,47]).toNat+2):=by
 simp only[lN,d];rw[x6 aH,x6 aH,x7 h,x6 (by simpa using u),x6 a]
def sS(d:s[i]?=some c)(h:¬(c.toNat=32\/c.toNat=9\/c.toNat=13\/c.toNat=10\/c.toNat=35\/c.toNat=47)):lN s (f+1) i=.ok i:=by
 simp only[lN,d];rw[x6 aH,x6 aH,x6 aH]
def Ip(d:s[i]?=some c)(h:c.toNat=35):0<((s.drop i).takeWhile fun c=>decide (¬c.toNat=10)).length/\i+((s.drop i).takeWhile fun c=>decide (¬c.toNat=10)).length<=s.length:=by
 have p:i<s.length:=by
  rcases xAD i s.length with h|h
  ·exact h
  simp[List.getElem?_eq_none h]at d
 have e:s[i]=c:=by simpa[List.getElem?_eq_getElem p]using d
 have b:=(List.takeWhile_sublist (fun c:UInt8=>decide (¬c.toNat=10)) (l:=s.drop i)).length_le;simp only[List.length_drop]at b;refine⟨?_,aH⟩
 rw[xAV p,e,xB5,x7 gAG];simp
end
def mA(j p a c:UInt8):UInt8:=if j.toNat<=c.toNat/\c.toNat<=p.toNat then c+a else c
def dY(s:aP):aP:=s.map (mA 65 90 32)
def qI(s:aP):aP:=s.map (mA 97 122 224)
def Ag(n:Int)(c:UInt8):Int:=if 2147483648<n*10+(c.toNat-48:Nat)then 2147483648 else n*10+(c.toNat-48:Nat)
def fG(s:aP)(a:Nat):aP:=(s.drop a).takeWhile fX
def j7(ds:aP):Int:=ds.foldl Ag 0
def numC(s:aP)(a:Nat):Nat:=((s[a+(fG s a).length]?).getD 0).toNat
def numN(s:aP)(a:Nat):Int:=if numC s a=77\/numC s a=109 then j7 (fG s a)*1024*1024 else if numC s a=75\/numC s a=107 then j7 (fG s a)*1024 else j7 (fG s a)
def numA(s:aP)(a:Nat):Nat:=if numC s a=77\/numC s a=109\/numC s a=75\/numC s a=107 then a+(fG s a).length+1 else a+(fG s a).length
def number(s:aP)(a:Nat)(wat:Int):Res (Nat×Int):=
 if eS ((s[numA s a]?).getD 0)=true then .error (2,wat)
 else if 2147483647<numN s a then .error (3,wat)
 else .ok (numA s a,numN s a)
def QT{n:Int}{c:UInt8}(h:0<=n/\n<=2147483648):0<=Ag n c/\Ag n c<=2147483648:=by
 unfold Ag;split<;>omega
def Kh(ds:aP):∀n:Int,0<=n/\n<=2147483648->0<=ds.foldl Ag n/\ds.foldl Ag n<=2147483648:=by
 induction ds with
 |nil=>intro n h;exact h
 |cons c ds w=>intro n h;exact w _ (QT h)
theorem tG(ds:aP):0<=j7 ds/\j7 ds<=2147483648:=Kh ds 0 aH
def vD{ds:aP}{i:Nat}{c:UInt8}(h:ds[i]?=some c):j7 (ds.take (i+1))=Ag (j7 (ds.take i)) c:=by
 have p:i<ds.length:=by
  rcases xAD i ds.length with e|e
  ·exact e
  simp[List.getElem?_eq_none e]at h
 have d:ds[i]=c:=by simpa[List.getElem?_eq_getElem p]using h
 rw[xAK p,d];simp[j7]
def Fo(s:aP)(a:Nat)(h:a<=s.length):a+(fG s a).length<=s.length:=by
 have:=(List.takeWhile_sublist fX (l:=s.drop a)).length_le;simp only[List.length_drop]at this;unfold fG;omega
def yK{α:Type}{p:α->Bool}:∀ {l:List α} {x:α},x∈l.takeWhile p->p x=true
 | [],x,h=>by simp at h
 |y::l,x,h=>by
  rw[xB5]at h;split at h
  ·rename_i t;rcases List.mem_cons.1 h with rfl|h
   ·exact t
   exact yK h
  simp at h
def QU{s:aP}{a i:Nat}{c:UInt8}(h:(fG s a)[i]?=some c):48<=c.toNat/\c.toNat<=57:=by
 have:=yK (x8 h)
 simpa[fX]using this
theorem GU(s:aP)(a:Nat)(h:a<=s.length):numA s a<=s.length:=by
 have b:=Fo s a h;unfold numA;split
 ·rename_i d;rcases xAD (a+(fG s a).length) s.length with e|e
  ·omega
  unfold numC at d;rw[xAH e]at d;simp at d
 exact b
def jA(s:aP)(wat:Int):Nat->Nat->aP->Res (Nat×aP)
 |0,_,_=>.error (2,wat)
 |f+1,a,acc=>
  if a<s.length/\((s[a]?).getD 0).toNat=34 then .ok (a+1,acc)
  else if ((s[a]?).getD 0).toNat=92 then
   if s.length<=a+1 then .error (2,wat)else jA s wat f (a+2) (acc++[(s[a+1]?).getD 0])
  else if s.length<=a then .error (2,wat)else jA s wat f (a+1) (acc++[(s[a]?).getD 0])
def quoted(s:aP)(a:Nat)(wat:Int):Res (Nat×aP):=jA s wat (s.length+1-a) (a+1) []
section
variable{s acc:aP}{wat:Int}{f i:Nat}
def BX(h:i<s.length)(d:((s[i]?).getD 0).toNat=34):jA s wat (f+1) i acc=.ok (i+1,acc):=by
 simp only[jA];rw[x7 ⟨h,d⟩]
def wB(u:¬(i<s.length/\((s[i]?).getD 0).toNat=34))(d:((s[i]?).getD 0).toNat=92)(h:¬s.length<=i+1):jA s wat (f+1) i acc=jA s wat f (i+2) (acc++[(s[i+1]?).getD 0]):=by
 simp only[jA];rw[x6 u,x7 d,x6 h]
def uR(u:¬(i<s.length/\((s[i]?).getD 0).toNat=34))(d:((s[i]?).getD 0).toNat=92)(h:s.length<=i+1):jA s wat (f+1) i acc=.error (2,wat):=by
 simp only[jA];rw[x6 u,x7 d,x7 h]
def uQ(u:¬(i<s.length/\((s[i]?).getD 0).toNat=34))(d:¬((s[i]?).getD 0).toNat=92)(h:¬s.length<=i):jA s wat (f+1) i acc=jA s wat f (i+1) (acc++[(s[i]?).getD 0]):=by
 simp only[jA];rw[x6 u,x6 d,x6 h]
def pN(u:¬(i<s.length/\((s[i]?).getD 0).toNat=34))(d:¬((s[i]?).getD 0).toNat=92)(h:s.length<=i):jA s wat (f+1) i acc=.error (2,wat):=by
 simp only[jA];rw[x6 u,x6 d,x7 h]
end
structure Word where
 kind:Nat
 s:aP
 n:Int
 at_:Int
def eF(c:UInt8):Bool:=decide (c.toNat=59\/c.toNat=44\/c.toNat=40\/c.toNat=41\/c.toNat=123\/c.toNat=125\/c.toNat=91\/c.toNat=93)
def lM(s:aP)(a:Nat):aP:=(s.drop a).takeWhile eS
def kM(s:aP)(a:Nat)(c:UInt8):Res (Nat×Word):=
 if eF c=true then .ok (a+1,⟨5,[c],0,a⟩)
 else if c.toNat=34 then
  match quoted s a a with
  | .error e=>.error e
  | .ok r=>.ok (r.1,⟨3,r.2,0,a⟩)
 else if c.toNat=58 then
  if gE ((s[a+1]?).getD 0)=true then .ok (a+1+(lM s (a+1)).length,⟨2,dY (lM s (a+1)),0,a⟩)
  else .error (2,a)
 else if gE c=true then .ok (a+(lM s a).length,⟨1,dY (lM s a),0,a⟩)
 else if fX c=true then
  match number s a a with
  | .error e=>.error e
  | .ok r=>.ok (r.1,⟨4,[],r.2,a⟩)
 else .error (2,a)
def next(s:aP)(a:Nat):Res (Nat×Word):=
 match skip s a with
 | .error e=>.error e
 | .ok b=>
  match s[b]? with
  |none=>.ok (b,⟨0,[],0,b⟩)
  |some c=>kM s b c
def VK{c:UInt8}(h:eF c=true):c.toNat<128:=by
 unfold eF at h;simp at h;omega
def dT(xs:List aP)(x:aP):Int:=match xs.findIdx? (fun y=>decide (x=y))with
 |some i=>i
 |none=> -1
def Pk{xs:List aP}{x:aP}{i:Nat}(h:∀j:Nat,j<i->xs[j]?≠some x)(a:xs[i]?=some x):dT xs x=i:=by
 have p:i<xs.length:=by
  rcases xAD i xs.length with b|b
  ·exact b
  simp[List.getElem?_eq_none b]at a
 have:xs.findIdx? (fun y=>decide (x=y))=some i:=by
  rw[xBE];refine⟨p,?_,?_⟩
  ·rw[x4 p]at a;simp at a;simp[a]
  intro j E;have:=h j E;rw[x4 aH]at this;simp at this ⊢;exact fun e=>this e.symm
 unfold dT;rw[this]
def Pm{xs:List aP}{x:aP}(h:∀j:Nat,j<xs.length->xs[j]?≠some x):dT xs x= -1:=by
 have:xs.findIdx? (fun y=>decide (x=y))=none:=by
  rw[List.findIdx?_eq_none_iff];intro y t;obtain⟨j,E,e⟩:=List.getElem_of_mem t;have:=h j E;rw[x4 E,e]at this;simp at this ⊢;exact fun e=>this e.symm
 unfold dT;rw[this]
def Ly(xs:List aP)(x:aP):0<=dT xs x↔x∈xs:=by
 unfold dT;cases h:xs.findIdx? (fun y=>decide (x=y))with
 |some i=>
  rw[xBE]at h;obtain⟨p,a,_⟩:=h;simp at a;simp only[Int.natCast_nonneg,true_iff];rw[a];exact List.getElem_mem p
 |none=>
  rw[List.findIdx?_eq_none_iff]at h
  constructor
  ·intro P;exact absurd P dD
  intro B;have:=h x B;simp at this
abbrev St:=Nat×Word
def take(s:aP)(st:St)(k:Nat)(d:List aP):Res (Word×St):=
 if st.2.kind≠k\/(d≠[]/\st.2.s∉d)then .error (4,st.2.at_)
 else match next s st.1 with
  | .error e=>.error e
  | .ok r=>.ok (st.2,r)
def eat(s:aP)(st:St)(x:aP):Res (Bool×St):=
 if st.2.kind=5/\st.2.s=x then
  match next s st.1 with
  | .error e=>.error e
  | .ok r=>.ok (true,r)
 else .ok (false,st)
def sign(s:aP)(st:St)(x:aP):Res St:=
 match take s st 5 [x]with
 | .error e=>.error e
 | .ok r=>.ok r.2
def text(s:aP)(st:St)(ff:aP->Int):Res (aP×St):=
 if st.2.kind=3/\ff st.2.s≠0 then .error (ff st.2.s,st.2.at_)
 else match take s st 3 []with
  | .error e=>.error e
  | .ok r=>.ok (r.1.s,r.2)
end Go.Syn
end
