/- Part 16 of what the proof stands on: walks and plain laws. Conditions: as each theorem says. -/
import Derived.Test.YthopmddkpdehiaaGreatDoorA14
import Derived.Test.YthopmddkpdehiaaGreatDoorA15
set_option linter.unusedVariables false
set_option linter.unusedSimpArgs false
set_option linter.defProp false
set_option maxRecDepth 4000
set_option maxHeartbeats 1000000
section
attribute [local irreducible] Go.SL.T Go.SL.OL Go.SL.D Go.SL.DL Go.SL.Ev Go.SL.Ef Go.SL.EfS
section
namespace Go.Syn
open Go Go.SL Go.Proofs
section
variable{K:Hl}{ns:List aP}{us:List Cell}{b:Nat}{W:Res (List aP×Tree)}{r r2:Res St}{t:Tree}
section
variable{s:aP}
def QInv(s:aP)(W:Res (List aP×Tree))(r:Res St)(ns:List aP):Prop:=match r with
 | .ok a=>∃f,mu s a<=f/\W=i8 s (reqF s (f+1) ns a)
 | .error e=>W=.error e
def Ru:ROk s (next s 0):=lC (r:=.ok (0,⟨0,[],0,0⟩)) ⟨⟨xAA _,xAA _⟩,.inr (xAA _)⟩
theorem Li:QInv s (gG s) (next s 0) []:=by
 grind [gG,QInv]
def OV{l:List aP}(h:ROk s r)(v:QInv s W r ns)(w:rK r=119)(C:rS r=mG)(Q:ROk s r2)(x:RV (bd (nx s r) fun st=>list s st (ffit 1)) l r2):QInv s W (rsig s 59 r2) (iW ns l)/\muR s (rsig s 59 r2)<muR s r:=by
 obtain⟨st,rfl⟩:=yL (r:=r) aH;obtain⟨f,E,A⟩:=v;have i:=(pO h.2).1 w;have B:st.2.s=mG:=by rw[<-C8 i];exact C
 simp only[reqF]at A;rw[x7 ⟨i,B⟩]at A;have b:RV (bd (next s st.1) fun st=>list s st (oneOf 6 sD)) l r2:=x;have j:=mC (s:=s) (c:=59) dD Q;rw[show (59:UInt8).toNat=59 from rfl]at j;rw[j];cases u:next s st.1 with
 |error e=>rw[u]at A b;cases (show r2=.error e from b);exact⟨A,Nat.succ_pos _⟩
 |ok q=>
  rw[u]at A b;have F:=(j1 h.1.1 aH u).1;have z:=fU h.1.1 u;have K:RV (list s q (oneOf 6 sD)) l r2:=b;simp only[]at A;cases d:list s q (oneOf 6 sD)with
  |error e=>rw[d]at A K;cases (show r2=.error e from K);exact⟨A,Nat.succ_pos _⟩
  |ok p=>
   rw[d]at A K;obtain⟨rfl,rfl⟩:=K.ok;have a:=nN z d
   show QInv s W (sign s p.2 [59]) _/\muR s (sign s p.2 [59])<_
   simp only[]at A;cases t:sign s p.2 [59]with
   |error e=>rw[t]at A;exact⟨A,Nat.succ_pos _⟩
   |ok y=>
    rw[t]at A;have N:=(Hh a.1.1 t).1;obtain⟨g,rfl⟩:∃g,f=g+1:=⟨f-1,aH⟩;exact⟨⟨g,aH,A⟩,by show mu s y+1<mu s st+1;omega⟩
def PEnd(W:Res (List aP×Tree))(ns:List aP)(t:Tree)(r:Res St):Prop:=match r with
 | .ok _=>W=.ok (ns,t)
 | .error e=>W=.error e
theorem S2(h:ROk s r)(p:QInv s W r ns)(j:¬(rK r=119/\rS r=mG))(b:ROk s r2)(hv:RV (bd r (block s ns 7)) t r2):PEnd W ns t (if rK r2=0 then r2 else rf (4,rW s r2) r2):=by
 cases r with
 |error e=>
  grind [rK,ROk,QInv,rS,mG,RV,bd,block,PEnd,rf,rW]
 |ok a=>
  grind [reqF,i8,RV,block,rK,ROk,QInv,rS,mG,bd,PEnd,rf,rW,pO,C8,V4]
end
def sF(K:Hl)(b:Nat)(q:List aP×Tree):Prop:=∃W P us,K b=some (bK [W,P] 242)/\Ksl (aZ 9) K W q.1/\Ksl (cC 333) K P us/\RR K q.2 us []
def sF.mono{a:Hl}{q:List aP×Tree}(h:sF K b q)(le:K.le a):sF a b q:=by
 obtain⟨W,P,us,c,d,l,z⟩:=h;exact⟨W,P,us,le _ _ c,d.mono le,l.mono le,z.mono le⟩
def HE (s : aP) (p : Value) (e a : Int) (K : Hl) : Prop := (600 < s.length /\ p = .pointer none /\ e = 1 /\ a = 0) \/ (s.length <= 600 /\ match gG s with
 | .error x=>p=.pointer none/\e=x.1/\a=x.2/\x.1≠0
 | .ok q=>e=0/\∃b,p=ptr b/\sF K b q)
theorem XT{s:aP}(c:s.length<=600)(h:PEnd (gG s) ns t r)(q:ROk s r)(A:¬rE r=0):HE s (.pointer none) (rE r) (rP r) K:=by
 cases r<;>grind [gG,PEnd,ROk,rE,HE,rP]
def aAP{s:aP}{nv P:Value}(c:s.length<=600)(h:PEnd (gG s) ns t r)(q:ROk s r)(A:¬ ¬rE r=0)(a:K b=some (bK [nv,P] 242))(u:Ksl (aZ 9) K nv ns)(hv:Ksl (cC 333) K P us)(d:RX K r t us []):HE s (ptr b) 0 0 K:=by
 obtain⟨e,rfl⟩:=WC q (xBH.1 A);refine .inr ⟨c,?_⟩
 rw[show gG s=.ok (ns,t)from h];exact⟨Y,b,Y,nv,P,us,a,u,hv,d⟩
def Ya{s:aP}{ws:List Cell}(h:RX K r t us ws):RX K (if rK r=0 then r else rf (4,rW s r) r) t us ws:=by
 split
 ·exact h
 cases r with
 |ok a=>trivial
 |error e=>trivial
end
end Go.Syn
end
section
namespace Go.Syn
open Go.SL Go.Proofs
open Go.Say (elems elemsC brL brO)
open Go.Cmp (gV cnt)
section
variable{W acc x:aP}{l:List (Tree×Tree)}{d i k:Nat}{o:Option Tree}{B:St->Res (Tree×St)}{b t u:Tree}
def OW(c:UInt8):(jL c).length<=2:=by unfold jL;split;decide;split;decide;simp
def Dn:∀l:aP,(l.flatMap jL).length<=2*l.length
 | []=>by simp
 |c::l=>by have:=Dn l;have:=OW c;rw[xB4,xAE,xBT];omega
def y9{s:aP}{c:UInt8}(h:s[i]?=some c):(s.take (i+1)).flatMap jL=(s.take i).flatMap jL++jL c:=by
 exact gGZ
def Dw{sep x:aP}:∀ {l:List aP},l≠[]->oC sep (l++[x])=oC sep l++sep++x
 | [],h=>absurd rfl h
 | [y],_=>rfl
 |y::z::l,_=>by
  have:=Dw (sep:=sep) (x:=x) (l:=z::l) cD
  show y++sep++oC sep ((z::l)++[x])=(y++sep++oC sep (z::l))++sep++x
  rw[this];simp
def X6{l:List aP}(h:l[0]?=some x):oC [44,32] ((l.take (0+1)).map gR)=gR x:=by
 rw[xA2,h];rfl
def X7{l:List aP}(p:0<i)(h:l[i]?=some x):oC [44,32] ((l.take (i+1)).map gR)=oC [44,32] ((l.take i).map gR)++[44,32]++gR x:=by
 have v:=(xAI.1 h).1;rw[xA2,h]
 show oC _ ((l.take i++[x]).map gR)=_
 rw[List.map_append];refine Dw fun e=>?_;have:=xAF List.length e;rw[xAW,xA6,List.length_nil]at this;omega
def prnE(d:Nat):List Tree->Bool->aP
 | [],_=>[]
 |t::l,f=>(if f=true then []else [44,32])++(prn t d true++prnE d l false)
theorem ME:∀ {l:Tree} {f:Bool},wf l 1=true->prn l d f=prnE d (elems l) f:=by
 intro l;induction l<;>grind [wf,prn,elems,prnE]
def WA{l:List Tree}(hd:l.drop i=u::l.drop (i+1))(P:i=0)(h:acc++prnE d (l.drop i) (decide (i=0))=W):(acc++prn u d true)++prnE d (l.drop (i+1)) (decide (i+1=0))=W:=by
 rw[<-h,hd,xAO P,xAQ (Nat.succ_ne_zero i)];simp[prnE]
def WB{l:List Tree}(hd:l.drop i=u::l.drop (i+1))(P:0<i)(h:acc++prnE d (l.drop i) (decide (i=0))=W):((acc++[44,32])++prn u d true)++prnE d (l.drop (i+1)) (decide (i+1=0))=W:=by
 rw[<-h,hd,xAQ (show ¬i=0 by omega),xAQ (Nat.succ_ne_zero i)];simp[prnE]
def lnE(d:Nat):List Tree->aP
 | []=>[]
 |c::l=>indC d++(prn c d true++[10])++lnE d l
theorem aAN:∀ {l:Tree} {f:Bool},wf l 3=true->prn l d f=lnE d (elemsC l):=by
 intro l;induction l<;>grind [wf,prn,elemsC,lnE]
def Iw{X:aP}{l:List Tree}(hd:l.drop i=u::l.drop (i+1))(a:X=acc++(indC d++(prn u d true++[10])))(h:acc++lnE d (l.drop i)=W):X++lnE d (l.drop (i+1))=W:=by
 rw[<-h,hd,a];simp[lnE]
def bdT(d:Nat)(b:Tree):aP:=[32,123,10]++(prn b (d+1) true++(indC d++[125]))
def brE(d:Nat)(o:Option Tree):List (Tree×Tree)->Bool->aP
 | [],_=>match o with
  |some b=>[32,101,108,115,101]++bdT d b
  |none=>[]
 |p::l,f=>(if f=true then [32]else [32,101,108,115,105,102,32])++(prn p.1 d true++(bdT d p.2++brE d o l false))
def aAM:∀ {l:Tree} {f:Bool},wf l 4=true->okT l=true->prn l d false=brE d (brO l) (brL l) false:=by
 intro l;induction l with
 |bnil=>intro f _ _;rfl
 |bcons t b l A i N=>
  intro f h q;simp[wf]at h;simp[okT]at q
  simp only[prn,brL,brO,brE];rw[N (f:=f) h.2.2 q.2.2];simp[bdT]
 |belse b l A i=>
  intro f h q;simp[wf]at h;simp[okT]at q
  simp only[prn,brL,brO,brE];have:prn l d false=[]:=by
   cases l with
   |bnil=>rfl
   |_=>first|(simp[wf]at h;done)|(have:=q.2.1;simp[gV]at this;done)
  rw[this];simp[bdT]
 |_=>intro f h;simp[wf]at h
def isBc:Tree->Bool
 | .bcons _ _ _=>true
 |_=>false
def S1{s:Tree}(h:wf s 4=true)(q:okT s=true)(r:isBc s=true):prn s d true=[105,102]++brE d (brO s) (brL s) true:=by
 cases s with
 |bcons t b l=>
  simp[wf]at h;simp[okT]at q
  simp only[prn,brL,brO,brE];rw[aAM (f:=true) h.2.2 q.2.2];simp[bdT]
 |_=>cases r
def brR(d:Nat)(o:Option Tree)(l:List (Tree×Tree))(k:Nat):aP:=if k<=l.length then brE d o (l.drop k) (decide (k=0))else []
def YE:brR d o l 0=brE d o l true:=by unfold brR;rw[x7 (xAA _)];rfl
theorem Q4(j:k=l.length):brR d (some b) l k=[32,101,108,115,101]++(bdT d b++brR d (some b) l (k+1)):=by
 grind [brR,brE]
def Xp{p:Tree×Tree}(hp:l[k]?=some p):brR d o l k=(if k=0 then [32]else [32,101,108,115,105,102,32])++(prn p.1 d true++(bdT d p.2++brR d o l (k+1))):=by
 have v:=(xAI.1 hp).1;unfold brR;rw[x7 (show k<=l.length by omega),x7 (show k+1<=l.length by omega),xAV v,(xAI.1 hp).2,xAQ (Nat.succ_ne_zero k)];simp only[brE,decide_eq_true_eq]
def Uz(j:k=l.length/\o=none\/l.length<k):brR d o l k=[]:=by
 unfold brR;rcases j with ⟨rfl,rfl⟩|h
 ·rw[x7 (xAG _),xAS (xAG _)];rfl
 rw[x6 aH]
def ifB:Tree->Bool
 | .iff s=>isBc s&&ifB s
 | .ccons c l=>ifB c&&ifB l
 | .bcons _ b l=>ifB b&&ifB l
 | .belse b l=>ifB b&&ifB l
 |_=>true
theorem Tu(h:ifB t=true):∀ {l:Tree},ifB l=true->ifB (l.snocC t)=true:=by
 intro l;induction l<;>grind [ifB,Tree.snocC]
theorem Ji(h:ifB b=true):∀ {l:Tree},ifB l=true->ifB (l.snocB o b)=true:=by
 intro l;induction l with
 |bcons t c l A i N=>intro v;simp only[ifB,Tree.snocB,Bool.and_eq_true]at v ⊢;exact⟨v.1,N v.2⟩
 |belse c l A i=>intro v;simp only[ifB,Tree.snocB,Bool.and_eq_true]at v ⊢;exact⟨v.1,i v.2⟩
 |_=>intro _;cases o<;>simp[Tree.snocB,mkB,ifB,h]
theorem Jh{l:Tree}(h:isBc l=true):isBc (l.snocB o b)=true:=by
 cases l with
 |bcons t c l=>rfl
 |_=>cases h
def IfA(T:St->Res (Tree×St)):Prop:=∀e r,T e=.ok r->ifB r.1=true
section
variable{s:aP}{needs:List aP}
theorem Gs(W:IfA B):IfA (kU s B):=by
 grind [kU,IfA]
theorem UF(W:IfA B){acc:Tree}(h:isBc acc=true)(b:ifB acc=true):IfA (l4 s B acc):=by
 grind [l4,ifB,IfA,Jh,Ji,Gs]
theorem Rj{T:St->Res (Tree×St)}(W:IfA B):∀ {f:Nat} {acc:Tree},isBc acc=true->ifB acc=true->IfA (iH s T B f acc):=by
 intro f;induction f with
 |zero=>intro acc _ _ e r h;cases h
 |succ f w=>
  intro acc a b e r h;simp only[iH]at h;split at h<;>grind [iH,IfA,Jh,Ji,Gs,UF]
def YJ{T:St->Res (Tree×St)}(W:IfA B):IfA (ifC s T B):=by
 intro a r h;unfold ifC at h;cases l:next s a.1 with
 |error e=>rw[l]at h;cases h
 |ok q=>
  rw[l]at h;simp only at h;cases z:T q with
  |error e=>rw[z]at h;cases h
  |ok t=>
   rw[z]at h;simp only at h;cases F:kU s B t.2 with
   |error e=>rw[F]at h;cases h
   |ok b=>rw[F]at h;exact Rj W Y (by simp[ifB,Gs W _ _ F]) _ _ h
theorem Pz{c:Tree}(d:ifB c=true):IfA (kT s c):=by
 grind [kT,IfA]
def Xl{k:Int}{ext:aP}{p:Int}:IfA (actC s needs k ext p):=by
 intro a r h;unfold actC at h;split at h
 ·cases h
 cases l:next s a.1 with
 |error e=>rw[l]at h;cases h
 |ok q=>
  rw[l]at h;simp only at h;cases z:take s q 3 []with
  |error e=>rw[z]at h;cases h
  |ok x=>
   rw[z]at h;simp only at h;cases F:sign s x.2 [59]with
   |error e=>rw[F]at h;cases h
   |ok y=>rw[F]at h;cases h;rfl
def U2{T:St->Res (Tree×St)}(W:IfA B){st:St}{r:Tree×St}(h:cmdD s needs T B st=some (.ok r)):ifB r.1=true:=by
  unfold cmdD at h;simp only at h
  repeat' split at h
  all_goals first
    |(cases h;done)
    |exact Pz Y st r (xA0 h)
    |exact Xl st r (xA0 h)
    |exact YJ W st r (xA0 h)
    | (have h := xA0 h
       unfold sR at h;split at h
       · cases h
       cases h;rfl)
theorem Nq{C:St->Option (Res (Tree×St))}(E:∀st r,C st=some (.ok r)->ifB r.1=true):∀ {f:Nat} {acc:Tree},ifB acc=true->IfA (j6 s C f acc):=by
 intro f;induction f<;>grind [j6,IfA,Tu]
def HJ:∀n,IfA (block s needs n)
 |0=>by
  intro e r h;unfold block at h;split at h
  ·cases h
  cases h;rfl
 |n+1=>fun e r h=>Nq (fun e r h=>U2 (HJ n) h) rfl e r h
end
def Sn{s:aP}{r:List aP×Tree}(h:gG s=.ok r):ifB r.2=true:=by
 unfold gG at h;cases c:next s 0 with
 |error e=>rw[c]at h;cases h
 |ok q=>
  rw[c]at h;simp only at h;unfold i8 at h;split at h
  ·cases h
  rename_i n u;cases a:block s n.1 7 n.2 with
  |error e=>rw[a]at h;cases h
  |ok b=>
   rw[a]at h;simp only at h;split at h
   ·cases h;exact HJ 7 _ _ a
   cases h
def sqE(l:List aP):aP:=l.flatMap fun x=>32::gR x
def Ty{l:List aP}(h:l[i]?=some x):sqE (l.take (i+1))=sqE (l.take i)++([32]++gR x):=by
 unfold sqE;exact gGZ
def LI:∀ {l:List aP},(∀x∈l,x.length<=600)->(sqE l).length<=1210*l.length
 | [],_=>by simp[sqE]
 |x::l,h=>by
  have:=LI (l:=l) fun y t=>h y (by simp[t])
  have a:=m5 x;have b:=h x cD;unfold sqE at this ⊢;rw[xB4,xAE,xBT,xBT];omega
theorem V6{K:Hl}{v:Cell}(g:wf t 2=true)(q:okT t=true)(l:sOk 600 t)(i:ifB t=true)(h:RR K t [v] []):∃b w av tag y P p,v=pcl b/\K b=some (cmO w av tag y P p)/\w.length<=8/\
    ((¬ w=txIf /\ ∃ xs,Ksl (aZ 9) K av xs /\ xs.length <= 2 /\ (∀ x ∈ xs,x.length <= 600) /\ 0 <= tag /\ tag <= 3 /\ ∀ d,prn t d true=w++(lQ tag++(sqE xs++[59]))) \/
     (w=txIf/\∃s xs ys,t=.iff s/\isBc s=true/\RR K s xs ys/\Ksl (cC 340) K y xs/\Ksl (cC 240) K P ys)):=by
  have c:∀K,Ksl (aZ 9) K nilS []:=fun K=>.inl ⟨none,0,rfl,rfl⟩
  cases t with
  |plain B=>
    obtain⟨_,b,p,e,j⟩:=h;cases e
    simp[okT]at q;refine⟨b,_,_,_,_,_,_,Y,j,?_,.inl ⟨?_,[],c K,cD,cD,by decide,by decide,fun d=>?_⟩⟩
    · rcases q with rfl|rfl<;>decide
    · rcases q with rfl|rfl<;>decide
    rcases q with rfl|rfl<;>rfl
  |act k a p=>
    obtain⟨_,b,av,e,f,j⟩:=h;cases e
    simp[okT]at q;have F:k=1\/k=2\/k=3\/k=4:=aH;refine⟨b,_,_,_,_,_,_,Y,j,?_,.inl ⟨?_,_,f,?_,?_,by decide,by decide,fun d=>?_⟩⟩
    · rcases F with rfl|rfl|rfl|rfl<;>decide
    · rcases F with rfl|rfl|rfl|rfl<;>decide
    · split<;>simp
    · grind [wf,okT,sOk,ifB,RR,txIf,Ksl,aZ,prn,lQ,sqE,isBc,cC]
    rcases F with rfl|rfl|rfl|rfl<;>simp[prn,actW,uA,lQ,sqE,pI,fO,gH,hU]
  |set_ n x t=>
    grind [okT,prn,sqE,sE,wf,sOk,ifB,RR,txIf,Ksl,aZ,lQ,isBc,cC]
  |iff s=>
    grind [ifB,wf,okT,sOk,RR,txIf,Ksl,aZ,prn,lQ,sqE,isBc,cC]
  |_=>simp[wf]at g
end
end Go.Syn
end
end
