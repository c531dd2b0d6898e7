/- Part 9 of what the proof stands on: walks and plain laws. Conditions: as each theorem says. -/
import Derived.Lib.IndexMore
import Derived.Lib.IndexBytes
import Derived.Test.YthopmddkpdehiaaGreatDoorA8
set_option linter.unusedVariables false
set_option linter.unusedSimpArgs false
set_option linter.defProp false
set_option maxRecDepth 4000
set_option maxHeartbeats 1000000
section
attribute [local irreducible] Go.SL.T Go.SL.OL Go.SL.D Go.SL.DL Go.SL.Ev Go.SL.Ef Go.SL.EfS
section
namespace Go.Proofs
open Go Go.SL Go.Syn Go.Mach Tryz
section
variable{o:Ins}
def xC(b a:Nat)(m:Msg)(hv pv:Value)(nm:Bool)(s:MS)(q:Value)(l:List (List UInt8))(K:Hl)(H:Glob K)(L:Ksl (aZ 9) K pv s.parts)(I:Ksl (aZ 9) K q l)(g:l.length<=1000000)(i:∀x∈l,x.length<=100000)(S:oX s.vars s.parts):
  Sp x3 250 [ptr b,q] K [mch b a m hv pv nm s] (Ret fun v d L'=>d=K/\L'=[sl false (aZ 9) v (l.map (cY nm s.vars s.parts)),mch b a m hv pv nm s]):=by
 refine LH ⟨_,func250,Y,Y⟩ fun p j f c=>?_;refine B1 (show Tks [_,_] _ _ from .cons .here (aQ jS bT)).sat (Hk (wO _ (Qv b a _ _ _ _ _ _ pv j s.pc nm s.vars f c s.parts q l K H L I g i S)) ?_)
 rintro e d L' ⟨N,⟨v,rfl,rfl,rfl⟩,rfl⟩;exact⟨[_,mch b a m hv pv nm s],[],fun h y=>fB (fun h y=>j8 (s:=s) h y) ((show Tks [_,_,_,_,_] _ []from .cons .here (aQ cL (aQ dQ (aQ dQ (aQ cL bT))))).sat h y),_,Y,Y,Y⟩
def xI{α β:Type}(g:α->List β){l:List α}{i:Nat}{x:α}(h:l[i]?=some x):(l.take (i+1)).flatMap g=(l.take i).flatMap g++g x:=by
 have p:i<l.length:=by
  rcases xAD i l.length with e|e
  ·exact e
  simp[List.getElem?_eq_none e]at h
 have d:l[i]=x:=by simpa[List.getElem?_eq_getElem p]using h
 rw[xAK p,d];simp
def vK{α β:Type}{g:α->List β}{n:Nat}(h:∀x,(g x).length<=n):∀l:List α,(l.flatMap g).length<=l.length*n
 | []=>by simp
 |x::l=>by simp only[List.flatMap_cons,List.length_append,List.length_cons,Nat.succ_mul];have:=vK h l;have:=h x;omega
def Ms(m:Msg)(n:aP):(kV m n).length<=1:=by unfold kV;split;simp;split<;>simp
def Wv{ex:aP->aP}{m:Msg}(h:o.op=8):iL ex m o=o.a.map ex:=by unfold iL;rw[x7 h]
def Wt{ex:aP->aP}{m:Msg}(h:o.op=6):iL ex m o=(o.a.map ex).flatMap fun n=>gU m (dY n):=by unfold iL;rw[x6 aH,x7 h]
def Wu{ex:aP->aP}{m:Msg}(h:o.op=7):iL ex m o=o.a.flatMap (kV m):=by unfold iL;rw[x6 aH,x6 aH,x7 h]
def Ws{ex:aP->aP}{m:Msg}(e:¬o.op=8)(G:¬o.op=6)(B:¬o.op=7):iL ex m o=[]:=by unfold iL;rw[x6 e,x6 G,x6 B]
def UG{m:Msg}{n:aP}(h:dY n=[102,114,111,109]):kV m n=[m.from_]:=by unfold kV;rw[x7 h]
def UI{m:Msg}{n:aP}(P:¬dY n=[102,114,111,109])(h:dY n=[116,111]):kV m n=[m.to_]:=by unfold kV;rw[x6 P,x7 h]
def UH{m:Msg}{n:aP}(P:¬dY n=[102,114,111,109])(h:¬dY n=[116,111]):kV m n=[]:=by unfold kV;rw[x6 P,x6 h]
structure MV where
 v:Value
 K:Hl
structure MW where
 i:Nat
 v:Value
 K:Hl
def JD(b p:Nat)(m:Msg)(hv pv:Value)(nm:Bool)(s:MS)(o:Ins)(av bv:Value)(E:Hl)(hg:Glob E)(L:Ksl (aZ 9) E pv s.parts)(P:Ksl (aZ 9) E av o.a)(hb:Ksl (aZ 9) E bv o.b)(z:Ksl hdEl E hv m.hs)(A:m.hs.length<=1000000)(jc:∀h∈m.hs,h.1.length<=1000000)(hl:o.a.length<=1000000)(G:∀x∈o.a,x.length<=100000)(S:oX s.vars s.parts):
  Sp x3 251 [ptr b,o4 o av bv] E [mch b p m hv pv nm s] (Ret fun v K' L'=>L'=[sl false (aZ 9) v (iL (cY nm s.vars s.parts) m o),mch b p m hv pv nm s]):=by
 obtain⟨sa,sn,sc,rfl⟩:=P.isSlice;obtain⟨ta,tn,tc,rfl⟩:=hb.isSlice;refine bL func251 Y ntmps251 Y Y fun F w=>?_;refine Z3 ?_;rintro _ K _ ⟨b3,rfl,rfl,rfl⟩ -;refine Z8 ?_;refine dU (fun(q:MV)=>K.le q.K) (fun q=>[(5,q.v)]) (fun q=>q.K) (fun q=>[sl false (aZ 9) q.v (iL (cY nm s.vars s.parts) m o),mch b p m hv pv nm s]) ?_ ?_
 ·refine ZD ?_;refine aX 12 Y (fun r=>Z5 ?_) (fun r=>Z6 ?_)
  ·refine bA Y Y (xC b p m hv pv nm s _ o.a _ hg L P hl G S) (.cons (.there .here) .nil) Y ?_;rintro _ K _ ⟨rfl,rfl⟩ -;refine Z6 ?_;refine aV (.cons .here (.cons .here .nil)) ?_;refine bG Y Y (by first|exact N|exact xAB _) ?_;rw[<-Wv (ex:=cY nm s.vars s.parts) (m:=m) r];exact⟨_,Y,Y⟩
  refine aX 18 Y (fun t=>Z5 ?_) (fun t=>Z6 ?_)
  ·refine bA Y Y (xC b p m hv pv nm s _ o.a _ hg L P hl G S) (.cons (.there .here) .nil) Y ?_;rintro nv K _ ⟨rfl,rfl⟩ -;have jd:∀x∈o.a.map (cY nm s.vars s.parts),x.length<=100000:=(by intro x l;obtain⟨y,hy,rfl⟩:=xBM.1 l;exact iP (G y hy));have jl:(o.a.map (cY nm s.vars s.parts)).length<=1000000:=(by simpa using hl)
   generalize g:o.a.map (cY nm s.vars s.parts)=d at*
   refine uAb ?_;refine Z4 ?_;refine l9 (.cons .here (.cons .here .nil)) ?_;refine eD (fun(q:MW)=>q.i<=d.length/\K.le q.K) (fun q=>[(0,ptr b),(5,q.v),(23,nv),(24,i64 d.length),(25,i64 q.i)]) (fun q=>q.K) (fun q=>[sl false (aZ 9) q.v ((d.take q.i).flatMap fun n=>gU m (dY n)),sl false (aZ 9) nv d,mch b p m hv pv nm s]) (fun q=>d.length-q.i) ⟨0,.slice none 0 0,K⟩ ⟨xAA _,xAB _⟩ (.cons 0 Y (.cons 5 Y (.cons 23 Y (.cons 24 Y (.cons 25 Y .nil))))) Y (eO (aZ 9)) ?_;intro ⟨i,v,K1⟩ ⟨O,N⟩;dsimp only at O N ⊢;have jb:=z.mono N;have ja:((d.take i).flatMap fun n=>gU m (dY n)).length<=1000000*1000000:=xAR (vK (n:=1000000) (fun x=>xAR (y7 m _) A) _) (xAU _ (by rw[xA6];omega));refine Z6 ?_;refine aX 26 Y (fun H=>?_) (fun H=>?_)
   ·have M:i<d.length:=aH;obtain⟨x,l⟩:∃x,d[i]?=some x:=⟨d[i]'M,x4 M⟩;refine Z6 ?_;refine aA (aW (k:=(aZ 9)) b0 Y aL Y Y (by first|assumption|omega)) Y ?_;refine uAe ?_;refine Z7 ?_;refine cH Y Y (jU _ _ (by have:=jd x (x8 l);omega)) Y ?_;refine bA Y Y (BQ b (dY x) _) .nil Y ?_;rintro _ K2 _ ⟨bx,bY,rfl,W,Q,rfl⟩ C;refine bA Y Y (No bx bY b p m hv pv nm s (dY x) _ _ _ W Q (jb.mono C) A jc aH) (.cons .here (.cons (.there .here) .nil)) Y ?_;rintro jp K3 _ rfl je;refine Z8 ?_;refine aV (.cons .here (.cons (.there .here) (.cons .here .nil))) ?_;refine cX ⟨i+1,_,_⟩ ⟨by (show i+1<=d.length);omega,x5 N (x5 C je)⟩ (by (show d.length-(i+1)<d.length-i);omega) (.cons 0 Y (.cons 5 Y (.cons 23 Y (.cons 24 Y (.cons 25 Y .nil))))) Y ?_;dsimp only;rw[xI _ l];exact fun _ h=>h
   have a:((d.take i).flatMap fun n=>gU m (dY n))=iL (cY nm s.vars s.parts) m o:=(by rw[xAJ aH,Wt t,g]);refine Z5 ?_
   (refine aV (.cons .here (.cons (.there .here) .nil)) ?_;exact cB ⟨v,K1⟩ N (.cons 5 Y .nil) Y (by rw[<-a];exact fun _ h=>h))
  refine aX 36 Y (fun B=>Z4 ?_) (fun B=>?_)
  ·refine uAb ?_;refine Z4 ?_;refine eD (fun(q:Nat×Value)=>q.1<=o.a.length) (fun q=>[(0,ptr b),(5,q.2),(39,.slice sa sn sc),(40,i64 o.a.length),(41,i64 q.1)]) (fun _=>K) (fun q=>[mch b p m hv pv nm s,sl false (aZ 9) q.2 ((o.a.take q.1).flatMap (kV m)),pt b3 (bK [i64 o.op,i64 o.n,i64 o.tag,.bool o.oct,.slice sa sn sc,.slice ta tn tc,i64 o.at_] 41)]) (fun q=>o.a.length-q.1) ⟨0,.slice none 0 0⟩ (xAA _) (.cons 0 Y (.cons 5 Y (.cons 39 Y (.cons 40 Y (.cons 41 Y .nil))))) Y (fun h z=>hO (eO (aZ 9) h (hO z))) ?_;intro ⟨i,v⟩ O;dsimp only at O ⊢;refine uZ fun av sv f c=>?_;have ja:((o.a.take i).flatMap (kV m)).length<=1000000*1:=xAR (vK (n:=1) (Ms m) _) (xAU _ (by rw[xA6];omega));refine Z6 ?_;refine aX 42 Y (fun I=>?_) (fun I=>?_)
   ·have M:i<o.a.length:=aH;obtain⟨x,l⟩:∃x,o.a[i]?=some x:=⟨o.a[i]'M,x4 M⟩;refine Z6 ?_;refine aA (aW (k:=(aZ 9)) b0 Y aL Y Y (by first|assumption|omega)) Y ?_;refine uAe ?_;refine Z6 ?_;refine cH Y Y (jU _ _ (by have:=G x (x8 l);omega)) Y ?_;refine Z9 ?_;refine aX 47 Y (fun e=>?_) (fun e=>?_)
    ·refine Z8 ?_;refine cG (bJ (z0:=[(str [])]) b0 tz9 Y Y Y Y (.cons Y Y Y (.cons .nil) .nil)) Y ?_;rintro _ K _ ⟨jj,rfl,rfl,rfl⟩ -;refine cG (dJ (k:=(aZ 9)) (ys:=[m.from_]) eE Y Y (.there (.there (.there (.there (.there .here))))) (fun w j=>dC xAC (SeesSl.at (k:=aZ 9) (.blk (.own .here) Y Y) j)) (by simp only[List.length_singleton];omega) (by simp only[List.length_singleton];omega)) Y ?_;rintro jf K _ ⟨rfl,rfl,jh⟩ -;refine Z9 ?_
     (refine aV (.cons (.there (.there .here)) (.cons (.there (.there .here)) (.cons (.there (.there .here)) (.cons (.there (.there .here)) (.cons .here (.cons (.there .here) .nil)))))) ?_;refine d8 (j8 (s:=s)) ?_;exact cX ⟨i+1,jf⟩ (by (show i+1<=o.a.length);omega) (by (show o.a.length-(i+1)<o.a.length-i);omega) (.cons 0 Y (.cons 5 Y (.cons 39 Y (.cons 40 Y (.cons 41 Y .nil))))) Y (by dsimp only;rw[xI _ l,UG e];exact fun _ h=>h))
    refine Z6 ?_;refine aX 58 Y (fun u=>Z8 ?_) (fun u=>?_)
    ·refine cG (bJ (z0:=[(str [])]) b0 tz9 Y Y Y Y (.cons Y Y Y (.cons .nil) .nil)) Y ?_;rintro _ K _ ⟨jk,rfl,rfl,rfl⟩ -;refine cG (dJ (k:=(aZ 9)) (ys:=[m.to_]) eE Y Y (.there (.there (.there (.there (.there .here))))) (fun w j=>dC xAC (SeesSl.at (k:=aZ 9) (.blk (.own .here) Y Y) j)) (by simp only[List.length_singleton];omega) (by simp only[List.length_singleton];omega)) Y ?_;rintro jg K _ ⟨rfl,rfl,ji⟩ -;refine Z9 ?_
     (refine aV (.cons (.there (.there .here)) (.cons (.there (.there .here)) (.cons (.there (.there .here)) (.cons (.there (.there .here)) (.cons .here (.cons (.there .here) .nil)))))) ?_;refine d8 (j8 (s:=s)) ?_;exact cX ⟨i+1,jg⟩ (by (show i+1<=o.a.length);omega) (by (show o.a.length-(i+1)<o.a.length-i);omega) (.cons 0 Y (.cons 5 Y (.cons 39 Y (.cons 40 Y (.cons 41 Y .nil))))) Y (by dsimp only;rw[xI _ l,UI e u];exact fun _ h=>h))
    refine Z8 ?_
    (refine d8 (j8 (s:=s)) ?_;exact cX ⟨i+1,v⟩ (by (show i+1<=o.a.length);omega) (by (show o.a.length-(i+1)<o.a.length-i);omega) (.cons 0 Y (.cons 5 Y (.cons 39 Y (.cons 40 Y (.cons 41 Y .nil))))) Y (by dsimp only;rw[xI _ l,UH e u,xAL];exact fun _ h=>h))
   have a:((o.a.take i).flatMap (kV m))=iL (cY nm s.vars s.parts) m o:=(by rw[xAJ aH,Wu B]);refine Z5 ?_
   (refine aV (.cons (.there (.there (.there (.there .here)))) (.cons .here (.cons .here (.cons .here (.cons .here .nil))))) ?_;exact cB ⟨v,K⟩ (xAB _) (.cons 5 Y .nil) Y (by rw[<-a];exact fun h z=>fB (fun h z=>j8 (s:=s) h z) z))
  refine Z2 ?_
  (refine aV (.cons (.there .here) .nil) ?_;exact cB ⟨.slice none 0 0,K⟩ (xAB _) (.cons 5 Y .nil) Y (by rw[Ws r t B];exact eO (aZ 9)))
 intro ⟨v,K1⟩ N;dsimp only at N ⊢;refine Z7 ?_;refine bG Y Y (by first|exact N|exact xAB _) ?_;exact⟨_,Y,Y⟩
end
end Go.Proofs
end
section
namespace Go.Proofs
open Go Go.SL Go.Syn Go.Mach Tryz
open R (Yl)
attribute [local semireducible] Go.SL.T Go.SL.OL Go.SL.D Go.SL.DL Go.SL.Ev Go.SL.Ef Go.SL.EfS in
def QL{E:Env}{x:Exit}{g:Fr}{K:Hl}{L:List Asn}{A:Asn}{Q:Post}(h:D E x g K L Q):D E x g K (A::L) Q:=fun a w f i=>h a w f i.drop
structure XI where
 i:Nat
 ds:List Nat
 K:Hl
def NO{m:Msg}{l:List aP}{x:aP}(a:x∈l)(h:gU m (dY x)=[]):lO m l=false:=by
 unfold lO;rw[List.all_eq_false];exact⟨x,a,by simp[h]⟩
def Kx{m:Msg}{l:List aP}(h:∀x∈l,gU m (dY x)≠[]):lO m l=true:=by
 unfold lO;rw[xB6];exact fun x a=>by simpa using h x a
def take_all_succ{α:Type}{p:α->Prop}{l:List α}{i:Nat}{x:α}(h:∀y∈l.take i,p y)(c:l[i]?=some x)(hp:p x):∀y∈l.take (i+1),p y:=by
 have b:i<l.length:=by
  rcases xAD i l.length with e|e
  ·exact e
  simp[List.getElem?_eq_none e]at c
 have d:l[i]=x:=by simpa[List.getElem?_eq_getElem b]using c
 rw[xAK b,d];intro y t;rcases xA5.1 t with a|a
 ·exact h y a
 rw[List.mem_singleton.1 a];exact hp
attribute [local semireducible] Go.SL.T Go.SL.OL Go.SL.D Go.SL.DL Go.SL.Ev Go.SL.Ef Go.SL.EfS in
def G8(b g:Nat)(m:Msg)(hv pv:Value)(nm:Bool)(s:MS)(lv:Value)(l:List aP)(H:Hl)(hg:Glob H)(jk:Ksl (aZ 9) H pv s.parts)(ji:Ksl (aZ 9) H lv l)(hh:Ksl hdEl H hv m.hs)(jh:m.hs.length<=1000000)(jf:∀h∈m.hs,h.1.length<=1000000)(hl:l.length<=1000000)(hs:∀x∈l,x.length<=100000)(jr:oX s.vars s.parts):
  Sp x3 151 [ptr b,lv] H [mch b g m hv pv nm s] (Ret fun v K' L'=>v=.bool (lO m (l.map (cY nm s.vars s.parts)))/\L'=[mch b g m hv pv nm s]):=by
 have jj:∀x∈l.map (cY nm s.vars s.parts),x.length<=100000:=(by intro x I;obtain⟨y,hy,rfl⟩:=xBM.1 I;exact iP (hs y hy));have ju:(l.map (cY nm s.vars s.parts)).length<=1000000:=by simpa using hl
 have B:=xC b g m hv pv nm s lv l H hg jk ji hl hs jr
 generalize l.map (cY nm s.vars s.parts)=c at*
 refine Jo func151 Y ntmps151 Y Y fun F w=>?_;refine aI (aC ?_);refine aA (aE Y) Y ?_;refine aG (aF ?_);refine Hr ?_;refine aI ?_;refine VS ?_;refine aF (aI ?_);refine aI (aC ?_);refine aA (aB Y) Y ?_;refine aA (aB Y) Y ?_;refine bA Y Y B (.cons .here .nil) Y ?_;rintro W K _ ⟨rfl,rfl⟩ -;refine uAb ?_;refine aA (aB Y) Y ?_;refine aG (aF ?_);refine bC ?_;refine VT (fun(q:XI)=>q.i<=c.length/\K.le q.K/\∀y∈c.take q.i,gU m (dY y)≠[]) (fun q=>q.ds.map mrk) (fun q=>[(0,ptr b),(9,W),(10,i64 c.length),(11,i64 q.i)]) (fun q=>q.K) (fun q=>sl false (aZ 9) W c::mch b g m hv pv nm s::q.ds.map dblk) (fun q=>c.length-q.i) ⟨0,[],K⟩ ⟨xAA _,xAB _,cD⟩ Y (.cons 0 Y (.cons 9 Y (.cons 10 Y (.cons 11 Y .nil)))) Y (fun _ h=>h) ?_;intro ⟨i,j,K1⟩ ⟨jg,N,B⟩;dsimp only at jg N B ⊢;have je:=hh.mono N;refine aI (aC ?_);refine aA (cP Y Y) Y ?_;refine aG (aF ?_);refine aI ?_;refine aX 12 Y (fun ja=>?_) (fun ja=>?_)
 ·have u:i<c.length:=aH;obtain⟨x,I⟩:∃x,c[i]?=some x:=⟨c[i]'u,x4 u⟩;refine aU ?_;refine aF (aI ?_);refine bC (aI ?_);refine aC ?_;refine aA (aW (k:=(aZ 9)) b0 Y aL Y Y (by first|assumption|omega)) Y ?_;refine uAe ?_;refine aA (aE Y) Y ?_;refine aG (aF ?_);refine aI (aI ?_);refine aC ?_;refine aA (aB Y) Y ?_;refine aA (aB Y) Y ?_;refine cH Y Y (jU _ _ (by have:=jj x (x8 I);omega)) Y ?_;refine bA Y Y (BQ b (dY x) _) .nil Y ?_;rintro _ K2 _ ⟨bx,bY,rfl,jc,jb,rfl⟩ G;refine aG (aF ?_);refine bC ?_;refine MP (RR:=fun r l d e S P=>e=.returned (.tuple #[])/\((gU m (dY x)=[]/\r.state=.ready/\r.pending=none/\P=mch b g m hv pv nm s::pt l (.loop r)::dblk d::sl false (aZ 9) W c::j.map dblk)\/(gU m (dY x)≠[]/\P=pt l (.loop (r.off (.exit 1)))::mch b g m hv pv nm s::dblk d::sl false (aZ 9) W c::j.map dblk))) Y (cM _) (fun r l d p E jl jp jq js jd=>?_) (fun r l d e K3 L3 hR O=>?_)
  ·refine B1 (M:=mch b g m hv pv nm s::pt l (.loop r)::dblk d::sl false (aZ 9) W c::j.map dblk) (Tks.sat (As:=[_,_,_,_]) (.cons (.there (.there (.there .here))) (.cons .here (.cons .here (.cons .here .nil))))) ?_;refine(Ar l bx bY b g m hv pv nm s (dY x) _ _ (fun C S P=>C=[]/\P=mch b g m hv pv nm s::pt l (.loop r)::dblk d::sl false (aZ 9) W c::j.map dblk) (fun C S P=>C≠[]/\P=pt l (.loop (r.off (.exit 1)))::mch b g m hv pv nm s::dblk d::sl false (aZ 9) W c::j.map dblk) jc jb (je.mono G) jh jf ⟨Y,Y⟩ ?_).mono ?_
   ·rintro C x1 S _ jv ⟨rfl,rfl⟩ jt;refine Un (Tks.sat (As:=[_,_]) (.cons (.there .here) (.cons .here .nil))) ?_;refine Nj (Xh (n:=21) (fr1:=[]) (R:=fun t K5 L5=>t=false/\L5=pt l (.loop (r.off (.exit 1)))::mch b g m hv pv nm s::dblk d::sl false (aZ 9) W c::j.map dblk) p jl Y js jd (fun F w Q hQ=>?_) (fun F w=>?_)) ?_
    ·rw[jp];exact fun a w f i=>Wj hQ a w (f.keep .nil) i
    ·rw[jq];refine J7 ?_;refine Wi ?_;refine gB Y ?_
     intro a w fo i;exact⟨_,_,i,xAB _,Y,Y⟩
    rintro t K5 _ ⟨rfl,rfl⟩;exact⟨_,fun _ h=>h,.inr ⟨Y,cD,Y⟩⟩
   rintro e S P ⟨v,rfl,rfl,le,h|⟨C,h1,h2,h3⟩⟩
   ·exact⟨Y,.inl ⟨h.1,p,E,h.2⟩⟩
   exact⟨Y,.inr ⟨fun e=>h2 (by rw[e]at h1;exact List.prefix_nil.1 h1),h3⟩⟩
  obtain⟨rfl,hR⟩:=hR;rcases hR with ⟨z,p,E,rfl⟩|⟨z,rfl⟩
  ·refine⟨_,r,mch b g m hv pv nm s::dblk d::sl false (aZ 9) W c::j.map dblk,Y,fun h=>hO,by rw[p];simp,?_⟩
   rw[E,xAL]
   show D ⟨x3,21,mrk d::j.map mrk,w,F⟩ _ _ _ _ _
   refine aM (aF ?_);refine aI (aC ?_);refine aA (aE Y) Y ?_;refine aG (aF ?_);refine bI ?_;refine aY ?_;refine aS ?_;refine aS ?_;refine aY ?_;refine aS ?_;refine pS ?_;refine d8 (Tks.sat (As:=[_,_]) (.cons (.there (.there .here)) (.cons .here .nil))) ?_;refine QL ?_;exact Gy (d::j) (L:=[mch b g m hv pv nm s]) Y Y (fun _ h=>AD (A:=[_]) h) (x5 N (x5 G O)) ⟨_,Y,by rw[NO (x8 I) z],rfl⟩
  refine⟨_,r.off (.exit 1),mch b g m hv pv nm s::dblk d::sl false (aZ 9) W c::j.map dblk,Y,fun h k=>k,cD,?_⟩
  rw[xAL]
  show T ⟨x3,21,mrk d::j.map mrk,w,F⟩ (.exit 1) _ _ _ _
  refine cO ?_;refine gB Y ?_;refine aO ?_;refine bE ?_;refine aF (aC ?_);refine aA (bR Y Y aH aH) Y ?_;refine aA (aB Y) Y ?_;refine aG ?_;exact QR ⟨i+1,d::j,_⟩ ⟨by (show i+1<=c.length);omega,x5 N (x5 G O),take_all_succ B I z⟩ (by (show c.length-(i+1)<c.length-i);omega) Y (.cons 0 Y (.cons 9 Y (.cons 10 Y (.cons 11 Y .nil)))) Y (Tks.sat (As:=[_,_]) (.cons (.there (.there .here)) (.cons .here .nil)))
 refine cO ?_;refine aO ?_;refine aO ?_;refine bE ?_;refine aF (aI ?_);refine aC ?_;refine aA (aE Y) Y ?_;refine aG (aF ?_);refine bI ?_;refine pS ?_;refine QL ?_;exact Gy j (L:=[mch b g m hv pv nm s]) Y Y (fun _ h=>AD (A:=[_]) h) N ⟨_,Y,by rw[Kx (by rw[xAJ aH]at B;exact B)],rfl⟩
def Rb(b c:Nat)(m:Msg)(hv pv:Value)(nm:Bool)(s:MS)(o:Ins)(av P:Value)(n:Int)(E:Hl)(H:Glob E)(L:Ksl (aZ 9) E pv s.parts)(j:Ksl (aZ 9) E av o.a)(r:Ksl (aZ 9) E P o.b)(y:Ksl hdEl E hv m.hs)(z:m.hs.length<=1000000)(f:∀h∈m.hs,h.1.length<=1000000)(v:o.a.length<=1000000)(t:∀x∈o.a,x.length<=100000)(S:oX s.vars s.parts):
  Sp x3 150 [ptr b,o4 o av P,i64 n] E [mch b c m hv pv nm s] (MI b c m hv nm (push s (lO m (o.a.map (cY nm s.vars s.parts))))):=by
 obtain⟨I,Q,C,rfl⟩:=j.isSlice;obtain⟨G,M,K,rfl⟩:=r.isSlice;refine bL func150 Y ntmps150 Y Y fun F w=>Z3 ?_;refine aCJ fun B=>Z7 ?_;refine bA Y Y (G8 b c m hv pv nm s _ o.a _ H L j y z f v t S) bQ Y ?_;rintro _ u _ ⟨rfl,rfl⟩ A;have a:=L.mono A;refine eC Y Y (nT b c m hv pv nm s (lO m (o.a.map (cY nm s.vars s.parts))) _) bQ Y (fun e p g l _ i=>?_) (fun q g=>?_)
 ·refine uAa ?_;refine cF (x5 A i) ?_;unfold MI;rw[g];exact gFO
 refine aCL ?_;have d:=hZ g;refine aG (uAa ?_);refine dG Y A ?_;unfold MI;rw[g];exact⟨_,Y,Y,pv,by rw[d];exact a,Y⟩
end Go.Proofs
end
section
namespace Go.Mach
open Go.Syn
theorem Av{α:Type}{f g:Nat->Option α}(h:∀e,f e=g e):∀n e,kL f n e=kL g n e:=by
 intro n;induction n<;>grind [kL]
theorem NU(w v k:aP):∀(f d i j:Nat),k.length+1-j<=f->k.length+1-j<=d->j<=k.length+1->iI w v k f i j=iI w v k d i j\/k.length<j:=by
 intro f;induction f with
 |zero=>intro d i j l p q;right;omega
 |succ f g=>
  intro d i j l p q;rcases xAD k.length j with E|E
  ·exact .inr E
  cases d with
  |zero=>right;omega
  |succ d=>
   left
   have M:∀a,j+1<=k.length->iI w v k f a (j+1)=iI w v k d a (j+1):=fun a y=>by
    rcases g d a (j+1) aH aH aH with h|h
    ·exact h
    omega
   have O:∀a,j+2<=k.length->iI w v k f a (j+2)=iI w v k d a (j+2):=fun a y=>by
    rcases g d a (j+2) aH aH aH with h|h
    ·exact h
    omega
   unfold iI;cases r:k[j]? with
   |none=>rfl
   |some c=>
    have x:j<k.length:=by
     rcases xAD j k.length with b|b
     ·exact b
     simp[List.getElem?_eq_none b]at r
    simp only[];split
    ·exact Av (fun e=>by rw[M e aH]) _ _
    cases v[i]?<;>grind
def gl(w v k:aP)(i j:Nat):Option (List aP):=iI w v k (k.length+1-j) i j
variable{w v k:aP}{i j:Nat}{c d x:UInt8}
def Xz(h:j=k.length):gl w v k i j=if i=v.length then some []else none:=by
 unfold gl;subst h
 rw[show k.length+1-k.length=0+1 from aH];unfold iI;rw[xAH (xAG _)]
theorem Ax(h:j<k.length):gl w v k i j=iI w v k ((k.length-(j+1)+1)+1) i j:=by
 unfold gl;congr 1;omega
theorem UP(d:k[j]?=some c)(h:j<k.length)(F:c.toNat=42):gl w v k i j=kL (fun e=>(gl w v k e (j+1)).map fun ps=>((w.take e).drop i)::ps) (v.length+1-i) i:=by
 grind [iI,gl,Ax,Av]
def UQ(d:k[j]?=some c)(h:j<k.length)(F:¬c.toNat=42)(p:v.length<=i):gl w v k i j=none:=by
 rw[Ax h];unfold iI;simp only[d];rw[x6 F,xAH p]
theorem aB2(d:k[j]?=some c)(h:j<k.length)(a:v[i]?=some x)(L:c.toNat=63):gl w v k i j=(gl w v k (i+1) (j+1)).map fun ps=>((w.take (i+1)).drop i)::ps:=by
 grind [iI,gl,Ax]
theorem Rz(a:k[j]?=some c)(h:j+1<k.length)(b:v[i]?=some x)(u:c.toNat=92)(hd:k[j+1]?=some d):gl w v k i j=if x=d then gl w v k (i+1) (j+2)else none:=by
 rw[Ax aH];unfold iI;simp only[a,b];rw[x6 aH,x6 aH,x7 u,hd]
 simp only[];split
 ·grind [gl,NU]
 rfl
theorem GF(d:k[j]?=some c)(h:j<k.length)(a:v[i]?=some x)(F:¬c.toNat=42)(L:¬c.toNat=63)(u:¬(c.toNat=92/\j+1<k.length)):gl w v k i j=if x=c then gl w v k (i+1) (j+1)else none:=by
 grind [iI,gl,Ax]
end Go.Mach
end
section
namespace Go.Proofs
open Go Go.SL Go.Syn Go.Mach Tryz
section
variable{e:Nat}{α:Type}{f:Nat->Option α}
def GM:KeyA x3 428:=⟨⟨3,underlying428,xAM,by kernel_rfl,by kernel_rfl,info_of_underlying xAM⟩⟩
def CK(w v k:List UInt8)(H:List EntA):Prop:=∀e∈H,gl w v k e.1.1 e.1.2=none
abbrev GlR(w v k:List UInt8)(i j:Nat)(l S:Nat)(ps:List (List UInt8))(H:List EntA)(K:Hl):Ending->Hl->List Asn->Prop:=Ret fun r c g=>c=K/\r=.bool (gl w v k i j).isSome/\∃b a d,CK w v k a/\(∀e∈a,e∈H\/j<=e.1.2)/\g=[pt l (bK [b] 39),sl false (aZ 9) b (ps++(gl w v k i j).getD []),pt S (mapA a d)]
structure GlK (w v k:List UInt8) (bd md bp bk bv bw bm:Nat) (K:Hl):Prop where
 hd:K bd=some (bK [.map (some md)] 427)
 hk:K bk=some (bK [str k] 9)
 hv:K bv=some (bK [str v] 9)
 hw:K bw=some (bK [str w] 9)
 hm:K bm=some (bK [.func (.func 306) #[] #[ptr bd,ptr bp,ptr bk,ptr bv,ptr bw,ptr bm]] 169)
def QS{w v k:List UInt8}{H:List EntA}{i j:Nat}(h:CK w v k H)(B:(i,j)∈H.map (fun x=>x.1)):gl w v k i j=none:=by
 obtain⟨e,A,O⟩:=xBM.1 B;have:=h e A;rw[O]at this;exact this
def NQ{n:Nat}(A:e<=n)(h:f e=none):kL f (n+1-e) e=kL f (n+1-(e+1)) (e+1):=by
 exact gHM
def KE{n:Nat}{x:α}(A:e<=n)(h:f e=some x):kL f (n+1-e) e=some x:=by
 exact gHM
def zY(j:Nat):((j:Int)+1)=((j+1:Nat):Int):=aH
def YF(j:Nat):((j:Int)+2)=((j+2:Nat):Int):=aH
def Th{A B:Asn}{z:Bool}{k:El α}{v:Value}{xs:List α}{L:List Asn}{n:Nat}{h:Hl}(d:Sat (A::B::sl z k v xs::L) h):(slTo v n).oneCell'=true:=by
 obtain⟨_,l,_,c,_,_⟩:=d;obtain⟨_,H,_,a,_,_⟩:=c;obtain⟨x,_,e,_,_,_⟩:=a;rcases e with ⟨rfl,_⟩|⟨b,f,j,w,rfl,_⟩<;>rfl
def KG(g v k:List UInt8)(bd md bp bk bv bw bm:Nat)(P:g.length=v.length)(hv:v.length<=1000000)(hk:k.length<=1000000):∀(n i j:Nat) (ps:List (List UInt8)) (H:List EntA) (c:Nat) (pv:Value) (K:Hl),k.length+1-j<=n->GlK g v k bd md bp bk bv bw bm K->i<=v.length->j<=k.length->ps.length<=j->CK g v k H->
    Sp x3 306 [i64 i,i64 j,ptr bd,ptr bp,ptr bk,ptr bv,ptr bw,ptr bm] K [pt bp (bK [pv] 39),sl false (aZ 9) pv ps,pt md (mapA H c)] (GlR g v k i j bp md ps H K):=by
  intro n;induction n with
  |zero=>intro i j ps H c pv K h1 h2 h3 h4;omega
  |succ n ih=>
    intro i j ps H c pv K hn hK hi hj qh t;obtain⟨kd,kk,kv,kw,km⟩:=hK;refine bL func306 Y ntmps306 Y Y fun F w=>Z9 ?_;refine aA (NN GM aBI Y Y) Y (Z1 ?_);refine aCJ fun S=>cA (cQ Hw Y Y Y bP (by first|(simp[Value.oneCell'];done)|exact fun c A=>El.one _ _ c A) (.cons (.cons .nil)) gAQ) ?_;refine aCK (Z7 ?_);refine aA (Ku underlying427 GM tv3 Y Y (by first|exact .own .here|exact .own (.there .here)|exact .own (.there (.there .here))|exact .own (.there (.there (.there .here)))|exact .own (.there (.there (.there (.there .here)))))) Y (ZC ?_);refine aX 26 Y (fun jf=>?_) (fun jf=>?_)
    · refine Z7 ?_;refine aV (aQ dQ (aQ dQ (aQ dQ bT))) (Z1 ?_);have jq:=QS t jf;exact⟨_,Y,Y,by rw[jq];rfl,pv,H,c,t,fun e h=>.inl h,by rw[jq];simp⟩
    refine Z5 ?_;refine uAb ?_;refine Z8 ?_;refine VU (fun(r:Option (List (List UInt8))) (u:Value) (L:List (List UInt8)) (b:List EntA) (N:Nat)=>gl g v k i j=r/\(∀C,r=some C->L=ps++C)/\(r=none->L.take ps.length=ps/\ps.length<=L.length)/\CK g v k b/\(∀e∈b,e∈H\/j+1<=e.1.2)) (fun r _ _ _ _=>[(2,ptr bd),(3,ptr bp),(11,ptr S),(14,i64 ps.length),(15,.bool r.isSome)]) (fun _ _ _ _ _=>K) (fun r u L b N=>[pt S (bK [i64 i,i64 j] 428),pt bp (bK [u] 39),sl false (aZ 9) u L,pt md (mapA b N)]) ?_ ?_
    · refine ZA ?_;refine aX 44 Y (fun jt=>?_) (fun jt=>?_)
      · refine Z8 ?_
        (have a := Xz (w := g) (v := v) (k := k) (i := i) (j := j) aH
         by_cases jr:i=v.length
         · (rw[x7 jr]at a;rw[show decide ((i:Int)=(v.length:Int))=true from xAO aH];exact nG (some []) pv ps H c ⟨a,(fun C h=>by cases h;simp),(fun h=>by cases h),t,(fun q p=>.inl p)⟩ bM Y a7)
         (rw[x6 jr]at a;rw[show decide ((i:Int)=(v.length:Int))=false from xAQ aH];exact nG none pv ps H c ⟨a,(fun C h=>by cases h),(fun _=>⟨xBG,xAG _⟩),t,(fun q p=>.inl p)⟩ bM Y a7))
      have z:j<k.length:=aH;obtain⟨c1,A⟩:∃c1,k[j]?=some c1:=⟨k[j]'z,x4 z⟩;refine Z9 ?_;refine aX 53 Y (fun ju=>Z7 ?_) (fun ju=>Z9 ?_)
      · refine Hp (fun(e:Nat) (W:Option (List (List UInt8))) (u:Value) (L:List (List UInt8)) (b:List EntA) (N:Nat) (_:Unit)=>(i<=e/\e<=v.length+1)/\(W=none->gl g v k i j=kL (fun e=>(gl g v k e (j+1)).map fun C=>((g.take e).drop i)::C) (v.length+1-e) e)/\(∀C,W=some C->gl g v k i j=some C/\L=ps++C)/\(W=none->L.take ps.length=ps/\ps.length<=L.length)/\CK g v k b/\(∀e∈b,e∈H\/j+1<=e.1.2)) (fun e W _ _ _ _ _=>[(0,i64 i),(1,i64 j),(2,ptr bd),(3,ptr bp),(4,ptr bk),(5,ptr bv),(6,ptr bw),(7,ptr bm),(11,ptr S),(14,i64 ps.length),(15,.bool W.isSome),(16,i64 e)]) (fun _ _ _ _ _ _ _=>K) (fun _ _ u L b N _=>[pt S (bK [i64 i,i64 j] 428),pt bp (bK [u] 39),sl false (aZ 9) u L,pt md (mapA b N)]) (fun e _ _ _ _ _ _=>v.length+1-e) i none pv ps H c () ⟨⟨xAG _,aH⟩,fun _=>UP A z aH,(fun C h=>by cases h),(fun _=>⟨xBG,xAG _⟩),t,(fun q p=>.inl p)⟩ bM Y a7 ?_;intro e W u L b N _ ⟨qg,jb,jc,jh,jg,P⟩;refine Z8 ?_;refine bV 63 Y (fun js=>Z3 ?_) (fun js=>?_)
        · refine aA gAB Y (Z3 ?_);refine dZ 66 Y (fun ja=>?_) (fun ja=>?_)
          · obtain rfl:W=none:=(by cases W with|none=>rfl|some q=>simp at ja);obtain⟨G,B⟩:=jh rfl;refine Z5 ?_;refine cN [7,8,9] [8,9] mixed gAD (aQ dQ (aQ dQ bT)) (Z2 ?_);refine aJ Y Y (.none Y) Y Y (mN (k:=aZ 9) (m:=ps.length) b0 Y (.there .here) (.there .here) Y Y B) Y (Z3 ?_);refine aJ Y Y (.none Y) Y Y (fP (m:=i) (n:=e) x9 Y Y Y Y Y aH aH) Y (s6 Y Y (.none Y) Y Y (bJ (z0:=[(str [])]) b0 tz9 Y Y Y Y cW) Y ?_);refine aCJ fun qe=>?_;refine⟨_,(show Tks _ _ _ from (aQ dQ (aQ dQ bT))).sat,?_⟩
            refine N8 Y Y (.none Y) Y (UD (fun h hh=>gS (sU (m:=ps.length) B) h ((show Tks [_] _ _ from .cons (.there .here) .nil).sat h hh)) (dJ (k:=(aZ 9)) (ys:=[((g.take e).drop i)]) eE Y Y .here (fun w j=>dC xAC (SeesSl.at (.blk aL Y Y) j)) (by rw[G];first|(simp;omega)|omega) (by rw[G];first|(simp;omega)|omega))) Y ?_;rintro qi K _ ⟨rfl,rfl,qb⟩ -;refine l7 Y Y (.none Y) Y (bW eL Y Y cR bP .zero Y) ?_;rintro _ K _ ⟨rfl,rfl⟩ -;refine Z2 ?_;rw[G];refine Z5 ?_;rw[zY j];refine bA Y Y (ih e (j+1) (ps++[((g.take e).drop i)]) b N _ _ aH ⟨kd,kk,kv,kw,km⟩ aH aH (by rw[xAE];simp only[List.length_singleton];omega) jg) bQ Y ?_;rintro _ K _ ⟨rfl,rfl,M,l,Q,s,f,rfl⟩ -;refine Z9 ?_;refine aV (aQ EI (aQ cL (aQ cL (aQ cL bT)))) ?_;rcases p:gl g v k e (j+1)with _|C
            · (refine rQ (e+1) none M (ps++[((g.take e).drop i)]++[]) l Q () ⟨⟨aH,aH⟩,(fun _=>by rw[jb rfl,NQ aH (by rw[p];rfl)]),(fun C h=>by cases h),(fun _=>⟨cD,cD⟩),s,(fun q I=>(f q I).elim (fun h=>P q h) (fun h=>.inr h))⟩ aH bM Y a7)
            (refine rQ (e+1) (some (((g.take e).drop i)::C)) M (ps++[((g.take e).drop i)]++C) l Q () ⟨⟨aH,aH⟩,(fun h=>by cases h),(fun jd h=>by cases h;exact⟨by rw[jb rfl,KE aH (by rw[p];rfl)],cD⟩),(fun h=>by cases h),s,(fun q I=>(f q I).elim (fun h=>P q h) (fun h=>.inr h))⟩ aH bM Y a7)
          refine Z5 ?_
          (exact nG W u L b N ⟨gCD,fun C h=>(jc C h).2,jh,jg,P⟩ bM Y a7)
        refine ZB ?_
        (exact nG W u L b N ⟨gCD,fun C h=>(jc C h).2,jh,jg,P⟩ bM Y a7)
      refine aX 83 Y (fun jv=>?_) (fun jv=>?_)
      · refine Z2 ?_
        (exact nG none pv ps H c ⟨UQ A z aH aH,(fun C h=>by cases h),(fun _=>⟨xBG,xAG _⟩),t,(fun q p=>.inl p)⟩ bM Y a7)
      obtain⟨x,hx⟩:∃x,v[i]?=some x:=⟨v[i]'(by omega),x4 aH⟩;refine Z9 ?_;refine aX 88 Y (fun jw=>?_) (fun jw=>Z7 ?_)
      · refine aI (cN [6,7,8] [7,8] mixed gAD (aQ dQ bT) (Z5 ?_));refine aJ Y Y (.none Y) Y Y (fP (m:=i) (n:=i+1) x9 Y Y Y Y Y aH aH) Y (s6 Y Y (.none Y) Y Y (bJ (z0:=[(str [])]) b0 tz9 Y Y Y Y cW) Y ?_);refine aCJ fun qf=>?_;refine⟨_,(show Tks _ _ _ from (aQ dQ bT)).sat,?_⟩
        refine N8 Y Y (.none Y) Y (dJ (k:=(aZ 9)) (ys:=[((g.take (i+1)).drop i)]) eE Y Y (.there (.there (.there .here))) (fun w j=>dC xAC (SeesSl.at (.blk aL Y Y) j)) gAH gAH) Y ?_;rintro qd K _ ⟨rfl,rfl,jz⟩ -;refine l7 Y Y (.none Y) Y (bW eL Y Y cR bP .zero Y) ?_;rintro _ K _ ⟨rfl,rfl⟩ -;refine Z8 ?_;rw[zY j,zY i];refine bA Y Y (ih (i+1) (j+1) (ps++[((g.take (i+1)).drop i)]) H c _ _ aH ⟨kd,kk,kv,kw,km⟩ aH aH (by rw[xAE];simp only[List.length_singleton];omega) t) bQ Y ?_;rintro _ K _ ⟨rfl,rfl,M,l,Q,s,f,rfl⟩ -;refine Z3 ?_
        (have a := aB2 (w := g) A z hx aH
         refine aV (aQ EI (aQ cL (aQ cL (aQ cL bT)))) ?_;rcases p:gl g v k (i+1) (j+1)with _|C
         · (rw[p]at a;exact nG none M (ps++[((g.take (i+1)).drop i)]++[]) l Q ⟨a,(fun C h=>by cases h),(fun _=>⟨cD,cD⟩),s,(fun q I=>(f q I).elim (fun h=>.inl h) (fun h=>.inr h))⟩ bM Y a7)
         (rw[p]at a;exact nG (some (((g.take (i+1)).drop i)::C)) M (ps++[((g.take (i+1)).drop i)]++C) l Q ⟨a,(fun jd h=>by cases h;simp),(fun h=>by cases h),s,(fun q I=>(f q I).elim (fun h=>.inl h) (fun h=>.inr h))⟩ bM Y a7))
      refine bV 112 Y (fun jj=>ZE ?_) (fun jj=>ZA ?_)
      · refine aX 107 Y (fun jl=>?_) (fun jl=>?_)
        · obtain⟨d,hd⟩:∃d,k[j+1]?=some d:=⟨k[j+1]'(by omega),x4 aH⟩;refine cN [14] [14] mixed gAD (cM _) (Z6 ?_);refine aJ Y Y (.none Y) Y Y (cJ x9 Y (j:=j+1) Y (zY j) hd) Y (Z2 ?_);refine eV 127 Y (fun jk=>Z5 ?_) (fun jk=>?_)
          · rw[YF j,zY i];refine eR Y (.on Y Y Y) Y Y Y (ih (i+1) (j+2) ps H c _ _ aH ⟨kd,kk,kv,kw,km⟩ aH aH aH t) bQ Y ?_;rintro _ K _ ⟨rfl,rfl,M,l,Q,s,f,rfl⟩ -;refine Z4 ?_
            (have y : x = d := xBJ.1 aH
             have a:=Rz (w:=g) A aH hx aH hd;rw[x7 y]at a;refine aV (aQ AR (aQ cL (aQ cL (aQ cL bT)))) ?_;rcases p:gl g v k (i+1) (j+2)with _|C
             · (rw[p]at a;exact nG none M (ps++[]) l Q ⟨a,(fun C h=>by cases h),(fun _=>⟨cD,cD⟩),s,(fun q I=>(f q I).elim (fun h=>.inl h) (fun h=>.inr aH))⟩ bM Y a7)
             (rw[p]at a;exact nG (some C) M (ps++C) l Q ⟨a,(fun jd h=>by cases h;simp),(fun h=>by cases h),s,(fun q I=>(f q I).elim (fun h=>.inl h) (fun h=>.inr aH))⟩ bM Y a7))
          refine ZA ?_
          (have y : ¬ x = d := (fun h => by subst h; omega)
           have a:=Rz (w:=g) A aH hx aH hd;rw[x6 y]at a;exact nG none pv ps H c ⟨a,(fun C h=>by cases h),(fun _=>⟨xBG,xAG _⟩),t,(fun q p=>.inl p)⟩ bM Y a7)
        refine cN [13] [13] mixed gAD (cM _) (Z8 ?_);refine eV 36 Y (fun je=>Z5 ?_) (fun je=>?_)
        · rw[zY j,zY i];refine eR Y (.on Y Y Y) Y Y Y (ih (i+1) (j+1) ps H c _ _ aH ⟨kd,kk,kv,kw,km⟩ aH aH aH t) bQ Y ?_;rintro _ K _ ⟨rfl,rfl,M,l,Q,s,f,rfl⟩ -;refine Z4 ?_
          (have y : x = c1 := xBJ.1 aH
           have a:=GF (w:=g) A z hx aH aH aH;rw[x7 y]at a;refine aV (aQ AR (aQ cL (aQ cL (aQ cL bT)))) ?_;rcases p:gl g v k (i+1) (j+1)with _|C
           · (rw[p]at a;exact nG none M (ps++[]) l Q ⟨a,(fun C h=>by cases h),(fun _=>⟨cD,cD⟩),s,(fun q I=>(f q I).elim (fun h=>.inl h) (fun h=>.inr h))⟩ bM Y a7)
           (rw[p]at a;exact nG (some C) M (ps++C) l Q ⟨a,(fun jd h=>by cases h;simp),(fun h=>by cases h),s,(fun q I=>(f q I).elim (fun h=>.inl h) (fun h=>.inr h))⟩ bM Y a7))
        refine ZA ?_
        (have y : ¬ x = c1 := (fun h => by subst h; omega)
         have a:=GF (w:=g) A z hx aH aH aH;rw[x6 y]at a;exact nG none pv ps H c ⟨a,(fun C h=>by cases h),(fun _=>⟨xBG,xAG _⟩),t,(fun q p=>.inl p)⟩ bM Y a7)
      refine cN [13] [13] mixed gAD (cM _) (Z8 ?_);refine eV 36 Y (fun je=>Z5 ?_) (fun je=>?_)
      · rw[zY j,zY i];refine eR Y (.on Y Y Y) Y Y Y (ih (i+1) (j+1) ps H c _ _ aH ⟨kd,kk,kv,kw,km⟩ aH aH aH t) bQ Y ?_;rintro _ K _ ⟨rfl,rfl,M,l,Q,s,f,rfl⟩ -;refine Z4 ?_
        (have y : x = c1 := xBJ.1 aH
         have a:=GF (w:=g) A z hx aH aH aH;rw[x7 y]at a;refine aV (aQ AR (aQ cL (aQ cL (aQ cL bT)))) ?_;rcases p:gl g v k (i+1) (j+1)with _|C
         · (rw[p]at a;exact nG none M (ps++[]) l Q ⟨a,(fun C h=>by cases h),(fun _=>⟨cD,cD⟩),s,(fun q I=>(f q I).elim (fun h=>.inl h) (fun h=>.inr h))⟩ bM Y a7)
         (rw[p]at a;exact nG (some C) M (ps++C) l Q ⟨a,(fun jd h=>by cases h;simp),(fun h=>by cases h),s,(fun q I=>(f q I).elim (fun h=>.inl h) (fun h=>.inr h))⟩ bM Y a7))
      refine ZA ?_
      (have y : ¬ x = c1 := (fun h => by subst h; omega)
       have a:=GF (w:=g) A z hx aH aH aH;rw[x6 y]at a;exact nG none pv ps H c ⟨a,(fun C h=>by cases h),(fun _=>⟨xBG,xAG _⟩),t,(fun q p=>.inl p)⟩ bM Y a7)
    intro r u L b N ⟨O,qa,jy,jp,ji⟩;refine Z4 ?_;refine aA gAB Y (Z2 ?_);refine dZ 136 Y (fun E=>?_) (fun E=>?_)
    · obtain rfl:r=none:=(by cases r with|none=>rfl|some q=>simp at E);obtain⟨G,B⟩:=jy rfl;have jx:(i,j)∉b.map (fun x=>x.1):=(by intro hm;obtain⟨e,he,e2⟩:=xBM.1 hm;rcases ji e he with h|h;exact jf (xBM.2 ⟨e,h,e2⟩);(rw[e2]at h;simp at h;omega));refine aI (nX (fun h hs=>Th (n:=ps.length) hs) fun qc=>Z3 ?_);refine aA (mN (k:=aZ 9) (m:=ps.length) b0 Y (.there (.there .here)) (.there (.there .here)) Y Y B) Y (Z6 ?_);refine cA (Yf underlying427 GM Y Y Y jx (by first|exact .here|exact .there .here|exact .there (.there .here)|exact .there (.there (.there .here)))) (aCK (Z9 ?_))
      (refine aV (aQ jS (aQ dQ (aQ dQ bT))) ?_;refine d8 (gS (sU (m:=ps.length) B)) ?_;rw[G];refine aV (aQ dQ (aQ cL (aQ cL bT))) ?_)
      refine Z1 ?_;exact⟨_,Y,Y,by simp[O],slTo u ps.length,b++[((i,j),N)],N+1,(fun e he=>by rcases xA5.1 he with h|h;exact jp e h;(simp at h;subst h;exact O)),(fun e he=>by rcases xA5.1 he with h|h;exact(ji e h).imp_right (fun h=>by omega);(simp at h;subst h;exact .inr (xAG _))),by simp[O]⟩
    obtain⟨C,rfl⟩:∃C,r=some C:=(by cases r with|none=>simp at E|some q=>exact⟨q,Y⟩);obtain rfl:=qa C rfl;refine Z9 ?_
    (refine aV (aQ dQ (aQ dQ (aQ dQ bT))) ?_)
    refine Z1 ?_;exact⟨_,Y,Y,by simp[O],u,b,N,jp,(fun e he=>(ji e he).imp_right (fun h=>by omega)),by simp[O]⟩
end
def q7(oct:Bool)(s:List UInt8):(gZ oct s).length=s.length:=by unfold gZ;split<;>simp[dY]
def UR(w k:List UInt8)(oct:Bool):glob w k oct=gl w (gZ oct w) (gZ oct k) 0 0:=by
 unfold glob gl;rw[q7];rfl
def NV(q a:List UInt8)(oct:Bool)(K:Hl)(L:q.length<=1000000)(I:a.length<=1000000):
  Sp x3 253 [str q,str a,.func (.func (Do oct)) #[] #[]] K [] (Ret fun v M L'=>∃pv,v=.tuple #[pv,.bool (glob q a oct).isSome]/\L'=[sl false (aZ 9) pv ((glob q a oct).getD [])]):=by
 refine bL func253 Y ntmps253 Y Y fun F w=>Z3 ?_;refine aCJ fun N=>Z8 ?_;refine cH Y Y (o3 oct q _ aH) Y (Z2 ?_);refine cH Y Y (o3 oct a _ aH) Y (Z1 ?_);refine aCJ fun y=>Z1 ?_;refine aCJ fun C=>Z6 ?_;refine cG tN Y (aCJ fun E=>Z1 ?_);refine aCJ fun f=>Z6 ?_;refine aCJ fun B=>Z5 ?_;refine aCJ fun P=>Z9 ?_;refine wR fun O p d=>yQ (aQ dQ bT) (wR fun S A g=>yQ (aQ jS bT) (wR fun Q i l=>yQ (aQ jS bT) (wR fun W j z=>yQ (aQ jS bT) (wR fun K5 s G=>?_))));have b:=s;have r:=x5 j b;have t:=x5 i r;have u:=x5 A t;have d:=u _ _ d;have g:=t _ _ g;have l:=r _ _ l;have z:=b _ _ z;refine kQ (eO (aZ 9)) (yQ (aQ dQ (aQ cL bT)) (aC (aA (aK Ew Y (.known d) Y) Y (bA Y Y (KG q (gZ oct q) (gZ oct a) f E B C y N P (q7 oct q).symm (by rw[q7];exact L) (by rw[q7];exact I) _ 0 0 [] [] 0 _ _ (xAG _) ⟨g,l,z,G,d⟩ (xAA _) (xAA _) (xAA _) (fun e h=>by cases h)) bQ Y ?_))));rintro _ K _ ⟨rfl,rfl,pv,es,c,H,x,rfl⟩ -;refine ZC ?_;refine aV (aQ dQ bT) (jK Y Y Y (x5 p u) ?_);rw[UR];exact⟨_,Y,pv,Y,Y⟩
section
variable{nm:Bool}{x y:aP}{o:Ins}{ks ps vs:List aP}{s:MS}{i j:Nat}{α:Type}{pv:Value}
def xV{k:El α}{b:Nat}{xs:List α}{n:Nat}{M:List Asn}(u:n=xs.length):∀h,Sat (pt b (bK (k.cs xs) k.e)::M) h->Sat (sl false k (.slice (some ⟨b,0,none⟩) n n) xs::M) h:=by
 subst u;rintro h ⟨a,l,s,v,hd,rfl⟩;refine⟨a,l,.inr ⟨b,xs.length,[],(0,0),Y,(fun h=>by cases h),xAG _,cD,.inl (xAG _),?_⟩,v,hd,Y⟩
 rw[xAL];exact s
def rT(o:Ins)(x:aP)(ks:List aP):Option (List aP):=nQ (fun k=>(gN o x k).map fun ps=>x::ps) ks
def n9{l:List α}{x:α}(a:l[i]?=some x):l.drop i=x::l.drop (i+1):=by
 have p:i<l.length:=by
  rcases xAD i l.length with e|e
  ·exact e
  simp[List.getElem?_eq_none e]at a
 have d:l[i]=x:=by simpa[List.getElem?_eq_getElem p]using a
 rw[xAV p,d]
def Fy(a:vs[i]?=some x):iJ o (vs.drop i) ks=(match rT o x ks with|some z=>some z|none=>iJ o (vs.drop (i+1)) ks):=by
 rw[n9 a];unfold iJ rT;rw[nQ]
 cases nQ (fun k=>(gN o x k).map fun ps=>x::ps) ks<;>rfl
def Oc(t:ks[j]?=some y)(h:gN o x y=some ps):rT o x (ks.drop j)=some (x::ps):=by
 rw[n9 t];unfold rT;rw[nQ,h];rfl
def R4(t:ks[j]?=some y)(h:gN o x y=none):rT o x (ks.drop j)=rT o x (ks.drop (j+1)):=by
 rw[n9 t];unfold rT;rw[nQ,h];rfl
def Ob(h:ks.length<=j):rT o x (ks.drop j)=none:=by rw[xAS h];rfl
def RG(h:vs.length<=j):iJ o (vs.drop j) ks=none:=by rw[xAS h];rfl
def aBU(h:o.tag=1):gN o x y=if decide (gZ o.oct x=gZ o.oct y)=true then some []else none:=by unfold gN;rw[x7 h];simp
def Y5(h:o.tag=2):gN o x y=if decide (0<=Lib.index (gZ o.oct x) (gZ o.oct y))=true then some []else none:=by unfold gN;rw[x6 aH,x7 h];simp
def H5(h:o.tag=3):gN o x y=glob x y o.oct:=by unfold gN;rw[x6 aH,x6 aH]
def Bp{m:Msg}(h:¬(1<=o.tag/\o.tag<=3/\s.stack.length<8)):matchI nm m o s=.error (12,s.pc):=by unfold matchI;rw[x6 h];rfl
def I3{m:Msg}(h:1<=o.tag/\o.tag<=3/\s.stack.length<8)(B:iJ o (iL (cY nm s.vars s.parts) m o) (o.b.map (cY nm s.vars s.parts))=none):matchI nm m o s=push s false:=by unfold matchI;rw[x7 h];simp only[B]
def I4{m:Msg}(h:1<=o.tag/\o.tag<=3/\s.stack.length<8)(B:iJ o (iL (cY nm s.vars s.parts) m o) (o.b.map (cY nm s.vars s.parts))=some ps):matchI nm m o s=push (if o.tag=3/\nm=true then {s with parts:=ps}else s) true:=by unfold matchI;rw[x7 h];simp only[B]
def MMI(nm:Bool)(o:Ins)(x y:aP)(s:MS)(pv:Value)(ok:Bool)(p:Value)(a:MS):Prop:=
 (ok=true/\∃ps,gN o x y=some ps/\a=(if o.tag=3/\nm=true then {s with parts:=x::ps}else s))\/(ok=false/\gN o x y=none/\s=a/\pv=p)
def XB(h:o.tag=1):MMI nm o x y s pv (decide (gZ o.oct x=gZ o.oct y)) pv s:=by
 unfold MMI;rw[aBU h]
 by_cases hd:gZ o.oct x=gZ o.oct y
 ·exact gHF
 exact gH4
def Vh(h:o.tag=2):MMI nm o x y s pv (decide (0<=Lib.index (gZ o.oct x) (gZ o.oct y))) pv s:=by
 unfold MMI;rw[Y5 h]
 by_cases hd:0<=Lib.index (gZ o.oct x) (gZ o.oct y)
 ·exact gHF
 exact gH4
def RM(h:o.tag=3)(H:(glob x y o.oct).isSome=false):MMI nm o x y s pv (glob x y o.oct).isSome pv s:=by
 unfold MMI;rw[H5 h];exact .inr ⟨H,by simpa using H,rfl,rfl⟩
def RN(h:o.tag=3):MMI false o x y s pv (glob x y o.oct).isSome pv s:=by
 unfold MMI;rw[H5 h];cases H:glob x y o.oct with
 |none=>exact .inr ⟨Y,Y,Y,Y⟩
 |some ps=>exact .inl ⟨Y,ps,Y,cD⟩
def Vi{p:Value}(h:o.tag=3)(H:(glob x y o.oct).isSome=true):MMI true o x y s pv (glob x y o.oct).isSome p {s with parts:=x::(glob x y o.oct).getD []}:=by
 unfold MMI;rw[H5 h];cases a:glob x y o.oct with
 |none=>rw[a]at H;cases H
 |some ps=>exact .inl ⟨Y,ps,Y,by rw[x7 ⟨h,rfl⟩];rfl⟩
def NT(w v k:aP):∀f i j ps,iI w v k f i j=some ps->ps.length<=f:=by
 intro f;induction f with
 |zero=>intro i j ps h;cases h
 |succ f b=>
  intro i j ps h;unfold iI at h;split at h
  ·split at h
   ·cases h;simp
   cases h
  split at h
  ·have L:∀n e,kL (fun e=>(iI w v k f e (j+1)).map fun ps=>((w.take e).drop i)::ps) n e=some ps->ps.length<=f+1:=by
    intro n;induction n with
    |zero=>intro e h;cases h
    |succ n c=>
     intro e h;unfold kL at h;split at h
     ·rename_i x a;cases h
      cases t:iI w v k f e (j+1)with
      |none=>rw[t]at a;cases a
      |some q=>rw[t]at a;cases a;have:=b _ _ _ t;simpa using this
     exact c _ h
   exact L _ _ h
  split at h
  ·cases h
  split at h
  ·cases t:iI w v k f (i+1) (j+1)with
   |none=>rw[t]at h;cases h
   |some q=>rw[t]at h;cases h;have:=b _ _ _ t;simpa using this
  split at h
  ·split at h
   ·have:=b _ _ _ h;omega
   cases h
  split at h
  ·have:=b _ _ _ h;omega
  cases h
def R0(x y:aP)(oct:Bool):((glob x y oct).getD []).length<=y.length+1:=by
 cases h:glob x y oct with
 |none=>simp
 |some ps=>exact NT _ _ _ _ _ _ _ h
structure MZ where
 i:Nat
 K:Hl
structure MM where
 ok:Bool
 K:Hl
 pv:Value
 s:MS
def I5(b C:Nat)(m:Msg)(hv pv:Value)(nm:Bool)(s:MS)(o:Ins)(v bv:Value)(n:Int)(K0:Hl)(hg:Glob K0)(L:Ksl (aZ 9) K0 pv s.parts)(ha:Ksl (aZ 9) K0 v o.a)(S:Ksl (aZ 9) K0 bv o.b)(hh:Ksl hdEl K0 hv m.hs)(jq:m.hs.length<=1000000)(jz:∀h∈m.hs,h.1.length<=1000000)(hl:o.a.length<=1000000)(hs:∀x∈o.a,x.length<=100000)(jp:o.b.length<=1000000)(jr:∀x∈o.b,x.length<=100000)(js:oX s.vars s.parts)
  (qf:∀x∈iL (cY nm s.vars s.parts) m o,x.length<=1000000):
  Sp x3 149 [ptr b,o4 o v bv,i64 n] K0 [mch b C m hv pv nm s] (MI b C m hv nm (matchI nm m o s)):=by
 have qc:∀x∈o.b.map (cY nm s.vars s.parts),x.length<=100000:=(by intro x hx;obtain⟨y,hy,rfl⟩:=xBM.1 hx;exact iP (jr y hy));have qp:(o.b.map (cY nm s.vars s.parts)).length<=1000000:=(by simpa using jp);have qq:(iL (cY nm s.vars s.parts) m o).length<=1000000*1000000:=by
  unfold iL;split
  ·simp;omega
  split
  ·exact xAR (vK (n:=1000000) (fun x=>xAR (y7 m _) jq) _) (xAU _ (by simpa using hl))
  split
  ·exact xAR (vK (n:=1) (Ms m) _) aH
  simp
 have qd:∀r,iJ o (iL (cY nm s.vars s.parts) m o) (o.b.map (cY nm s.vars s.parts))=r->iJ o ((iL (cY nm s.vars s.parts) m o).drop 0) (o.b.map (cY nm s.vars s.parts))=r:=fun r h=>h
 have ji:=fun(K:Hl) (hg:Glob K) (L:Ksl (aZ 9) K pv s.parts) (S:Ksl (aZ 9) K bv o.b)=>xC b C m hv pv nm s bv o.b K hg L S jp jr js
 have jt:=fun(K:Hl) (hg:Glob K) (L:Ksl (aZ 9) K pv s.parts) (ha:Ksl (aZ 9) K v o.a) (S:Ksl (aZ 9) K bv o.b) (hh:Ksl hdEl K hv m.hs)=>JD b C m hv pv nm s o v bv K hg L ha S hh jq jz hl hs js
 have jb:=I3 (nm:=nm) (m:=m) (o:=o) (s:=s);have jd:=fun ps=>I4 (nm:=nm) (m:=m) (o:=o) (s:=s) (ps:=ps)
 generalize qj:iL (cY nm s.vars s.parts) m o=vs at*
 generalize qh:o.b.map (cY nm s.vars s.parts)=ks at*
 clear qd;obtain⟨sa,sn,sc,rfl⟩:=ha.isSlice;obtain⟨ta,tn,tc,rfl⟩:=S.isSlice;refine bL func149 Y ntmps149 Y Y fun F w=>uZ fun av sv f c=>Z3 ?_;refine aCJ fun b4=>Z9 ?_;refine bV 18 Y (fun jv=>Z8 ?_) (fun jv=>?_)
 ·refine bV 23 Y (fun jw=>Z9 ?_) (fun jw=>?_)
  ·refine aA (bU Y xBP Y aL) Y (Z3 ?_);refine eC Y Y (rV ((s.stack.length:Int)<8) _ _ _ _ _ _ _ _ _ _ _ _ _) bQ Y (fun e p hu z _ l=>?_) (fun u0 hu=>?_)
   ·refine uAa ?_;refine Z2 ?_;have jj:¬((s.stack.length:Int)<8):=gC8;rw[x6 jj]at hu;cases hu
    have t:=Bp (nm:=nm) (m:=m) (s:=s) (o:=o) aH;unfold MI;rw[t];exact⟨z,Y,Y⟩
   refine aCL ?_;have jj:(s.stack.length:Int)<8:=xA3 (fun h=>by rw[x6 h]at hu;cases hu);have jk:1<=o.tag/\o.tag<=3/\s.stack.length<8:=⟨aH,aH,aH⟩;refine Si (As:=[_,_,_,_]) (aQ cL (aQ dQ (aQ dQ (aQ dQ bT)))) (kG (j8 (m:=m) (hv:=hv) (pv:=pv) (nm:=nm) (s:=s)) (Z6 ?_));refine cH Y Y (GD o.oct _) Y (Z8 ?_);refine bA Y Y (ji _ hg L S) bQ Y ?_;rintro P K _ ⟨rfl,rfl⟩ -;refine Z8 ?_;refine bA Y Y (jt _ hg L ha S hh) bQ Y ?_;rintro vv K1 _ rfl l;refine uAb ?_;refine Z4 ?_;refine eD (fun(q:MZ)=>q.i<=vs.length/\K.le q.K/\iJ o (vs.drop q.i) ks=iJ o vs ks) (fun q=>[(0,ptr b),(4,ptr b4),(6,.func (.func (Do o.oct)) #[] #[]),(7,P),(41,vv),(42,i64 vs.length),(43,i64 q.i)]) (fun q=>q.K) (fun _=>[sl false (aZ 9) vv vs,mch b C m hv pv nm s,sl false (aZ 9) P ks,pt b4 (bK [i64 o.op,i64 o.n,i64 o.tag,.bool o.oct,.slice sa sn sc,.slice ta tn tc,i64 o.at_] 41)]) (fun q=>vs.length-q.i) ⟨0,K1⟩ ⟨xAA _,l,by rw[xBX]⟩ bM Y a7 ?_;intro ⟨i,K2⟩ ⟨qa,W,G⟩;dsimp only at qa W G ⊢;refine Z6 ?_;refine aX 44 Y (fun jx=>?_) (fun jx=>?_)
   ·have E:i<vs.length:=aH;obtain⟨x,hx⟩:∃x,vs[i]?=some x:=⟨vs[i]'E,x4 E⟩;have qr:=qf x (x8 hx);refine Z6 ?_;refine aA (aW (k:=(aZ 9)) b0 Y aL Y Y gAJ) Y (uAe ?_);refine Z6 ?_;refine uAb ?_;refine Z4 ?_;refine eD (fun(q:MZ)=>q.i<=ks.length/\K.le q.K/\rT o x (ks.drop q.i)=rT o x ks) (fun q=>[(0,ptr b),(4,ptr b4),(6,.func (.func (Do o.oct)) #[] #[]),(7,P),(9,str x),(41,vv),(42,i64 vs.length),(43,i64 i),(47,P),(48,i64 ks.length),(49,i64 q.i)]) (fun q=>q.K) (fun _=>[sl false (aZ 9) vv vs,mch b C m hv pv nm s,sl false (aZ 9) P ks,pt b4 (bK [i64 o.op,i64 o.n,i64 o.tag,.bool o.oct,.slice sa sn sc,.slice ta tn tc,i64 o.at_] 41)]) (fun q=>ks.length-q.i) ⟨0,K2⟩ ⟨xAA _,W,by rw[xBX]⟩ bM Y a7 ?_;intro ⟨j,K3⟩ ⟨qb,a,M⟩;dsimp only at qb a M ⊢;refine Z6 ?_;refine aX 50 Y (fun jy=>?_) (fun jy=>?_)
    ·have H:j<ks.length:=aH;obtain⟨y,hy⟩:∃y,ks[j]?=some y:=⟨ks[j]'H,x4 H⟩;have qs:=qc y (x8 hy);refine Z6 ?_;refine aA (aW (k:=(aZ 9)) b0 Y aL Y Y gAJ) Y (uAe ?_);refine Z8 ?_;refine dU (fun(q:MM)=>K.le q.K/\MMI nm o x y s pv q.ok q.pv q.s/\Ksl (aZ 9) q.K q.pv q.s.parts) (fun q=>[(0,ptr b),(4,ptr b4),(6,.func (.func (Do o.oct)) #[] #[]),(7,P),(9,str x),(12,.bool q.ok),(41,vv),(42,i64 vs.length),(43,i64 i),(47,P),(48,i64 ks.length),(49,i64 j)]) (fun q=>q.K) (fun q=>[mch b C m hv q.pv nm q.s,sl false (aZ 9) vv vs,sl false (aZ 9) P ks,pt b4 (bK [i64 o.op,i64 o.n,i64 o.tag,.bool o.oct,.slice sa sn sc,.slice ta tn tc,i64 o.at_] 41)]) ?_ ?_
     ·refine ZD ?_;refine aX 55 Y (fun jg=>Z3 ?_) (fun jg=>Z6 ?_)
      ·refine cH Y Y (o3 o.oct x _ aH) Y (Z2 ?_);refine cH Y Y (o3 o.oct y _ aH) Y (Z4 ?_)
       (refine aV (aQ dQ (aQ cL (aQ cL (aQ cL bT)))) ?_;exact cB ⟨decide (gZ o.oct x=gZ o.oct y),K3,pv,s⟩ ⟨a,XB jg,L.mono a⟩ bM Y a7)
      refine aX 64 Y (fun jh=>Z4 ?_) (fun jh=>Z6 ?_)
      ·refine cH Y Y (D3 x y o.oct _ (hg.mono a) aH aH) Y (Z3 ?_)
       (refine aV (aQ dQ (aQ cL (aQ cL (aQ cL bT)))) ?_;exact cB ⟨decide (0<=Lib.index (gZ o.oct x) (gZ o.oct y)),K3,pv,s⟩ ⟨a,Vh jh,L.mono a⟩ bM Y a7)
      refine aX 70 Y (fun N=>ZA ?_) (fun N=>?_)
      ·refine bA Y Y (NV x y o.oct _ aH aH) .nil Y ?_;rintro _ K4 _ ⟨gv,rfl,rfl⟩ u;have ql:=R0 x y o.oct;refine Z8 ?_;refine yQ (aQ jS bT) (uZ fun av sv f c=>Z3 ?_);refine kH 80 Y (fun A=>ZB ?_) (fun A=>?_)
       ·refine dZ 85 Y (fun O=>Z3 ?_) (fun O=>?_)
        ·refine cG (bJ (z0:=[(str [])]) b0 tz9 Y Y Y Y cW) Y ?_;refine aCJ fun qk=>Z1 ?_;refine kG (xV (k:=aZ 9) (xs:=[x]) Y) (cG (dJ (k:=(aZ 9)) (ys:=((glob x y o.oct).getD [])) eE Y Y .here (fun w j=>dC xAC (SeesSl.at (k:=aZ 9) aL j)) gBJ gBJ) Y ?_);rintro ju K _ ⟨rfl,rfl,qi⟩ -;refine Z5 ?_
         (refine iX fun K5 qg hK5=>?_;refine d8 (j8 (m:=m) (hv:=hv) (pv:=ju) (nm:=nm) (s:={s with parts:=x::(glob x y o.oct).getD []})) ?_;refine aV (aQ cL (aQ dQ (aQ dQ (aQ dQ bT)))) ?_;subst O;exact cB ⟨(glob x y o.oct).isSome,K5,ju,{s with parts:=x::(glob x y o.oct).getD []}⟩ ⟨x5 (x5 a u) qg,Vi N A,hK5⟩ bM Y a7)
        refine Z2 ?_
        (refine d8 (j8 (m:=m) (hv:=hv) (pv:=pv) (nm:=nm) (s:=s)) ?_;refine aV (aQ cL (aQ dQ (aQ dQ (aQ dQ bT)))) ?_;exact cB ⟨(glob x y o.oct).isSome,K4,pv,s⟩ ⟨x5 a u,by first|exact RM N A|(subst O;exact RN N),L.mono (x5 a u)⟩ bM Y a7)
       refine ZA ?_
       (refine d8 (j8 (m:=m) (hv:=hv) (pv:=pv) (nm:=nm) (s:=s)) ?_;refine aV (aQ cL (aQ dQ (aQ dQ (aQ dQ bT)))) ?_;exact cB ⟨(glob x y o.oct).isSome,K4,pv,s⟩ ⟨x5 a u,by first|exact RM N A|(subst O;exact RN N),L.mono (x5 a u)⟩ bM Y a7)
      exact absurd (show o.tag=3 by omega) N
     intro ⟨ok,K4,jf,s4⟩ ⟨d,ja,I⟩;dsimp only at d ja I ⊢;refine Z5 ?_;refine dZ 93 Y (fun Q=>?_) (fun Q=>?_)
     ·obtain⟨ps,je,qe⟩:∃ps,gN o x y=some ps/\s4=(if o.tag=3/\nm=true then {s with parts:=x::ps}else s):=(by rcases ja with ⟨_,h⟩|⟨h,_⟩;exact h;(rw[Q]at h;cases h));have g:matchI nm m o s=push s4 true:=(by rw[qe];exact jd (x::ps) jk (by rw[<-G,Fy hx,<-M,Oc hy je]));refine Z3 ?_;refine eC Y Y (nT b C m hv jf nm s4 true _) bQ Y (fun e p B z _ l=>?_) (fun q B=>?_)
      ·refine uAa ?_;refine ZA ?_;refine cF (x5 d l) ?_;unfold MI;rw[g,B];exact⟨z,Y,Y⟩
      refine aCL ?_;have jc:=hZ B;refine ZC ?_;refine uAa ?_;refine jJ Y (by first|exact d|exact W) ?_;unfold MI;rw[g,B];exact⟨_,Y,Y,jf,by rw[jc];exact I,Y⟩
     obtain⟨je,rfl,rfl⟩:gN o x y=none/\s=s4/\pv=jf:=(by rcases ja with ⟨h,_⟩|⟨_,h⟩;(rw[Q]at h;cases h);exact h);refine Z7 ?_;refine aV (aQ dQ (aQ cL (aQ cL (aQ cL bT)))) ?_;exact cX ⟨j+1,K4⟩ ⟨by (show j+1<=ks.length);omega,d,(R4 hy je).symm.trans M⟩ (by (show ks.length-(j+1)<ks.length-j);omega) bM Y a7
    have jl:rT o x ks=none:=(by rw[<-M];exact Ob aH);refine ZA ?_;exact cX ⟨i+1,K3⟩ ⟨by (show i+1<=vs.length);omega,a,by have h:=Fy (o:=o) (ks:=ks) hx;rw[jl]at h;exact h.symm.trans G⟩ gCO bM Y a7
   have g:matchI nm m o s=push s false:=jb jk (by rw[<-G];exact RG aH);refine Z7 ?_;refine eC Y Y (nT b C m hv pv nm s false _) bQ Y (fun e p B z _ l=>?_) (fun q B=>?_)
   ·refine uAa ?_;refine cF (x5 W l) ?_;unfold MI;rw[g,B];exact⟨z,Y,Y⟩
   refine aCL ?_;have jc:=hZ B;refine aG (uAa ?_);refine dG Y (by first|exact d|exact W) ?_;unfold MI;rw[g,B];exact⟨_,Y,Y,pv,by rw[jc];exact L.mono W,Y⟩
  have t:=Bp (nm:=nm) (m:=m) (s:=s) (o:=o) aH;refine Z7 ?_;refine dB Y Y (sM _ _ _ _ _ _ _ _ _ _ _ _ _) bQ Y gAE ?_ ?_
  ·rintro _ _ _ ⟨z,h,rfl⟩ l;cases h
   exact gHD
  exact gDD
 have t:=Bp (nm:=nm) (m:=m) (s:=s) (o:=o) aH;refine ZC ?_;refine dB Y Y (sM _ _ _ _ _ _ _ _ _ _ _ _ _) bQ Y gAE ?_ ?_
 ·rintro _ _ _ ⟨z,h,rfl⟩ l;cases h
  exact gHD
 exact gDD
end
end Go.Proofs
end
section
namespace Go.Mach
open Go.Syn
theorem Rt(s:aP):s.findIdx? (fun x=>decide (x=64))=if Lib.indexByte s 64<0 then none else some (Lib.indexByte s 64).toNat:=by
 split
 ·rename_i h;have a:=Lib.indexByte_ge s 64;have b:=Lib.indexByte_none (l:=s) (c:=64) aH;rw[List.findIdx?_eq_none_iff];intro x f;obtain⟨k,d⟩:=xA4 f;have:=b k;rw[d]at this
  exact gF0
 rename_i h;obtain⟨a,b⟩:=Lib.indexByte_some (l:=s) (c:=64) (o:=(Lib.indexByte s 64).toNat) aH;rw[xBE];have G:(Lib.indexByte s 64).toNat<s.length:=by
  rcases xAD (Lib.indexByte s 64).toNat s.length with e|e
  ·exact e
  rw[xAH e]at a;cases a
 rw[x4 G]at a;refine⟨G,by simpa using a,fun j E=>?_⟩
 have:=b j E;rw[x4 aH]at this
 exact gF0
theorem YB(s:aP):(s.any fun c=>decide (c=64))=decide (0<=Lib.index s [64]):=by
 rw[Lib.index_one];have a:=Lib.indexByte_ge s 64
 by_cases h:Lib.indexByte s 64<0
 ·have b:=Lib.indexByte_none (l:=s) (c:=64) aH;rw[xAQ aH,List.any_eq_false];intro x d;obtain⟨k,j⟩:=xA4 d;have:=b k;rw[j]at this
  exact gF0
 obtain⟨a,b⟩:=Lib.indexByte_some (l:=s) (c:=64) (o:=(Lib.indexByte s 64).toNat) aH;rw[xAO aH,List.any_eq_true];exact⟨64,x8 a,cD⟩
def ad(s:aP):Bool:=(Lib.cut s [64]).2.2&&(decide ((Lib.cut s [64]).1≠[])&&(decide ((Lib.cut s [64]).2.1≠[])&&(!(s.any fW)&&(!(decide (0<=Lib.index (Lib.cut s [64]).2.1 [64]))&&decide (s.length<=32)))))
theorem mX(s:aP):e8 s=ad s:=by
 unfold e8 ad Lib.cut;rw[Rt,Lib.index_one];by_cases h:Lib.indexByte s 64<0<;>grind [e8,ad,Rt,YB]
def Fa(c:UInt8):fW c=[32,9,13,10].contains c:=by
 unfold fW;rw[xCC];simp only[decide_eq_true_eq,List.contains_iff_mem,List.mem_cons,List.not_mem_nil,or_false]
 constructor
 ·rintro(h|h|h|h)
  ·left;exact gHL
  ·right;left;exact gHL
  ·right;right;left;exact gHL
  right;right;right;exact gHL
 rintro(h|h|h|h)<;>subst h<;>decide
def vQ:∀s:aP,decide (0<=Lib.indexAny s [32,9,13,10])=s.any fW
 | []=>rfl
 |b::l=>by
  have w:=vQ l;have H:=Lib.indexAny_ge [32,9,13,10] l;rw[Lib.indexAny,List.any_cons,Fa,<-w];cases h:[32,9,13,10].contains b with
  |true=>simp
  |false=>
   simp only[Bool.false_eq_true,if_false,Bool.false_or];split
   ·rename_i a;have:=beq_iff_eq.1 a;rw[this]
   rename_i a;have c:Lib.indexAny l [32,9,13,10]≠ -1:=fun e=>a gC4
   rw[xAO aH,xAO aH]
end Go.Mach
end
section
namespace Go.Proofs
open Go Go.SL Go.Syn Go.Mach Tryz
def ws:List UInt8:=[32,9,13,10]
def aBW{i:Nat}(h:i<4):∃c,ws[i]?=some c/\c.toNat<128:=by
 rcases(show i=0\/i=1\/i=2\/i=3 by omega)with rfl|rfl|rfl|rfl
 ·exact⟨32,Y,by decide⟩
 ·exact⟨9,Y,by decide⟩
 ·exact⟨13,Y,by decide⟩
 exact⟨10,Y,by decide⟩
def KK(s:List UInt8)(b:s.length<=8)(K:Hl):Sp x3 221 [str s,str ws] K [] (Ret fun v a L'=>∃n:Int,v=i64 n/\(0<=n↔s.any fW=true)/\a=K/\L'=[]):=by
 have e:(fun c=>ws.contains c)=fW:=by funext c;rw[Fa];rfl
 have:=HG ws dD dD s b K;rw[e]at this;exact this
def NZ(s:List UInt8)(p:s.length<=1000000)(K:Hl):Sp x3 221 [str s,str ws] K [] (Ret fun v d L'=>∃n:Int,v=i64 n/\(0<=n↔s.any fW=true)/\d=K/\L'=[]):=by
 rcases xAD 8 s.length with a|a
 ·have Q:(x3.info? 415).map (fun i=>(i.zero,i.size))=some (some (.agg (Array.replicate 256 (.bool false))),256):=cV
  refine(p9 (v:=i64 (Lib.indexAny s ws)) ⟨_,func221,Y,Y⟩ fun w q=>?_).mono ?_
  ·refine(Tryz.strings_IndexAny_long (zero_of_info Q).1 ⟨s.toArray⟩ ⟨ws.toArray⟩ w dD (by simpa[ByteArray.size]using a) (by simp[ByteArray.size];omega) dD ?_).mono fun e x ⟨A,g⟩=>⟨A,?_⟩
   ·intro j b E;have G:j<4:=kP (l:=ws) E;obtain⟨c,f,z⟩:=aBW G;have h:ws[j]?=some b:=E;rw[f]at h;cases h;exact z
   rw[g];exact((RowKit.Below.refl _ _).alloc (xAG _) _).alloc cD _
  rintro e d L' ⟨rfl,rfl,rfl⟩;have:=vQ s;exact⟨_,Y,_,Y,by rw[<-this];exact decide_eq_true_iff.symm,Y,Y⟩
 exact KK s a K
def Nx(s:List UInt8)(c:s.length<=1000000)(K:Hl):Sp x3 127 [str s,str ws] K [] (Val (.bool (s.any fW)) K):=by
 refine bL func127 Y ntmps127 Y Y fun F w=>Z9 ?_;refine bA Y Y (NZ s c _) .nil Y ?_;rintro _ K _ ⟨n,rfl,u,rfl,rfl⟩ -;refine Z5 ?_;refine uAd ?_;refine Z1 ?_;refine j4 ?_ _
 rw[xCC,<-u];simp
def Pr(s sep:List UInt8)(K:Hl)(H:Glob K)(c:s.length<4294967281):Sp x3 228 [str s,str sep] K [] (Val (.tuple #[str (Lib.cut s sep).1,str (Lib.cut s sep).2.1,.bool (Lib.cut s sep).2.2]) K):=by
 refine p9 ⟨_,func228,Y,Y⟩ fun w a=>?_;obtain⟨m,T,b,B⟩:=H.maxLen;refine(Tryz.strings_Cut ⟨s.toArray⟩ ⟨sep.toArray⟩ m w (by simpa[ByteArray.size]using c) (nK (a _ _ B) Y)).mono fun e x ⟨A,n,g⟩=>⟨A,?_⟩
 rw[g];exact⟨Y,Y,Y,xAG _,fun _ _=>Y⟩
def U9(s sep:List UInt8):(Lib.cut s sep).2.1.length<=s.length:=by
 unfold Lib.cut;split
 ·simp
 simp
def CR(s:List UInt8)(K:Hl)(H:Glob K)(d:s.length<=100000):Sp x3 256 [str s] K [] (Val (.bool (e8 s)) K):=by
 have c:=U9 s [64];refine bL func256 Y ntmps256 Y Y fun F w=>Z8 ?_;refine cH Y Y (Pr s [64] _ H aH) Y (ZD ?_);refine kH 13 Y (fun a=>Z6 ?_) (fun a=>ZQ ?_)
 ·refine bV 17 Y (fun N=>Z6 ?_) (fun N=>ZM ?_)
  ·refine bV 21 Y (fun r=>Z3 ?_) (fun r=>ZI ?_)
   ·refine cH Y Y (Nx s aH _) Y (Z1 ?_);refine aA gAB Y (Z2 ?_);refine kH 26 Y (fun g=>?_) (fun g=>?_)
    ·refine Z3 ?_;refine cH Y Y (Ac (Lib.cut s [64]).2.1 [64] _ H aH) Y (Z1 ?_);refine aA gAB Y (Z2 ?_);refine kH 31 Y (fun b=>?_) (fun b=>?_)
     ·refine ZB ?_;refine uAd ?_;refine Z1 ?_;refine j4 ?_ _
      rw[mX];unfold ad;have h:decide ((s.length:Int)<=32)=decide (s.length<=32):=gBZ
      generalize s.any fW=E at*
      by_cases t:0<=Lib.index (Lib.cut s [64]).2.1 [64]
      ·simp_all
      simp_all
     refine Z8 ?_;refine uAd ?_;refine Z1 ?_;refine j4 ?_ _
     rw[mX];unfold ad;have h:decide ((s.length:Int)<=32)=decide (s.length<=32):=gBZ
     generalize s.any fW=E at*
     by_cases t:0<=Lib.index (Lib.cut s [64]).2.1 [64]
     ·simp_all
     simp_all
    refine ZD ?_;refine uAd ?_;refine Z1 ?_;refine j4 ?_ _
    rw[mX];unfold ad;have h:decide ((s.length:Int)<=32)=decide (s.length<=32):=gBZ
    generalize s.any fW=E at*
    by_cases t:0<=Lib.index (Lib.cut s [64]).2.1 [64]
    ·simp_all
    simp_all
   refine uAd ?_;refine Z1 ?_;refine j4 ?_ _
   rw[mX];unfold ad;have h:decide ((s.length:Int)<=32)=decide (s.length<=32):=gBZ
   generalize s.any fW=E at*
   by_cases t:0<=Lib.index (Lib.cut s [64]).2.1 [64]
   ·simp_all
   simp_all
  refine uAd ?_;refine Z1 ?_;refine j4 ?_ _
  rw[mX];unfold ad;have h:decide ((s.length:Int)<=32)=decide (s.length<=32):=gBZ
  generalize s.any fW=E at*
  by_cases t:0<=Lib.index (Lib.cut s [64]).2.1 [64]
  ·simp_all
  simp_all
 refine uAd ?_;refine Z1 ?_;refine j4 ?_ _
 rw[mX];unfold ad;have h:decide ((s.length:Int)<=32)=decide (s.length<=32):=gBZ
 generalize s.any fW=E at*
 by_cases t:0<=Lib.index (Lib.cut s [64]).2.1 [64]
 ·simp_all
 simp_all
section
variable{nm:Bool}{o:Ins}{ps:List aP}{s t:MS}
structure MsgOk (m:Msg):Prop where
 hn:m.hs.length<=1000000
 hs:∀h∈m.hs,h.1.length<=100000/\h.2.length<=100000
 from_:m.from_.length<=100000
 to_:m.to_.length<=100000
structure InsOk (o:Ins):Prop where
 an:o.a.length<=1000000
 bn:o.b.length<=1000000
 a:∀x∈o.a,x.length<=100000
 b:∀x∈o.b,x.length<=100000
structure MInv (s:MS):Prop where
 stack:s.stack.length<=8
 acts:s.acts.length<=6
 vars:∀name,(vget s.vars name).length<=100000
 parts:∀x∈s.parts,x.length<=100000
def MInv.small(h:MInv s):oX s.vars s.parts:=by
 intro f;unfold held;split
 ·split
  ·rename_i c _;simp only[];cases hp:s.parts[c.toNat-48]? with
   |none=>simp
   |some x=>exact h.parts x (x8 hp)
  exact h.vars _
 exact h.vars _
def MInv.start:MInv Mach.start:=⟨by simp[Mach.start],by simp[Mach.start],fun _=>by simp[Mach.start,vget],by simp[Mach.start]⟩
def BD(k v f:aP):∀vars:List (aP×aP),vget (vput vars k v) f=if k=f then v else vget vars f
 | []=>by unfold vput vget;rfl
 |(j,u)::r=>by
  unfold vput
  by_cases h:j=k
  ·rw[x7 h];subst h
   unfold vget;split<;>rfl
  rw[x6 h];unfold vget;rw[BD k v f r]
  by_cases b:j=f
  ·rw[x7 b,x7 b,x6 (fun e=>h (by rw[b,e]))]
  rw[x6 b,x6 b]
def MInv.push{b:Bool}(h:MInv s)(hp:Mach.push s b=.ok t):MInv t:=by
 unfold Mach.push at hp;split at hp
 ·cases hp;exact⟨by simp;omega,h.acts,h.vars,h.parts⟩
 cases hp
def MInv.pop{r:Bool×MS}(h:MInv s)(hp:Mach.pop s=.ok r):MInv r.2:=by
 unfold Mach.pop at hp;split at hp
 ·cases hp;exact⟨by have:=h.stack;simp;omega,h.acts,h.vars,h.parts⟩
 cases hp
def MInv.jump{b:Int}{n:Nat}{a:Bool}(h:MInv s)(hp:Mach.jump s b n a=.ok t):MInv t:=by
 unfold Mach.jump at hp;split at hp
 ·cases hp;split
  ·exact⟨h.stack,h.acts,h.vars,h.parts⟩
  exact h
 cases hp
def Il(w v k:aP):∀f i j ps,iI w v k f i j=some ps->∀x∈ps,x.length<=w.length:=by
 have one:∀e i,((w.take e).drop i).length<=w.length:=by intro e i;simp;omega
 intro f;induction f with
 |zero=>intro i j ps h;cases h
 |succ f b=>
  intro i j ps h;have cons:∀e d y q,iI w v k f d y=q->q.map (fun ps=>((w.take e).drop i)::ps)=some ps->∀x∈ps,x.length<=w.length:=by
   intro e d y q g B;cases q with
   |none=>cases B
   |some r=>
    cases B
    intro x a;rcases List.mem_cons.1 a with rfl|a
    ·exact one _ _
    exact b _ _ _ g x a
  unfold iI at h;split at h
  ·split at h
   ·cases h;intro x a;cases a
   cases h
  split at h
  ·have L:∀n e,kL (fun e=>(iI w v k f e (j+1)).map fun ps=>((w.take e).drop i)::ps) n e=some ps->∀x∈ps,x.length<=w.length:=by
    intro n;induction n with
    |zero=>intro e h;cases h
    |succ n c=>
     intro e h;unfold kL at h;split at h
     ·rename_i x a;cases h
      exact cons _ _ _ _ Y a
     exact c _ h
   exact L _ _ h
  split at h
  ·cases h
  split at h
  ·exact cons _ _ _ _ Y h
  split at h
  ·split at h
   ·exact b _ _ _ h
   cases h
  split at h
  ·exact b _ _ _ h
  cases h
def vJ{α β:Type}{f:α->Option β}{y:β}:∀ {l:List α},nQ f l=some y->∃x∈l,f x=some y
 | [],h=>by cases h
 |x::l,h=>by
  unfold nQ at h;split at h
  ·rename_i z N;cases h;exact⟨x,cD,N⟩
  obtain⟨w,e,a⟩:=vJ h;exact⟨w,by simp[e],a⟩
def EL{x y:aP}(h:gN o x y=some ps):∀z∈ps,z.length<=x.length:=by
 unfold gN at h;split at h
 ·split at h
  ·cases h;intro z N;cases N
  cases h
 split at h
 ·split at h
  ·cases h;intro z N;cases N
  cases h
 exact Il _ _ _ _ _ _ _ h
def vX{vs ks:List aP}{n:Nat}(hv:∀x∈vs,x.length<=n)(h:iJ o vs ks=some ps):∀z∈ps,z.length<=n:=by
 obtain⟨v,W,a⟩:=vJ h;obtain⟨k,I,b⟩:=vJ a;cases g:gN o v k with
 |none=>rw[g]at b;cases b
 |some q=>
  rw[g]at b;cases b
  intro z N;rcases List.mem_cons.1 N with rfl|N
  ·exact hv _ W
  exact xAR (EL g z N) (hv _ W)
def Gm{vars:List (aP×aP)}{parts:List aP}{m:Msg}(B:MsgOk m)(q:InsOk o):∀x∈iL (cY nm vars parts) m o,x.length<=100000:=by
 intro x a;unfold iL at a;split at a
 ·obtain⟨y,t,rfl⟩:=xBM.1 a;exact iP (q.a y t)
 split at a
 ·exact gEP
 split at a
 ·obtain⟨y,_,t⟩:=List.mem_flatMap.1 a;unfold kV at t;split at t
  ·exact gH0
  split at t
  ·rw[List.mem_singleton]at t;subst t;exact B.to_
  cases t
 cases a
def MInv.matchI{m:Msg}(h:MInv s)(B:MsgOk m)(q:InsOk o)(hp:Mach.matchI nm m o s=.ok t):MInv t:=by
 unfold Mach.matchI at hp;split at hp
 ·simp only[]at hp;split at hp
  ·rename_i ps r;refine MInv.push ?_ hp
   split
   ·exact⟨h.stack,h.acts,h.vars,vX (Gm B q) r⟩
   exact h
  exact h.push hp
 cases hp
def MInv.setI(h:MInv s)(hp:Mach.setI nm o s=.ok t):MInv t:=by
 unfold Mach.setI at hp;split at hp
 ·split at hp
  ·cases hp
   refine⟨h.stack,h.acts,fun f=>?_,h.parts⟩
   simp only[BD];split
   ·simp;omega
   exact h.vars f
  cases hp
 cases hp
def MInv.actI(h:MInv s)(hp:Mach.actI nm o s=.ok t):MInv t:=by
 unfold Mach.actI at hp;split at hp
 ·simp only[]at hp;split at hp
  ·cases hp
  split at hp
  ·cases hp
  split at hp
  ·cases hp;exact⟨h.stack,h.acts,h.vars,h.parts⟩
  split at hp
  ·cases hp
  split at hp
  ·cases hp
  cases hp;exact⟨h.stack,by have:=h.acts;simp;omega,h.vars,h.parts⟩
 cases hp
def MInv.step{m:Msg}{n:Nat}(p:MInv s)(c:MsgOk m)(q:InsOk o)(h:Mach.step nm m n o s=.ok t):MInv t:=by
 unfold Mach.step at h
 by_cases P:o.op=1
 ·rw[x7 P]at h;split at h
  ·exact p.push h
  cases h
 rw[x6 P]at h
 by_cases a:o.op=2
 ·rw[x7 a]at h;split at h
  ·cases h
  rename_i r i;exact(p.pop i).push h
 rw[x6 a]at h
 by_cases b:o.op=3
 ·rw[x7 b]at h;exact p.jump h
 rw[x6 b]at h
 by_cases l:o.op=4
 ·rw[x7 l]at h;split at h
  ·cases h
  rename_i r i;exact(p.pop i).jump h
 rw[x6 l]at h
 by_cases z:o.op=5
 ·rw[x7 z]at h;split at h
  ·cases h
  rename_i r i;exact(p.pop i).jump h
 rw[x6 z]at h
 by_cases F:o.op=6\/o.op=7\/o.op=8
 ·rw[x7 F]at h;exact p.matchI c q h
 rw[x6 F]at h
 by_cases G:o.op=9
 ·rw[x7 G]at h;exact p.push h
 rw[x6 G]at h
 by_cases B:o.op=10
 ·rw[x7 B]at h;split at h
  ·exact p.push h
  cases h
 rw[x6 B]at h
 by_cases e:o.op=11
 ·rw[x7 e]at h;exact p.actI h
 rw[x6 e]at h
 by_cases j:o.op=12
 ·rw[x7 j]at h;exact p.setI h
 rw[x6 j]at h
 by_cases C:o.op=13
 ·rw[x7 C]at h;cases h;exact⟨p.stack,p.acts,p.vars,p.parts⟩
 rw[x6 C]at h;cases h
def fnOf(op:Int):Nat:=if op=1 then 141 else if op=2 then 143 else if op=3 then 145 else if op=4 then 147 else if op=5 then 148 else if op=9 then 150 else if op=10 then 152 else if op=11 then 153 else if op=12 then 154 else if op=13 then 155 else 149
def LK(b e:Nat)(m:Msg)(hv pv:Value)(nm:Bool)(s:MS)(o:Ins)(av P:Value)(n:Nat)(K:Hl)(t:1<=o.op/\o.op<=13)(H:Glob K)(L:Ksl (aZ 9) K pv s.parts)(a:Ksl (aZ 9) K av o.a)(r:Ksl (aZ 9) K P o.b)(y:Ksl hdEl K hv m.hs)(B:MsgOk m)(q:InsOk o)(d:MInv s)(hp:s.pc<1000)(u:n<1000):
  Sp x3 (fnOf o.op) [ptr b,o4 o av P,i64 n] K [mch b e m hv pv nm s] (MI b e m hv nm (Mach.step nm m n o s)):=by
 have W:s.stack.length<=100:=by have:=d.stack;omega
 have f:∀h∈m.hs,h.1.length<=1000000:=fun h y=>by have:=(B.hs h y).1;omega
 have G:∀x∈iL (cY nm s.vars s.parts) m o,x.length<=1000000:=fun x p=>by have:=Gm B q x p;omega
 unfold fnOf Mach.step
 by_cases g:o.op=1
 ·rw[x7 g,x7 g];exact QW b e m hv pv nm s o av P n K L a r
 rw[x6 g,x6 g]
 by_cases i:o.op=2
 ·rw[x7 i,x7 i];exact QX b e m hv pv nm s o av P n K L a r hp u W
 rw[x6 i,x6 i]
 by_cases l:o.op=3
 ·rw[x7 l,x7 l];exact QY b e m hv pv nm s o av P n K L a r hp u W
 rw[x6 l,x6 l]
 by_cases z:o.op=4
 ·rw[x7 z,x7 z];exact QZ b e m hv pv nm s o av P n K L a r hp u W
 rw[x6 z,x6 z]
 by_cases F:o.op=5
 ·rw[x7 F,x7 F];exact Ra b e m hv pv nm s o av P n K L a r hp u W
 rw[x6 F,x6 F]
 by_cases j:o.op=9
 ·rw[x7 j,x6 aH,x7 j];exact Rb b e m hv pv nm s o av P n K H L a r y B.hn f q.an q.a d.small
 rw[x6 j]
 by_cases C:o.op=10
 ·rw[x7 C,x6 aH,x6 j,x7 C];exact Rc b e m hv pv nm s o av P n K L a r
 rw[x6 C]
 by_cases E:o.op=11
 ·rw[x7 E,x6 aH,x6 j,x6 C,x7 E];exact Nl b e m hv pv nm s o av P n K H L a r q.a d.small d.acts (fun x K H p=>CR x K H p)
 rw[x6 E]
 by_cases c:o.op=12
 ·rw[x7 c,x6 aH,x6 j,x6 C,x6 E,x7 c];exact Px b e m hv pv nm s o av P n K H L a r q.b d.small
 rw[x6 c]
 by_cases M:o.op=13
 ·rw[x7 M,x6 aH,x6 j,x6 C,x6 E,x6 c,x7 M];exact Rd b e m hv pv nm s o av P n K L a r
 rw[x6 M,x7 aH];exact I5 b e m hv pv nm s o av P n K H L a r y B.hn f q.an q.a q.bn q.b d.small G
def Fp:List Cell:=⟨.nilFunc,rfl⟩::([1,2,3,4,5,6,7,8,9,10,11,12,13].map fun B=>(⟨.func (.func (fnOf B)) #[] #[],rfl⟩:Cell))++[⟨.nilFunc,rfl⟩]
def aAD:∀k:Fin 13,([1,2,3,4,5,6,7,8,9,10,11,12,13]:List Int)[k.1]?=some ((k.1:Int)+1):=by decide
def Re{op:Int}(h:1<=op/\op<=13):Fp[op.toNat]?=some ⟨.func (.func (fnOf op)) #[] #[],rfl⟩:=by
 obtain⟨n,u⟩:∃n:Nat,op.toNat=n+1:=⟨op.toNat-1,aH⟩;have G:n<13:=aH;have b:=aAD ⟨n,G⟩;simp only at b;have e:(n:Int)+1=op:=aH;rw[e]at b;unfold Fp;rw[u,List.cons_append,List.getElem?_cons_succ,xA8 (by simpa using G),xAT,b]
 rfl
def Kk(K:Hl):Sp x3 91 [] K [] (Ret fun v a L'=>Ksl (cC 184) a v Fp/\L'=[]):=by
 refine bL func91 Y ntmps91 Y Y fun F w=>Z7 ?_;refine cG (bJ (z0:=[.nilFunc,.nilFunc,.nilFunc,.nilFunc,.nilFunc,.nilFunc,.nilFunc,.nilFunc,.nilFunc,.nilFunc,.nilFunc,.nilFunc,.nilFunc,.nilFunc,.nilFunc]) Cj aBK Y Y Y Y cW) Y ?_;refine aCJ fun j=>Z4 ?_;refine fC fun b B u=>bG Y Y B ?_;exact⟨_,Y,.inr ⟨j,0,15,_,_,Y,⟨_,u⟩,Y⟩,Y⟩
end
end Go.Proofs
end
section
namespace Go.Proofs
open Go Go.SL Go.Syn Go.Mach Go.Cmp Tryz
section
variable{nm:Bool}{fr:Fr}{F K K0:Hl}{o:Ins}{e x:Int}{s:MS}{b b6 b8 f st:Nat}{w:World}
def SW(b6 b8:Nat)(K:Hl):SpD x3 89 [ptr b6,ptr b8] K [] .returning fun e u' a L'=>u'=.returning/\(e=.returned (.tuple #[])/\a=K/\L'=[]):=by
 refine Hj (rv:=.nilIface) (u':=.returning) func89 Y ntmps89 Y Y Y Y yN fun F w=>Z9 ?_;exact gDP
def SV(b6 b8 a:Nat)(d g:Value)(K:Hl):SpD x3 89 [ptr b6,ptr b8] K [pt b8 (bK [g] 79),pt b6 (bK [d] 29)] (.panicking [{v:=.iface 118 (ptr a),recovered:=false}])
  fun e u' b L'=>u'=.panicking [{v:=.iface 118 (ptr a),recovered:=true}]/\(e=.returned (.tuple #[])/\b=K/\∃O,L'=[pt b8 (bK [.iface 118 (ptr a)] 79),pt b6 (bK [.slice (some ⟨O,0,none⟩) 1 1] 29),pt O (bK [i64 1,str []] 34)]):=by
 refine Hj (rv:=.iface 118 (ptr a)) (u':=.panicking [{v:=.iface 118 (ptr a),recovered:=true}]) func89 Y ntmps89 Y Y Y Y yM fun F w=>ZA ?_;refine aA (jI xBZ (fun _ h=>by cases h) Y) Y (ZB ?_);refine aA gAB Y (Z6 ?_);refine aA (dA EP yR cW) Y ?_;refine cG (bJ (z0:=[.int .i64 0,(str [])]) jG E1 Y Y Y Y cW) Y ?_;refine aCJ fun E=>Z1 ?_;refine aA (eX xBZ (fun _ h=>by cases h) Y) Y (Z3 ?_);refine uAm ?_;refine Z1 ?_;exact⟨Y,Y,E,Y⟩
def ErrP(e:Option (Int×Int))(ev:Value)(M:List Asn):Prop:=match e with
 |none=>ev=.nilIface/\M=[]
 |some (e,p)=>∃w,ev=.iface 118 (ptr w)/\M=[pt w (bK [i64 e,i64 p] 123)]
def RunR(out:Out):Ending->Hl->List Asn->Prop:=Ret fun v K g=>∃a ev M,v=.tuple #[a,i64 out.steps,ev]/\g=sl true dI a out.acts::M/\ErrP out.err ev M
def Ti{α:Type}{k:El α}{xs:List α}{n:Nat}{M:List Asn}(c:xs≠[])(u:n=xs.length):∀h,Sat (pt b (bK (k.cs xs) k.e)::M) h->Sat (sl true k (.slice (some ⟨b,0,none⟩) n n) xs::M) h:=by
 subst u;rintro h ⟨a,l,s,v,hd,rfl⟩;refine⟨a,l,.inr ⟨b,xs.length,[],(0,0),Y,fun _=>c,xAG _,cD,.inl (xAG _),?_⟩,v,hd,Y⟩
 rw[xAL];exact s
def CA{n:Nat}{a:Nat}{d g:Value}{p:Int}{out:Out}(s:fr.get 6=some (ptr b6))(H:fr.get 7=some (i64 x))(b:fr.get 8=some (ptr b8))(le:K0.le K)(q:out=⟨[(1,[])],st,some (e,p)⟩)(c:x=st):
  D ⟨x3,n,[dfr 89 #[ptr b6,ptr b8]],w,F⟩ (.panic [{v:=.iface 118 (ptr a),recovered:=false}]) fr K [pt a (bK [i64 e,i64 p] 123),pt b8 (bK [g] 79),pt b6 (bK [d] 29)] (zP x3 Tryz.f54 w F K0 (RunR out)):=by
 subst q;subst c
 refine QP (.pan _) Y kX AN s H b (aQ dQ (aQ dQ bT)) (SV b6 b8 a d g K) Y ?_;rintro _ _ _ ⟨rfl,rfl,O,rfl⟩;refine⟨⟨_,Y⟩,fun A=>⟨_,_,[sl true dI (.slice (some ⟨O,0,none⟩) 1 1) [(1,[])],pt a (bK [i64 e,i64 p] 123)],fun h y=>?_,⟨_,Y,_,_,_,Y,Y,a,Y,Y⟩,le⟩⟩
 exact hO (fB (fun h y=>fB (fun h y=>Ti (k:=dI) (xs:=[(1,[])]) cD Y h y) y) y)
def C9{n:Nat}{av:Value}{out:Out}{acts:List gI}(s:fr.get 6=some (ptr b6))(H:fr.get 7=some (i64 x))(b:fr.get 8=some (ptr b8))(le:K0.le K)(q:out=⟨acts,st,none⟩)(a:x=st):
  D ⟨x3,n,[dfr 89 #[ptr b6,ptr b8]],w,F⟩ .ret fr K [pt b6 (bK [av] 29),pt b8 (bK [.nilIface] 79),sl true dI av acts] (zP x3 Tryz.f54 w F K0 (RunR out)):=by
 subst q;subst a
 refine QP .ret Y kX AN s H b .nil (SW b6 b8 K) Y ?_;rintro _ _ _ ⟨rfl,rfl,rfl⟩;exact⟨⟨_,Y⟩,fun A=>⟨_,_,[sl true dI av acts],fun h y=>y,⟨_,Y,_,_,_,Y,Y,Y,Y⟩,le⟩⟩
def O6{e:Nat}{m:Msg}{hv:Value}{L:List Asn}:∀h,Sat (pt b (bK [str m.from_,str m.to_,i64 m.size,hv,.slice none 0 0,.bool true,.bool nm,.map (some e),.slice none 0 0,.slice none 0 0,i64 0] 178)::pt e (mapO [] 0)::L) h->Sat (mch b e m hv (.slice none 0 0) nm Mach.start::L) h:=by
 intro h y;refine j8 (av:=.slice none 0 0) (sv:=.slice none 0 0) (f:=fun _=>0) (c:=0) (s:=Mach.start) h ?_;exact fB (fun h y=>iQ (iQ y)) y
def Om{m:Msg}{code:List Ins}(h:code.length<=s.pc):Mach.loop nm m code (f+1) st s=⟨if s.keep=true then s.acts++[(1,[])]else s.acts,st,none⟩:=by
 rw[Mach.loop,xAH h]
def On{m:Msg}{code:List Ins}(h:code[s.pc]?=some o)(q:o.op=14):Mach.loop nm m code (f+1) st s=⟨if s.keep=true then s.acts++[(1,[])]else s.acts,st+1,none⟩:=by
 rw[Mach.loop,h];simp only[if_pos q]
def D1{m:Msg}{code:List Ins}{e:Int×Int}(h:code[s.pc]?=some o)(q:¬o.op=14)(c:Mach.step nm m code.length o s=.error e):Mach.loop nm m code (f+1) st s=⟨[(1,[])],st+1,some e⟩:=by
 rw[Mach.loop,h];simp only[if_neg q,c]
def Ve{m:Msg}{code:List Ins}{t:MS}(h:code[s.pc]?=some o)(q:¬o.op=14)(c:Mach.step nm m code.length o s=.ok t):Mach.loop nm m code (f+1) st s=Mach.loop nm m code f (st+1) {t with pc:=t.pc+1}:=by
 rw[Mach.loop,h];simp only[if_neg q,c]
def step_bad{m:Msg}{n:Nat}(h:¬(1<=o.op/\o.op<=13)):Mach.step nm m n o s=.error (12,s.pc):=by
 unfold Mach.step;rw[x6 aH,x6 aH,x6 aH,x6 aH,x6 aH,x6 aH,x6 aH,x6 aH,x6 aH,x6 aH,x6 aH]
 rfl
def RP{p:Prop}[Decidable p]{q pc:Int}(h:(if p then (Except.ok ():Res Unit)else .error (12,pc))=.error (e,q)):¬p/\e=12/\q=pc:=by
 split at h
 ·cases h
 rename_i hp;cases h;exact⟨hp,Y,Y⟩
structure RI where
 st:Nat
 s:MS
 pv:Value
 K:Hl
def IX(nm:Bool)(cv hv:Value)(vs:List InsV)(code:List Ins)(m:Msg)(K:Hl)(hg:Glob K)(ja:Ksl cS K cv vs)(hR:RIs K vs code)(hh:Ksl hdEl K hv m.hs)(hm:MsgOk m)(hc:∀o∈code,InsOk o)(qg:code.length<=1000000):
  Sp x3 54 [.bool nm,cv,.agg #[str m.from_,str m.to_,i64 m.size,hv]] K [] (RunR (Mach.run nm code m)):=by
 have S:vs.length=code.length:=hR.length;have qh:Fp.length=15:=rfl;obtain⟨W,hn,B,rfl⟩:=hh.isSlice;obtain⟨ca,cn,jj,rfl⟩:=ja.isSlice;refine Ea func54 Y ntmps54 Y Y fun F w=>Z3 ?_;refine aCJ fun b5=>Z1 ?_;refine aCJ fun b6=>Z2 ?_;refine aCJ fun b8=>Z5 ?_;refine aA (dA aAU Ym cW) Y (Z1 ?_);refine cG tN Y (aCJ fun P=>aA (dA aAV Yn cW) Y (Z1 ?_));refine aCJ fun G=>Z4 ?_;refine kQ (O6 (m:=m) (hv:=.slice W hn B) (nm:=nm)) (l9 (aQ cL (aQ cL (aQ cL bT))) (Z2 ?_));refine IB Y (Z6 ?_);refine aA (bU (k:=cS) Y xAN Y aL) Y (Z3 ?_);refine aX 21 Y (fun jk=>Z2 ?_) (fun jk=>?_)
 ·refine dB Y Y (lX _ 12 400 _) .nil Y gAE ?_ ?_
  ·rintro _ _ _ ⟨fb,h,rfl⟩ x;cases h
   refine uAp ?_;refine aT ?_;exact CA Y Y Y bZ (by (unfold Mach.run;rw[x7 aH])) aH
  exact gDD
 have qf:code.length<=400:=aH;refine Z4 ?_;refine bA Y Y (Kk _) .nil Y ?_;rintro tv KD _ ⟨Q,rfl⟩ jv;refine Z5 ?_;refine eD (fun(q:RI)=>KD.le q.K/\Ksl (aZ 9) q.K q.pv q.s.parts/\MInv q.s/\q.st<=q.s.pc/\q.s.pc<=code.length/\∃f,code.length<=f+q.s.pc/\Mach.run nm code m=Mach.loop nm m code (f+1) q.st q.s) (fun q=>[(1,.slice ca cn jj),(6,ptr b6),(7,i64 q.st),(8,ptr b8),(9,ptr G),(10,tv)]) (fun q=>q.K) (fun q=>[mch G P m (.slice W hn B) q.pv nm q.s,pt b8 (bK [.nilIface] 79),pt b6 (bK [.slice none 0 0] 29)]) (fun q=>code.length-q.s.pc) ⟨0,Mach.start,.slice none 0 0,KD⟩ ⟨xAB _,.inl ⟨none,0,Y,Y⟩,MInv.start,xAA _,xAA _,code.length,aH,by unfold Mach.run;rw[x6 aH]⟩ bM Y a7 ?_;intro ⟨st,s,pv,K1⟩ ⟨N,je,d,jt,jr,f,hf,u⟩;dsimp only at N je d jt jr hf u ⊢;have b:=x5 jv N;have jx:=ja.mono b;have jq:=hh.mono b;have jp:=hg.mono b;have A:=Q.mono N;refine uZ fun av sv fv c=>?_;refine nX (p:=av.oneCell'=true) (fun h hs=>?_) ?_
 ·obtain⟨_,l,_,hl,_,_⟩:=hs;obtain⟨y,_,hy,_,_,_⟩:=hl;obtain⟨a,n,c,rfl⟩:=Je y hy;rfl
 intro qd;refine Z8 ?_;refine aA (bU (k:=cS) Y xAN Y aL) Y (Z3 ?_);refine aX 31 Y (fun jl=>?_) (fun jl=>?_)
 ·have M:s.pc<vs.length:=aH;obtain⟨v,ju⟩:∃v,vs[s.pc]?=some v:=⟨vs[s.pc]'M,x4 M⟩;obtain⟨o,O,js⟩:=(hR.mono b).get ju;obtain⟨qr,vn,jz,jy,⟨va,qk⟩,⟨vb,ql⟩,qq⟩:=v;obtain⟨rfl,rfl,rfl,rfl,rfl,I,L⟩:=js;dsimp only at I L;obtain⟨sa,sn,sc,rfl⟩:=I.isSlice;obtain⟨ta,tn,tc,rfl⟩:=L.isSlice;have jc:=hc o (x8 O);refine ZH ?_;refine aA (aW (k:=cS) eP Y aL Y Y gAJ) Y ?_;refine aA (fH (n:=0) (k:=cS) gT Y aL bZ) Y (Z1 ?_);refine aCJ fun qb=>cA (cQ gT Y Y Y bP gAF (.cons (.cons (.cons (.cons (.cons (.cons (.cons .nil))))))) gAQ) ?_;refine aCK (ZA ?_);refine aX 43 Y (fun g=>?_) (fun g=>?_)
  ·have g:o.op=14:=g;have u:=u.trans (On O g);refine ZG ?_;refine dZ 77 Y (fun r=>Z7 ?_) (fun r=>?_)
   ·refine aA (dA EP yR cW) Y ?_;refine cG (bJ (z0:=[.int .i64 0,(str [])]) jG E1 Y Y Y Y cW) Y ?_;refine aCJ fun ji=>cG (dJ (k:=dI) (ys:=[((1:Int),([]:List UInt8))]) m9 Y Y bP (fun w j=>dC xAY (SeesSl.at (k:=dI) (.blk aL Y Y) j)) gC7 gC7) Y ?_;rintro jw K _ ⟨rfl,rfl,jb⟩ -;refine ZK ?_
    (refine aV (aQ k7T (aQ k6T (aQ cL bT))) ?_;exact C9 Y Y Y b (by rw[u,x7 r]) aH)
   refine ZG ?_
   (refine aV (aQ k6T (aQ EJ (aQ jS bT))) ?_;exact C9 Y Y Y b (by rw[u,x6 (by rw[r];decide)]) aH)
  have g:¬o.op=14:=g;refine Z9 ?_;refine bV 48 Y (fun z=>?_) (fun z=>?_)
  ·have z:0<o.op:=z;refine Z7 ?_;refine aA (bU (k:=(cC 184)) Y underlying181 Y aL) Y (Z3 ?_);refine eC Y Y (rV (o.op<(Fp.length:Int)) _ _ _ _ _ _ _ _ _ _ _ _ _) bQ Y (fun e p hu fb _ x=>?_) (fun u0 hu=>?_)
   ·refine aV (aQ cL (aQ EI (aQ EI bT))) (Z5 ?_);exact CA Y Y Y (x5 b x) (by (obtain⟨q1,rfl,rfl⟩:=RP hu;rw[u,D1 O g (step_bad aH)])) aH
   refine aCL ?_;have qe:o.op<(Fp.length:Int):=xA3 (fun h=>by rw[x6 h]at hu;cases hu);have jd:1<=o.op/\o.op<=13:=⟨aH,aH⟩;refine Z3 ?_;refine yQ (aQ cL (aQ dQ (aQ dQ (aQ dQ bT)))) (kQ (j8 (m:=m) (hv:=.slice W hn B) (pv:=pv) (nm:=nm) (s:=s)) (cN [9] [9] mixed gAD (cM _) (Z3 ?_)));refine aJ Y Y (.none Y) Y Y (aW (k:=cC 184) (j:=o.op.toNat) Cj Y (.known A) Y (show o.op=(o.op.toNat:Int) by omega) aH) Y (aJ Y Y (.none Y) Y Y (cE (o:=0) (k:=cC 184) aBC Y (.known A) (Re jd) Y) Y (Z3 ?_));refine aJ Y Y (.none Y) Y Y (bU (k:=cS) Y xAN Y aL) Y ?_;refine Kj (fr':=[(6,ptr b6),(7,i64 ((st:Int)+1)),(8,ptr b8)]) Y (.none Y) Y Y Y (LK G P m (.slice W hn B) pv nm s o (.slice sa sn sc) (.slice ta tn tc) vs.length _ jd jp je I L jq hm jc d aH aH) (aQ cL bT) Y (fun _ _=>eI _ _) bM Y ?_ ?_
   ·rintro _ _ _ C x;obtain⟨e,p,E,fb,h,rfl⟩:=eJ C;cases h
    refine uAp ?_;refine Z5 ?_;exact CA Y Y Y (x5 b x) (by (rw[S]at E;rw[u,D1 O g E])) aH
   rintro _ K3 _ C jg;obtain⟨t,E,rfl,jh,jf,rfl⟩:=eK C;clear C;rw[S]at E;have i:=d.step hm jc E;have H:MInv {t with pc:=t.pc+1}:=⟨i.stack,i.acts,i.vars,i.parts⟩;have qi:=AK E (by omega:s.pc<code.length);refine Z2 ?_;refine uZ fun qa qp qc c3=>ZB ?_;have qj:=AK E (by omega:s.pc<code.length);have e:((t.pc+1:Nat):Int)=(t.pc:Int)+1:=aH;refine d8 (fun h hh=>j8 (m:=m) (hv:=.slice W hn B) (pv:=jh) (nm:=nm) (s:={t with pc:=t.pc+1}) h (by show Sat (mblk _ _ _ _ _ _ _ _ _ _ _ ((t.pc+1:Nat):Int)::_) h;rw[e];exact hh)) (uAp ?_);exact cX ⟨st+1,{t with pc:=t.pc+1},jh,_⟩ ⟨x5 N jg,jf,H,by (show st+1<=t.pc+1);omega,by (show t.pc+1<=code.length);omega,f-1,by (show code.length<=f-1+(t.pc+1));omega,by have e2:f-1+1=f:=aH;rw[e2,u,Ve O g E]⟩ (by (show code.length-(t.pc+1)<code.length-s.pc);omega) bM Y a7
  have z:¬0<o.op:=z;refine Z6 ?_;refine dB Y Y (sM _ _ _ _ _ _ _ _ _ _ _ _ _) bQ Y gAE ?_ ?_
  ·rintro _ _ _ ⟨fb,h,rfl⟩ x;cases h
   refine aV (aQ cL (aQ EI (aQ EI bT))) (Z5 ?_);exact CA Y Y Y (x5 b x) (by rw[u,D1 O g (step_bad aH)]) aH
  exact gDD
 have u:=u.trans (Om aH);refine ZF ?_;refine dZ 77 Y (fun r=>Z7 ?_) (fun r=>?_)
 ·refine aA (dA EP yR cW) Y ?_;refine cG (bJ (z0:=[.int .i64 0,(str [])]) jG E1 Y Y Y Y cW) Y ?_;refine aCJ fun ji=>cG (dJ (k:=dI) (ys:=[((1:Int),([]:List UInt8))]) m9 Y Y bP (fun w j=>dC xAY (SeesSl.at (k:=dI) (.blk aL Y Y) j)) gC7 gC7) Y ?_;rintro jw K _ ⟨rfl,rfl,jb⟩ -;refine ZK ?_
  (refine aV (aQ k6T (aQ EJ (aQ cL bT))) ?_;exact C9 Y Y Y b (by rw[u,x7 r]) aH)
 refine ZG ?_
 (refine aV (aQ EJ (aQ EI (aQ dQ bT))) ?_;exact C9 Y Y Y b (by rw[u,x6 (by rw[r];decide)]) aH)
end
end Go.Proofs
end
section
namespace Go.Cmp
open Go.Syn Go.Mach
section
variable{op:Int}{ops:List Ins}
def IFit(n:Nat)(o:Ins):Prop:=(∀x∈o.a,x.length<=n)/\(∀x∈o.b,x.length<=n)/\o.a.length<=2*n+1/\o.b.length<=2*n+1
def AFit(n:Nat)(ops:List Ins):Prop:=∀o∈ops,IFit n o
def AFit.setN{n:Nat}{k:Nat}{m:Int}:∀ {ops:List Ins},AFit n ops->AFit n (setN ops k m):=by
 intro ops h o q;unfold Cmp.setN at q;obtain⟨i,p⟩:=xA4 q;rw[List.getElem?_modify]at p;cases a:ops[i]? with
 |none=>rw[a]at p;cases p
 |some x=>
  rw[a]at p;have d:=h x (x8 a);simp only[Option.map_eq_map,Option.map_some,Option.some.injEq]at p
  by_cases z:k=i
  ·rw[x7 z]at p;subst p;exact d
  rw[x6 z]at p;subst p;exact d
def AFit.fold{n:Nat}{m:Int}:∀(ps:List Nat) {ops:List Ins},AFit n ops->AFit n (ps.foldl (fun o k=>Cmp.setN o k (m-1-k)) ops)
 | [],_,h=>h
 |p::ps,_,h=>AFit.fold ps h.setN
def AFit.land{n:Nat}{ps:List Nat}(h:AFit n ops):AFit n (land ops ps):=AFit.fold ps h
def AFit.app{n:Nat}{a b:List Ins}(h:AFit n a)(k:AFit n b):AFit n (a++b):=fun o q=>(xA5.1 q).elim (h o) (k o)
def AFit.jmp{n:Nat}(h:AFit n ops):AFit n (ops++[Cmp.jmp op]):=h.app fun o q=>by
 rw[List.mem_singleton]at q;subst q;exact⟨by simp[Cmp.jmp],by simp[Cmp.jmp],by simp[Cmp.jmp],by simp[Cmp.jmp]⟩
def AFit.two{n:Nat}{o:Ins}(h:AFit n ops)(k:IFit n o):AFit n (ops++[o,Cmp.jmp op]):=by
 have:=(h.app (b:=[o]) (fun x a=>by rw[List.mem_singleton]at a;subst a;exact k)).jmp (op:=op)
 exact gF0
theorem Wn(n:Nat):∀(t:Tree),sOk n t->(∀d ops,AFit n ops->AFit n (unl t d ops).1)/\(∀all d ops c g,AFit n ops->AFit n (unlL all d t ops c g).1):=by
 intro t;induction t with
 |not_ t w=>grind [unl,unlL,sOk,AFit]
 |const b=>exact fun h=>⟨fun d ops q=>by rw[unl];split;exact q.jmp;exact q,fun all d ops c g q=>by simpa[unlL]using q⟩
 |many all l w=>exact fun h=>⟨fun d ops q=>by rw[unl];exact((w h).2 _ _ _ _ _ q).land,fun all d ops c g q=>by simpa[unlL]using q⟩
 |mat S v op a b=>exact fun h=>⟨fun d ops q=>by rw[unl];exact q.two h,fun all d ops c g q=>by simpa[unlL]using q⟩
 |exi a=>exact fun h=>⟨fun d ops q=>by rw[unl];exact q.two ⟨h.1,cD,h.2,cD⟩,fun all d ops c g q=>by simpa[unlL]using q⟩
 |siz S m=>exact fun h=>⟨fun d ops q=>by rw[unl];exact q.two ⟨cD,cD,cD,cD⟩,fun all d ops c g q=>by simpa[unlL]using q⟩
 |tcons t l A i=>
  grind [unl,unlL,sOk,AFit]
 |_=>grind [unl,unlL,AFit]
def Q3(n:Nat):∀(t:Tree),sOk n t->(∀ops,AFit n ops->AFit n (body t ops))/\(∀ops,AFit n ops->AFit n (cmdI t ops))/\(∀ops out,AFit n ops->AFit n (dL t ops out)):=by
 intro t;induction t with
 |plain op=>exact fun h=>⟨fun ops q=>by simpa[body]using q,fun ops q=>by rw[cmdI];exact q.jmp,fun ops out q=>by simpa[dL]using q.land⟩
 |act k a p=>
  refine fun h=>⟨fun ops q=>by simpa[body]using q,fun ops q=>?_,fun ops out q=>by simpa[dL]using q.land⟩
  rw[cmdI];refine q.app fun o d=>?_;rw[List.mem_singleton]at d;subst d
  refine⟨fun x d=>?_,cD,?_,cD⟩
  ·simp only at d;split at d
   ·cases d
   rw[List.mem_singleton]at d;subst d;exact h
  simp only;split<;>simp
 |set_ a v t=>
  refine fun h=>⟨fun ops q=>by simpa[body]using q,fun ops q=>?_,fun ops out q=>by simpa[dL]using q.land⟩
  rw[cmdI];refine q.app fun o d=>?_;rw[List.mem_singleton]at d;subst d
  exact⟨fun x d=>by rw[List.mem_singleton]at d;subst d;exact h.1,fun x d=>by rw[List.mem_singleton]at d;subst d;exact h.2,cD,cD⟩
 |iff s w=>exact fun h=>⟨fun ops q=>by simpa[body]using q,fun ops q=>by rw[cmdI];exact(w h).2.2 _ _ q,fun ops out q=>by simpa[dL]using q.land⟩
 |ccons c l A i=>exact fun h=>⟨fun ops q=>by rw[body];exact(i h.2).1 _ ((A h.1).2.1 _ q),fun ops q=>by simpa[cmdI]using q,fun ops out q=>by simpa[dL]using q.land⟩
 |belse b l A i=>exact fun h=>⟨fun ops q=>by simpa[body]using q,fun ops q=>by simpa[cmdI]using q,fun ops out q=>by rw[dL];exact((A h.1).1 _ q).land⟩
 |bcons t b l A i N=>
  refine fun h=>⟨fun ops q=>by simpa[body]using q,fun ops q=>by simpa[cmdI]using q,fun ops out q=>?_⟩
  have e:=(i h.2.1).1 _ ((Wn n t h.1).1 false _ q);rw[dL];split
  ·exact(N h.2.2).2.2 _ _ e.land
  exact(N h.2.2).2.2 _ _ e.jmp.land
 |_=>exact fun h=>⟨fun ops q=>by simpa[body]using q,fun ops q=>by simpa[cmdI]using q,fun ops out q=>by simpa[dL]using q.land⟩
def script_fit{n:Nat}{t:Tree}(h:sOk n t):AFit n (script t):=(Q3 n t h).1 [] (fun o q=>by cases q)
def script_len(t:Tree):(script t).length<=2*cnt t:=by have:=((mK t).1 []).2;unfold script;simpa using this
end
end Go.Cmp
end
section
namespace Go.Syn
open Go.Mach
def t1:aP:=[105,102,32,104,101,97,100,101,114,32,34,83,117,98,106,101,99,116,34,32,34,120,34,32,123,32,100,105,115,99,97,114,100,59,32,125,32,101,108,115,101,32,123,32,107,101,101,112,59,32,125]
def t2:aP:=[105,102,32,104,101,97,100,101,114,32,58,99,111,109,112,97,114,97,116,111,114,32,34,105,59,111,99,116,101,116,34,32,34,83,117,98,106,101,99,116,34,32,34,120,34,32,123,32,100,105,115,99,97,114,100,59,32,125,32,101,108,115,101,32,123,32,114,101,100,105,114,101,99,116,32,34,97,64,98,34,59,32,125]
def tb:aP:=[107,101,101,112,59,32,105,102,32,123,32,125]
def m1:Msg:=⟨[],[],0,[([115,117,98,106,101,99,116],[88])]⟩
def pc(s:aP):Int×Int:=if 600<s.length then (1,-1)else match gG s with| .ok _=>(0,-1)| .error e=>e
def sayC(r:List aP×Tree)(m:Msg):Out:=Mach.run (decide (dS∈r.1)) (Cmp.script r.2) m
def te:Option (Int×Int)->Int×Int
 |none=>(0,-1)
 |some e=>e
def Qr{s:List aP}{x e:aP}(h:x∈s):x∈addN s e:=by
 unfold addN;split
 ·exact h
 exact List.mem_append_left _ h
def qQ{x:aP}:∀ {l s:List aP},x∈s->x∈iW s l
 | [],_,h=>h
 |e::l,s,h=>by
  have:=qQ (l:=l) (Qr (e:=e) h);exact this
end Go.Syn
end
section
namespace Go.Proofs
open Go Go.SL Go.Syn Go.Mach Go.Cmp Tryz
section
variable{K K':Hl}{b:Nat}
def ScriptAt.mono{needs:List (List UInt8)}{t:Tree}(h:ScriptAt K b needs t)(le:K.le K'):ScriptAt K' b needs t:=
 let ⟨l,W,P,e,w,a,c,d,z,F,G,B⟩:=h.at_
 ⟨l,W,P,e,w,le _ _ a,c,d,z.mono le,F.mono le,G.mono le,B⟩
def u5(K:Hl)(b:Nat)(r:List aP×Tree):Prop:=∃tb s F w,K b=some (bK [ptr tb 6,s] 89 w)/\ScriptAt K tb r.1 r.2/\Ksl cS K s F/\RIs K F (Cmp.script r.2)
def u5.mono{r:List aP×Tree}(h:u5 K b r)(le:K.le K'):u5 K' b r:=
 let ⟨tb,s,F,w,a,c,l,z⟩:=h
 ⟨tb,s,F,w,le _ _ a,c.mono le,l.mono le,z.mono le⟩
def Xj(s:aP)(x y:Value)(K:Hl):Prop:=
 (600<s.length/\x=.pointer none/\y=.iface 30 (i64 1))\/
 (s.length<=600/\∃b r,gG s=.ok r/\x=ptr b/\y=.nilIface/\u5 K b r)\/
 (s.length<=600/\∃w e p,gG s=.error (e,p)/\x=.pointer none/\y=.iface 118 (ptr w)/\K w=some (bK [i64 e,i64 p] 123))
def I7(s:aP)(K:Hl)(H:Glob K):Sp x3 38 [str s] K [] (Ret fun v K' L'=>∃x y,v=.tuple #[x,y]/\Xj s x y K'/\L'=[]):=by
 refine bL func38 Y ntmps38 Y Y fun F w=>Z9 ?_;refine bA Y Y (Lf s _ H) .nil Y ?_;rintro z L _ ⟨l,rfl⟩ a;obtain⟨x,y,rfl,j⟩:∃x y,z=.tuple #[x,y]/\((600<s.length/\x=.pointer none/\y=.iface 30 (i64 1))\/(s.length<=600/\∃b r,gG s=.ok r/\x=ptr b 6/\y=.nilIface/\ScriptAt L b r.1 r.2)\/(s.length<=600/\∃c e p,gG s=.error (e,p)/\x=.pointer none/\y=.iface 118 (ptr c)/\L c=some (bK [i64 e,i64 p] 123))):=(by rcases l with ⟨G,rfl⟩|⟨G,⟨b,r,i,rfl,t⟩|⟨c,e,p,i,rfl,u⟩⟩;exact⟨_,_,Y,.inl ⟨G,Y,Y⟩⟩;exact⟨_,_,Y,.inr (.inl ⟨G,b,r,i,Y,Y,t⟩)⟩;exact⟨_,_,Y,.inr (.inr ⟨G,c,e,p,i,Y,Y,u⟩)⟩);refine Z7 ?_;rcases j with ⟨G,rfl,rfl⟩|⟨G,b,r,i,rfl,rfl,t⟩|⟨G,c,e,p,i,rfl,rfl,u⟩
 ·refine ZH ?_;refine uAd ?_;refine jK Y Y Y a ?_;exact⟨_,Y,_,_,Y,.inl ⟨G,Y,Y⟩,Y⟩
 ·have h:=m0 i;refine ZE ?_;refine bA Y Y (Jb b r.1 r.2 _ t h.1 aH) .nil Y ?_;rintro P S _ ⟨C,f,rfl⟩ A;refine fS fun E g W=>?_;obtain⟨M,O,N,rfl⟩:=W.isSlice;refine aA (dA aCB aBA cW) Y (Z1 ?_);refine aCJ fun B=>Z5 ?_;refine fC fun I d q=>uAd ?_;refine jK Y Y Y (x5 a (x5 A (x5 g d))) ?_;exact⟨_,Y,_,_,Y,.inr (.inl ⟨G,B,r,i,Y,Y,b,_,C,_,q,t.mono (x5 A (x5 g d)),W.mono d,f.mono (x5 g d)⟩),Y⟩
 refine ZH ?_;refine uAd ?_;refine jK Y Y Y a ?_;exact⟨_,Y,_,_,Y,.inr (.inr ⟨G,c,e,p,i,Y,Y,u⟩),Y⟩
def AS(s:aP)(x:Value)(K:Hl):Prop:=(∃b r,s.length<=600/\gG s=.ok r/\x=ptr b/\u5 K b r)\/(x=.pointer none/\(600<s.length\/∃e,gG s=.error e))
def II(s:aP)(K:Hl)(H:Glob K)(c:ErrT K):Sp x3 19 [str s] K [] (Ret fun v K' L'=>∃x,v=.tuple #[x,i64 (pc s).1,i64 (pc s).2]/\AS s x K'/\L'=[]):=by
 refine bL func19 Y ntmps19 Y Y fun F w=>ZA ?_;refine bA Y Y (I7 s _ H) .nil Y ?_;rintro _ L _ ⟨x,y,rfl,f,rfl⟩ a;refine Z7 ?_;rcases f with ⟨G,rfl,rfl⟩|⟨G,b,r,i,rfl,rfl,t⟩|⟨G,d,e,p,i,rfl,rfl,u⟩
 ·refine Z3 ?_;refine bA Y Y (Yz 1 _ (c.mono a)) .nil Y (aCL (ZI ?_));refine uAd ?_;refine uD Y Y Y Y a ?_;have z:pc s=(1,-1):=(by unfold pc;rw[x7 G]);exact⟨_,Y,_,by rw[z],.inr ⟨rfl,.inl G⟩,rfl⟩
 ·refine Z3 ?_;refine cH Y Y (Et _) Y (ZI ?_);refine uAd ?_;refine uD Y Y Y Y a ?_;have z:pc s=(0,-1):=(by unfold pc;rw[x6 aH,i]);exact⟨_,Y,_,by rw[z],.inl ⟨b,r,G,i,rfl,t⟩,rfl⟩
 refine Z3 ?_;refine bA Y Y (H1 d e p _ [] (c.mono a) (.known u)) .nil Y (aCL (ZI ?_));refine uAd ?_;refine uD Y Y Y Y a ?_;have z:pc s=(e,p):=(by unfold pc;rw[x6 aH,i]);exact⟨_,Y,_,by rw[z],.inr ⟨rfl,.inr ⟨_,i⟩⟩,rfl⟩
def UT(b:Nat)(x:List UInt8)(xs:List (List UInt8))(l:List Value)(nv:Value)(fz:Nat×Nat)(K:Hl)(r:K b=some (bK l 208 fz))(v:l[6]?=some nv)(hv:Ksl (aZ 9) K nv xs)(u:xs.length<=1000000):
  Sp x3 59 [ptr b 6,str x] K [] (Val (.bool (decide (x∈xs))) K):=by
 refine bL func59 Y ntmps59 Y Y fun F w=>ZA ?_;refine aA (aK eL Y (.known r) v) Y (Z1 ?_);refine bA Y Y (oK nv x xs _ [] (.known hv) u) .nil Y (aCL (Z4 ?_));exact gD3
abbrev msgV(m:Msg)(hv:Value):Value:=.agg #[str m.from_,str m.to_,i64 m.size,hv]
def Y9(out:Out):Ending->Hl->List Asn->Prop:=Ret fun v K' g=>∃a ev M,v=.tuple #[a,ev]/\g=sl true dI a out.acts::M/\ErrP out.err ev M
def O9(b:Nat)(r:List aP×Tree)(s:aP)(m:Msg)(hv:Value)(K:Hl)(H:Glob K)(u:gG s=.ok r)(hl:s.length<=600)(t:u5 K b r)(y:Ksl hdEl K hv m.hs)(I:MsgOk m):
  Sp x3 40 [ptr b,msgV m hv] K [] (Y9 (sayC r m)):=by
 obtain⟨tb,A,vs,fz,q,B,W,f⟩:=t;obtain⟨l,P,bv,ys,e,z,c,G,d,_,_,_⟩:=B.at_;obtain⟨C,L,E,rfl⟩:=y.isSlice;have h:=m0 u;have a:=sO u;have O:=Cmp.script_len r.2;have j:∀o∈Cmp.script r.2,InsOk o:=fun o N=>by
  obtain⟨Q,S,q3,q4⟩:=Cmp.script_fit h.2.1 o N;exact⟨aH,aH,fun x i=>by have:=Q x i;omega,fun x i=>by have:=S x i;omega⟩
 refine bL func40 Y ntmps40 Y Y fun F w=>Z3 ?_;refine aCJ fun b3=>Z5 ?_;refine qK (anc:=[0,1,3,7,15,0,32,96,224,0,1023,2047,4095,4095,4095,8191,49151,131071]) (ord:=[0,1,2,3,5,6,7,8,9,4,10,11,12,13,14,15,16,17]) [4,10] [10] mixed gAD (cM _) (Z3 ?_);refine aJ Y Y (.none Y) Y Y (aK H3 Y (.known q) Y) Y (Z3 ?_);refine aJ Y Y (.none Y) Y Y (aK tX Y (.known q) Y) Y (Z1 ?_);refine gY Y (.none Y) Y Y Y Y (UT tb dS r.1 l P e _ z c d aH) Y (eR Y (.none Y) Y Y Y (IX (decide (dS∈r.1)) A (.slice C L E) vs (Cmp.script r.2) m _ H W f y I j aH) .nil Y ?_);rintro _ K1 _ ⟨v,ev,M,rfl,rfl,g⟩ p;refine ZI ?_;refine Kg (Kg ?_)
 refine jK Y Y Y p ?_;exact⟨_,Y,v,ev,M,Y,Y,g⟩
end
def A4(m:Msg)(hv:Value)(K:Hl)(y:Ksl hdEl K hv m.hs)(u:m.hs.length<=1000000):Sp x3 34 [msgV m hv] K [] (Ret fun v b L'=>∃a n c,v=msgV m (.slice a n c)/\b=K/\L'=[sl false hdEl (.slice a n c) m.hs]):=by
 obtain⟨s,P,d,rfl⟩:=y.isSlice;refine bL func34 Y ntmps34 Y Y fun F w=>Z3 ?_;refine aCJ fun e=>Z1 ?_;refine aCJ fun M=>Z6 ?_;refine kG (eO hdEl) (cG (dJ (k:=hdEl) (ys:=m.hs) Hz Y Y .here (fun w j=>dC xB3 (SeesSl.at (k:=hdEl) (.known y) j)) gAG gAG) Y ?_);rintro f K _ ⟨rfl,rfl,z⟩ -;refine oG iA ?_;rintro⟨I,Q,q,rfl⟩;refine Z7 ?_;refine cA (cQ jN Y Y Y bP gAY (.cons (.cons (.cons (.cons .nil)))) gBA) ?_;refine aCK (Z3 ?_);refine o0 Y Y jN aL Y Y (xAB _) (aQ cL bT) ?_;exact⟨_,Y,_,_,_,Y,Y,Y⟩
structure TI where
 i:Nat
 xs:List (aP×aP)
def mine:aP:=[109,105,110,101]
def yE(m:Msg)(hv:Value)(c:List (aP×aP))(K:Hl)(u:c.length<=1000000):Sp x3 36 [msgV m hv] K [sl false hdEl hv c] (Ret fun v d L'=>v=.tuple #[]/\d=K/\L'=[]):=by
 refine bL func36 Y ntmps36 Y Y fun F w=>nX iA ?_;rintro⟨I,Q,b,rfl⟩;refine Z3 ?_;refine aCJ fun j=>Z6 ?_;refine aA (bU (k:=hdEl) Y xB3 Y aL) Y (Z4 ?_);refine eD (fun(q:TI)=>q.i<=c.length/\q.xs.length=c.length) (fun q=>[(1,ptr j),(5,i64 c.length),(6,i64 q.i)]) (fun _=>K) (fun q=>[pt j (bK [str m.from_,str m.to_,i64 m.size,.slice I Q b] 28),sl false hdEl (.slice I Q b) q.xs]) (fun q=>c.length-q.i) ⟨0,c⟩ ⟨xAA _,Y⟩ bM Y a7 ?_;intro ⟨i,x⟩ ⟨O,a⟩;dsimp only at O a ⊢;refine Z6 ?_;refine aX 7 Y (fun B=>?_) (fun B=>Z4 ?_)
 ·have M:i<x.length:=aH;refine ZE ?_;refine aA (dA aCA aAZ cW) Y ?_;refine aA (aW (k:=hdEl) rH Y aL Y Y gAJ) Y ?_;refine cA (oI (k:=hdEl) (y0:=(mine,mine)) LL Y Y gAJ bP) ?_;refine aCK (Z7 ?_);exact cX ⟨i+1,x.set i (mine,mine)⟩ ⟨by (show i+1<=c.length);omega,by simpa using a⟩ (by (show c.length-(i+1)<c.length-i);omega) bM Y a7
 exact gHU
def OA(b:Nat)(r:List aP×Tree)(s:aP)(m:Msg)(hv:Value)(K:Hl)(H:Glob K)(j:gG s=.ok r)(i:s.length<=600)(t:u5 K b r)(B:MsgOk m):
  Sp x3 40 [ptr b,msgV m hv] K [sl false hdEl hv m.hs] (Ret fun v a L'=>∃av ev M,v=.tuple #[av,ev]/\L'=sl false hdEl hv m.hs::sl true dI av (sayC r m).acts::M/\ErrP (sayC r m).err ev M):=by
 have h:=Hm (K:=K) (L1:=[sl false hdEl hv m.hs]) (L:=[]) (R:=fun e L'=>∃v,e=.returned v/\∃av ev M,v=.tuple #[av,ev]/\L'=sl true dI av (sayC r m).acts::M/\ErrP (sayC r m).err ev M) ⟨_,func40,rfl,rfl⟩ (fun f l d=>(O9 b r s m hv (K.join f) (H.mono Hl.le_join_l) j i (t.mono Hl.le_join_l) ((lB .here l).mono (Hl.le_join_r d)) B).mono fun e a L' q=>q);refine h.mono ?_;rintro e a L' ⟨c,⟨v,rfl,av,ev,M,rfl,rfl,g⟩,rfl⟩;exact⟨_,Y,av,ev,M,Y,Y,g⟩
def OT(b:Nat)(r:List aP×Tree)(s:aP)(m:Msg)(hv:Value)(K:Hl)(H:Glob K)(l:ErrT K)(x:gG s=.ok r)(u:s.length<=600)(t:u5 K b r)(y:Ksl hdEl K hv m.hs)(B:MsgOk m):
  Sp x3 21 [ptr b,msgV m hv] K [] (Ret fun v z L'=>∃av,v=.tuple #[av,i64 (te (sayC r m).err).1,i64 (te (sayC r m).err).2]/\L'=[sl true dI av (sayC r m).acts]):=by
 have a:=B.hn;obtain⟨C,G,i,rfl⟩:=y.isSlice;refine bL func21 Y ntmps21 Y Y fun F w=>Z3 ?_;refine aCJ fun N=>Z8 ?_;refine bA Y Y (A4 m _ _ y a) .nil Y ?_;rintro _ K _ ⟨I,Q,q,rfl,rfl,rfl⟩ -;refine Z1 ?_;refine aCJ fun A=>cA (cQ jN Y Y Y bP (by first|(simp[Value.oneCell'];done)|exact fun c i=>El.one _ _ c i) (.cons (.cons (.cons (.cons .nil)))) gBA) ?_;refine aCK (Z6 ?_);refine bA Y Y (OA b r s m (.slice I Q q) _ H x u t B) bQ Y ?_;rintro _ L _ ⟨av,ev,M,rfl,rfl,g⟩ d;refine Z7 ?_;rcases h:(sayC r m).err with _|⟨e,p⟩
 ·rw[h]at g;obtain⟨rfl,rfl⟩:=g;refine Z3 ?_;refine bA Y Y (yE m (.slice I Q q) m.hs _ a) bQ Y ?_;rintro _ L _ ⟨rfl,rfl,rfl⟩ -;refine Z5 ?_;refine cH Y Y (Et _) Y (ZI ?_);refine uAa ?_;refine uD Y Y Y Y d ?_;exact⟨_,Y,av,Y,Y⟩
 rw[h]at g;obtain⟨f,rfl,rfl⟩:=g;refine Z3 ?_;refine bA Y Y (yE m (.slice I Q q) m.hs _ a) bQ Y ?_;rintro _ L _ ⟨rfl,rfl,rfl⟩ -;refine Z5 ?_;refine bA Y Y (H1 f e p _ [pt f (bK [i64 e,i64 p] 123)] (l.mono d) aL) bQ Y ?_;rintro _ L _ ⟨rfl,rfl,rfl⟩ -;refine ZI ?_;refine aV (aQ dQ bT) (uD Y Y Y Y d ?_);exact⟨_,Y,av,Y,Y⟩
def Vl(n c:Nat)(w:World):(binOp .eql 39 (.slice none n c) (.slice none 0 0)).run x3 w=.ok (.bool true) w:=cV
def Ir(a:Addr)(n c:Nat)(w:World):(binOp .eql 39 (.slice (some a) n c) (.slice none 0 0)).run x3 w=.ok (.bool false) w:=cV
def Cd(v:Value)(xs:List (List UInt8))(K:Hl)(hv:Ksl (aZ 9) K v xs)(p:xs.length<=1000000):Sp x3 39 [v] K [] (Ret fun u h L'=>∃a n c,u=.slice a n c/\h=K/\L'=[sl false (aZ 9) (.slice a n c) xs]):=by
 rcases hv with ⟨a,c,rfl,rfl⟩|⟨b,off,f,g,l,rfl,r,e⟩
 ·cases a with
  |some a=>
   have hv:Ksl (aZ 9) K (.slice (some a) 0 c) ([]:List aP):=.inl ⟨some a,c,rfl,rfl⟩;refine bL func39 Y ntmps39 Y Y fun F w=>Z9 ?_;refine aA (yV Y Y (fun _=>Y) (fun w=>Ir _ _ _ w)) Y (Z7 ?_);refine cG (yO (k:=aZ 9) b0) Y ?_;rintro _ K _ ⟨rfl,i,rfl,rfl⟩ -;refine Z1 ?_;refine cG (dJ (k:=(aZ 9)) (ys:=([]:List aP)) eE Y Y .here (fun w j=>dC xAC (SeesSl.at (k:=aZ 9) (.known hv) j)) cD cD) Y ?_;exact gFB
  |none=>
  refine bL func39 Y ntmps39 Y Y fun F w=>Z9 ?_;refine aA (yV Y Y (fun _=>Y) (fun w=>Vl _ _ w)) Y (ZA ?_);refine d8 (eO (aZ 9)) (Z1 ?_);exact⟨_,Y,_,_,_,Y,Y,Y⟩
 have hv:Ksl (aZ 9) K (.slice (some ⟨b,off,none⟩) xs.length f) xs:=.inr ⟨b,off,f,g,l,rfl,r,e⟩;clear r e;refine bL func39 Y ntmps39 Y Y fun F w=>Z9 ?_;refine aA (yV Y Y (fun _=>Y) (fun w=>Ir _ _ _ w)) Y (Z7 ?_);refine cG (yO (k:=aZ 9) b0) Y ?_;rintro _ K _ ⟨rfl,i,rfl,rfl⟩ -;refine Z1 ?_;refine cG (dJ (k:=(aZ 9)) (ys:=xs) eE Y Y .here (fun w j=>dC xAC (SeesSl.at (k:=aZ 9) (.known hv) j)) gAG gAG) Y ?_;exact gFB
structure CI where
 i:Nat
 v:Value
 ws:List InsV
def N5(b:Nat)(r:List aP×Tree)(s:aP)(K:Hl)(hr:gG s=.ok r)(hl:s.length<=600)(z:u5 K b r):
  Sp x3 20 [ptr b] K [] (Ret fun v K' L'=>K'=K/\∃ws,L'=[sl true cS v ws,fL ws (Cmp.script r.2)]):=by
 obtain⟨tb,cv,a,fz,hb,hS,W,p⟩:=z;have g:=m0 hr;have jf:=Cmp.script_len r.2;have l:=Cmp.script_fit g.2.1;have P:=p.length
 generalize A:Cmp.script r.2=code at*
 have je:a.length<=100000:=aH;obtain⟨ca,cn,cc,rfl⟩:=W.isSlice;refine bL func20 Y ntmps20 Y Y fun F w=>ZG ?_;refine aA (aK tX Y (.known hb) Y) Y (aA (bU (k:=cS) Y xAN Y aL) Y (Z4 ?_));refine eD (fun(q:CI)=>q.i<=a.length/\q.ws.length=q.i) (fun q=>[(3,q.v),(9,.slice ca cn cc),(10,i64 a.length),(11,i64 q.i)]) (fun _=>K) (fun q=>[sl true cS q.v q.ws,fL q.ws (code.take q.i)]) (fun q=>a.length-q.i) ⟨0,.slice none 0 0,[]⟩ ⟨xAA _,Y⟩ bM Y (fun h B=>iQ (pZ h B)) ?_;intro ⟨i,v,ws⟩ ⟨O,t⟩;dsimp only at O t ⊢;refine Z6 ?_;refine aX 12 Y (fun y=>?_) (fun y=>?_)
 ·have M:i<a.length:=aH;obtain⟨u,hu⟩:∃u,a[i]?=some u:=⟨a[i]'M,x4 M⟩;obtain⟨o,Q,C⟩:=p.get hu;obtain⟨jj,vn,jc,jb,⟨va,jg⟩,⟨vb,jh⟩,ji⟩:=u;obtain⟨rfl,rfl,rfl,rfl,rfl,d,G⟩:=C;dsimp only at d G;obtain⟨sa,sn,sc,rfl⟩:=d.isSlice;obtain⟨ta,tn,tc,rfl⟩:=G.isSlice;have H:=l o (x8 Q);refine Z6 ?_;refine aA (aW (k:=cS) eP Y aL Y Y gAJ) Y ?_;refine aA (fH (n:=0) (k:=cS) gT Y aL bZ) Y (Z1 ?_);refine aCJ fun b5=>cA (cQ gT Y Y Y bP gAF (.cons (.cons (.cons (.cons (.cons (.cons (.cons .nil))))))) gAQ) ?_;refine aCK (Z3 ?_);refine qK (anc:=[0,1,3,0,8,31,31,127,255,511]) (ord:=[0,1,3,4,2,6,5,7,8,9]) [2,5,7,9] [7,9] mixed gAD (aQ cL bT) (Z4 ?_);refine Mp Y (.none Y) Y Y Y Y (Cd _ o.a _ d (by have:=H.2.2.1;omega)) .nil Y ?_;rintro _ K _ ⟨N,S,pc,rfl,rfl,rfl⟩ -;refine⟨_,(show Tks _ _ _ from (aQ dQ bT)).sat,?_⟩
  refine Z1 ?_;refine Mp Y (.none Y) Y Y Y Y (Cd _ o.b _ G (by have:=H.2.2.2;omega)) .nil Y ?_;rintro _ K _ ⟨E,L,I,rfl,rfl,rfl⟩ -;refine⟨_,(show Tks _ _ _ from (aQ dQ bT)).sat,?_⟩
  refine l7 Y Y (.none Y) Y (bW eL Y Y cR bP aZe Y) ?_;rintro _ K _ ⟨rfl,rfl⟩ -;refine Z1 ?_;refine l7 Y Y (.none Y) Y (bW eL Y Y cR bP aZe Y) ?_;rintro _ K _ ⟨rfl,rfl⟩ -;refine Z5 ?_;refine cG (bJ (z0:=[.int .i64 0,.int .i64 0,.int .i64 0,.bool false,.slice none 0 0,.slice none 0 0,.int .i64 0]) eP qG Y Y Y Y cW) Y ?_;refine aCJ fun jd=>cG (dJ (k:=cS) (ys:=[(⟨o.op,o.n,o.tag,o.oct,⟨.slice N S pc,Y⟩,⟨.slice E L I,Y⟩,o.at_⟩:InsV)]) q5 Y Y bP (fun w j=>dC xAN (SeesSl.at (k:=cS) (.blk aL Y Y) j)) gAG gAG) Y ?_;rintro x K _ ⟨rfl,rfl,ja⟩ -;refine Z8 ?_;refine aV (aQ EI (aQ AR (aQ AR (aQ cL bT)))) (d8 (oJ (v:=⟨o.op,o.n,o.tag,o.oct,⟨.slice N S pc,Y⟩,⟨.slice E L I,Y⟩,o.at_⟩) (o:=o) Y Y Y Y Y) ?_);exact cX ⟨i+1,x,ws++[⟨o.op,o.n,o.tag,o.oct,⟨.slice N S pc,Y⟩,⟨.slice E L I,Y⟩,o.at_⟩]⟩ ⟨by (show i+1<=a.length);omega,by simp[t]⟩ (by (show a.length-(i+1)<a.length-i);omega) bM Y (fun h B=>by have e:code.take (i+1)=code.take i++[o]:=(by rw[xA2,Q];rfl);show Sat [sl true cS x _,fL _ (code.take (i+1))] h;rw[e];exact hO B)
 have f:code.take i=code:=xAJ aH;rw[f];refine ZD ?_;exact⟨_,Y,Y,ws,Y⟩
section
variable{j:Nat}{α:Type}{a b:List α}
def KR(nm:Bool)(cv hv:Value)(vs:List InsV)(code:List Ins)(m:Msg)(K:Hl)(H:Glob K)(W:Ksl cS K cv vs)(r:RIs K vs code)(y:Ksl hdEl K hv m.hs)(B:MsgOk m)(e:∀o∈code,InsOk o)(a:code.length<=1000000):
  Sp x3 35 [.bool nm,cv,msgV m hv] K [] (RunR (Mach.run nm code m)):=by
 have c:=y;obtain⟨s,u,b,rfl⟩:=y.isSlice;refine bL func35 Y ntmps35 Y Y fun F w=>Z3 ?_;refine aCJ fun h=>ZA ?_;refine bA Y Y (IX nm cv (.slice s u b) vs code m _ H W r c B e a) .nil Y ?_;rintro _ L _ ⟨d,ev,M,rfl,rfl,g⟩ p;refine Z9 ?_;refine Kg (uD Y Y Y Y p ?_);exact⟨_,Y,d,ev,M,Y,Y,g⟩
def KT(nm:Bool)(cv hv:Value)(z:Bool)(vs:List InsV)(code:List Ins)(m:Msg)(K:Hl)(H:Glob K)(B:MsgOk m)(j:∀o∈code,InsOk o)(F:code.length<=1000000):
  Sp x3 35 [.bool nm,cv,msgV m hv] K [sl false hdEl hv m.hs,sl z cS cv vs,fL vs code] (Ret fun v b L'=>∃av ev M,v=.tuple #[av,i64 (Mach.run nm code m).steps,ev]/\L'=sl false hdEl hv m.hs::sl z cS cv vs::fL vs code::sl true dI av (Mach.run nm code m).acts::M/\ErrP (Mach.run nm code m).err ev M):=by
 have h := Hm (K := K) (L1 := [sl false hdEl hv m.hs, sl z cS cv vs, fL vs code]) (L := []) (R := fun e L' => ∃ v, e = .returned v /\ ∃ av ev M, v = .tuple #[av, i64 (Mach.run nm code m).steps, ev] /\ L' = sl true dI av (Mach.run nm code m).acts :: M /\ ErrP (Mach.run nm code m).err ev M) ⟨_, func35, rfl, rfl⟩ (fun f c d => by
  have l:RIs f vs code:=by
   obtain⟨a,s,le⟩:=r6 (A:=fL vs code) (.there (.there .here)) c;exact(lP s).mono le
  exact(KR nm cv hv vs code m (K.join f) (H.mono Hl.le_join_l) ((lB (.there .here) c).mono (Hl.le_join_r d)) (l.mono (Hl.le_join_r d)) ((lB .here c).mono (Hl.le_join_r d)) B j F).mono fun e b L' q=>q)
 refine h.mono ?_;rintro e b L' ⟨i,⟨v,rfl,av,ev,M,rfl,rfl,g⟩,rfl⟩;exact⟨_,Y,av,ev,M,Y,Y,g⟩
def uE(h:a.drop j=b.drop j):a.drop (j+1)=b.drop (j+1):=by
 rw[<-List.drop_drop,<-List.drop_drop,h]
def CZ{x:α}(c:a[j]?=some x)(h:a.drop j=b.drop j):b.drop j=x::b.drop (j+1):=by
 rw[<-h,<-uE h];exact n9 c
structure PI where
 i:Nat
 ws:List InsV
structure PJ where
 k:Nat
 xs:List aP
def Lg(nm:Bool)(cv hv:Value)(vs:List InsV)(code:List Ins)(m:Msg)(K:Hl)(hg:Glob K)(hE:ErrT K)(jc:Ksl cS K cv vs)(hR:RIs K vs code)(y:Ksl hdEl K hv m.hs)(hm:MsgOk m)(l:∀o∈code,InsOk o)(jh:code.length<=1000000):
  Sp x3 18 [.bool nm,cv,msgV m hv] K [] (Ret fun v K' L'=>∃av,v=.tuple #[av,i64 (Mach.run nm code m).steps,i64 (te (Mach.run nm code m).err).1,i64 (te (Mach.run nm code m).err).2]/\L'=[sl true dI av (Mach.run nm code m).acts]):=by
 have G:=hm.hn;have jp:=hR.length;have jl:=jc;obtain⟨ha,hn,jy,rfl⟩:=y.isSlice;obtain⟨ca,cn,cc,rfl⟩:=jc.isSlice;refine bL func18 Y ntmps18 Y Y fun F w=>Z3 ?_;refine aCJ fun b5=>Z9 ?_;refine bA Y Y (A4 m _ _ y G) .nil Y ?_;rintro _ K _ ⟨oa,f,oc,rfl,rfl,rfl⟩ -;refine Z1 ?_;refine aCJ fun jb=>cA (cQ jN Y Y Y bP gBE (.cons (.cons (.cons (.cons .nil)))) gAQ) ?_;refine aCK (Z9 ?_);refine l9 (aQ cL (aQ cL bT)) (Z2 ?_);refine aA (bU (k:=cS) Y xAN Y aL) Y (Z4 ?_);refine eD (fun(q:CI)=>q.i<=vs.length/\q.ws.length=q.i) (fun q=>[(0,.bool nm),(10,ptr jb),(11,q.v),(23,.slice ca cn cc),(24,i64 vs.length),(25,i64 q.i)]) (fun _=>K) (fun q=>[sl true cS q.v q.ws,fL q.ws (code.take q.i),pt jb (bK [str m.from_,str m.to_,i64 m.size,.slice oa f oc] 28),sl false hdEl (.slice oa f oc) m.hs]) (fun q=>vs.length-q.i) ⟨0,.slice none 0 0,[]⟩ ⟨xAA _,Y⟩ bM Y (fun h y=>iQ (pZ h y)) ?_;intro ⟨i,v,ws⟩ ⟨ji,je⟩;dsimp only at ji je ⊢;refine Z6 ?_;refine aX 26 Y (fun jg=>?_) (fun jg=>?_)
 ·have s:i<vs.length:=aH;obtain⟨u,C⟩:∃u,vs[i]?=some u:=⟨vs[i]'s,x4 s⟩;obtain⟨o,z,jj⟩:=hR.get C;obtain⟨qg,vn,jv,ju,⟨va,jz⟩,⟨vb,qb⟩,qf⟩:=u;obtain⟨rfl,rfl,rfl,rfl,rfl,Q,S⟩:=jj;dsimp only at Q S;obtain⟨sa,sn,sc,rfl⟩:=Q.isSlice;obtain⟨ta,tn,tc,rfl⟩:=S.isSlice;have H:=l o (x8 z);have E:=H.an;have jt:=H.bn;refine Z6 ?_;refine aA (aW (k:=cS) eP Y aL Y Y gAJ) Y ?_;refine aA (fH (n:=0) (k:=cS) gT Y aL bZ) Y (Z1 ?_);refine aCJ fun jw=>cA (cQ gT Y Y Y bP gBE (.cons (.cons (.cons (.cons (.cons (.cons (.cons .nil))))))) gAQ) ?_;refine aCK (Z6 ?_);refine kG (eO (aZ 9)) (cG (dJ (k:=(aZ 9)) (ys:=o.a) eE Y Y .here (fun w j=>dC xAC (SeesSl.at (k:=aZ 9) (.known Q) j)) gAG gAG) Y ?_);rintro qd K _ ⟨rfl,rfl,jq⟩ -;refine oG iA ?_;rintro⟨pa,pn,pc,rfl⟩;refine Z8 ?_;refine kG (eO (aZ 9)) (cG (dJ (k:=(aZ 9)) (ys:=o.b) eE Y Y .here (fun w j=>dC xAC (SeesSl.at (k:=aZ 9) (.known S) j)) gAG gAG) Y ?_);rintro qe K _ ⟨rfl,rfl,jr⟩ -;refine oG iA ?_;rintro⟨qa,qn,qc,rfl⟩;refine Z7 ?_;refine cG (bJ (z0:=[.int .i64 0,.int .i64 0,.int .i64 0,.bool false,.slice none 0 0,.slice none 0 0,.int .i64 0]) eP qG Y Y Y Y cW) Y ?_;refine aCJ fun jx=>cG (dJ (k:=cS) (ys:=[(⟨o.op,o.n,o.tag,o.oct,⟨.slice pa pn pc,Y⟩,⟨.slice qa qn qc,Y⟩,o.at_⟩:InsV)]) q5 Y Y bP (fun w j=>dC xAN (SeesSl.at (k:=cS) (.blk aL Y Y) j)) gAG gAG) Y ?_;rintro jf K _ ⟨rfl,rfl,js⟩ -;refine Z8 ?_;refine aV (aQ AR (aQ jS (aQ AR (aQ cL (aQ jS (aQ jS bT)))))) (d8 (oJ (v:=⟨o.op,o.n,o.tag,o.oct,⟨.slice pa pn pc,Y⟩,⟨.slice qa qn qc,Y⟩,o.at_⟩) (o:=o) Y Y Y Y Y) ?_);exact cX ⟨i+1,jf,ws++[⟨o.op,o.n,o.tag,o.oct,⟨.slice pa pn pc,Y⟩,⟨.slice qa qn qc,Y⟩,o.at_⟩]⟩ ⟨by (show i+1<=vs.length);omega,by simp[je]⟩ gCO bM Y (fun h y=>by have e:code.take (i+1)=code.take i++[o]:=(by rw[xA2,z];rfl);show Sat (sl true cS jf _::fL _ (code.take (i+1))::_) h;rw[e];exact hO y)
 have jd:code.take i=code:=xAJ aH;rw[jd];refine ZA ?_;refine bA Y Y (KT nm v (.slice oa f oc) true ws code m _ hg hm l jh) bQ Y ?_;rintro _ L _ ⟨av,ev,M,rfl,rfl,g⟩ ja;refine Z9 ?_;rcases r:(Mach.run nm code m).err with _|⟨e,p⟩
 ·rw[r]at g;obtain⟨rfl,rfl⟩:=g;have jk:ws.length=code.length:=aH;refine Z3 ?_;refine bA Y Y (yE m (.slice oa f oc) m.hs _ G) bQ Y ?_;rintro _ L _ ⟨rfl,rfl,rfl⟩ -;refine Z6 ?_;refine aA (bU (k:=cS) Y xAN Y aL) Y (Z4 ?_);refine l9 (aQ cL (aQ cL (aQ cL bT))) (eD (fun(q:PI)=>q.i<=ws.length/\q.ws.length=ws.length/\q.ws.drop q.i=ws.drop q.i) (fun q=>[(11,v),(14,av),(15,i64 (Mach.run nm code m).steps),(16,.nilIface),(53,i64 ws.length),(54,i64 q.i)]) (fun _=>L) (fun q=>[sl true cS v q.ws,fL (ws.drop q.i) (code.drop q.i),sl true dI av (Mach.run nm code m).acts]) (fun q=>ws.length-q.i) ⟨0,ws⟩ ⟨xAA _,Y,Y⟩ bM Y a7 ?_);intro ⟨j,x⟩ ⟨N,d,b⟩;dsimp only at N d b ⊢;refine Z6 ?_;refine aX 55 Y (fun A=>?_) (fun A=>Z8 ?_)
  ·have a:j<x.length:=aH;obtain⟨u,C⟩:∃u,x[j]?=some u:=⟨x[j]'a,x4 a⟩;obtain⟨o,z⟩:∃o,code[j]?=some o:=⟨code[j]'(by omega),x4 aH⟩;have H:=l o (x8 z);have E:=H.an;have W:ws.drop j=u::ws.drop (j+1):=CZ C b;have P:code.drop j=o::code.drop (j+1):=n9 z;rw[W,P];refine kQ (fun h y=>fB AC y) (ZF ?_);refine aA (aW (k:=cS) (j:=j) eP Y aL Y Y a) Y ?_;refine aA (dN (k:=cS) fA Y aL a) Y ?_;refine aA (eW (k:=cS) eL Y aL C Y) Y (uAb ?_);refine Z4 ?_;refine eD (fun(q:PJ)=>q.k<=o.a.length/\q.xs.length=o.a.length) (fun q=>[(11,v),(14,av),(15,i64 (Mach.run nm code m).steps),(16,.nilIface),(17,i64 j),(53,i64 ws.length),(54,i64 j),(62,i64 o.a.length),(63,i64 q.k)]) (fun _=>L) (fun q=>[sl true cS v x,sl false (aZ 9) u.a.1 q.xs,sl false (aZ 9) u.b.1 o.b,fL (ws.drop (j+1)) (code.drop (j+1)),sl true dI av (Mach.run nm code m).acts]) (fun q=>o.a.length-q.k) ⟨0,o.a⟩ ⟨xAA _,Y⟩ bM Y a7 ?_;intro ⟨k,ys⟩ ⟨O,I⟩;dsimp only at O I ⊢;refine Z6 ?_;refine aX 64 Y (fun B=>?_) (fun B=>Z8 ?_)
   ·exact gDL
   refine uAk ?_;refine aA (aW (k:=cS) (j:=j) eP Y aL Y Y a) Y ?_;refine cA (oI (k:=cS) (y0:=⟨13,0,0,false,nilC,nilC,0⟩) gT Y Y gAJ bP) ?_;refine aCK (Z7 ?_);refine aV (aQ cL (aQ jS (aQ jS bT))) ?_;exact gDS
  refine cH Y Y (Et _) Y (ZK ?_);refine aV (aQ jS bT) (QQ Y Y Y Y Y ja ?_);exact⟨_,Y,av,Y,Y⟩
 rw[r]at g;obtain⟨fb,rfl,rfl⟩:=g;have jk:ws.length=code.length:=aH;refine Z3 ?_;refine bA Y Y (yE m (.slice oa f oc) m.hs _ G) bQ Y ?_;rintro _ L _ ⟨rfl,rfl,rfl⟩ -;refine Z6 ?_;refine aA (bU (k:=cS) Y xAN Y aL) Y (Z4 ?_);refine l9 (aQ cL (aQ cL (aQ cL (aQ cL bT)))) (eD (fun(q:PI)=>q.i<=ws.length/\q.ws.length=ws.length/\q.ws.drop q.i=ws.drop q.i) (fun q=>[(11,v),(14,av),(15,i64 (Mach.run nm code m).steps),(16,.iface 118 (ptr fb)),(53,i64 ws.length),(54,i64 q.i)]) (fun _=>L) (fun q=>[sl true cS v q.ws,fL (ws.drop q.i) (code.drop q.i),sl true dI av (Mach.run nm code m).acts,pt fb (bK [i64 e,i64 p] 123)]) (fun q=>ws.length-q.i) ⟨0,ws⟩ ⟨xAA _,Y,Y⟩ bM Y a7 ?_);intro ⟨j,x⟩ ⟨N,d,b⟩;dsimp only at N d b ⊢;refine Z6 ?_;refine aX 55 Y (fun A=>?_) (fun A=>Z8 ?_)
 ·have a:j<x.length:=aH;obtain⟨u,C⟩:∃u,x[j]?=some u:=⟨x[j]'a,x4 a⟩;obtain⟨o,z⟩:∃o,code[j]?=some o:=⟨code[j]'(by omega),x4 aH⟩;have H:=l o (x8 z);have E:=H.an;have W:ws.drop j=u::ws.drop (j+1):=CZ C b;have P:code.drop j=o::code.drop (j+1):=n9 z;rw[W,P];refine kQ (fun h y=>fB AC y) (ZF ?_);refine aA (aW (k:=cS) (j:=j) eP Y aL Y Y a) Y ?_;refine aA (dN (k:=cS) fA Y aL a) Y ?_;refine aA (eW (k:=cS) eL Y aL C Y) Y (uAb ?_);refine Z4 ?_;refine eD (fun(q:PJ)=>q.k<=o.a.length/\q.xs.length=o.a.length) (fun q=>[(11,v),(14,av),(15,i64 (Mach.run nm code m).steps),(16,.iface 118 (ptr fb)),(17,i64 j),(53,i64 ws.length),(54,i64 j),(62,i64 o.a.length),(63,i64 q.k)]) (fun _=>L) (fun q=>[sl true cS v x,sl false (aZ 9) u.a.1 q.xs,sl false (aZ 9) u.b.1 o.b,fL (ws.drop (j+1)) (code.drop (j+1)),sl true dI av (Mach.run nm code m).acts,pt fb (bK [i64 e,i64 p] 123)]) (fun q=>o.a.length-q.k) ⟨0,o.a⟩ ⟨xAA _,Y⟩ bM Y a7 ?_;intro ⟨k,ys⟩ ⟨O,I⟩;dsimp only at O I ⊢;refine Z6 ?_;refine aX 64 Y (fun B=>?_) (fun B=>Z8 ?_)
  ·exact gDL
  refine uAk ?_;refine aA (aW (k:=cS) (j:=j) eP Y aL Y Y a) Y ?_;refine cA (oI (k:=cS) (y0:=⟨13,0,0,false,nilC,nilC,0⟩) gT Y Y gAJ bP) ?_;refine aCK (Z7 ?_);refine aV (aQ cL (aQ jS (aQ jS (aQ jS bT)))) ?_;exact gDS
 refine bA Y Y (H1 fb e p _ [pt fb (bK [i64 e,i64 p] 123)] (hE.mono ja) aL) bQ Y ?_;rintro _ L _ ⟨rfl,rfl,rfl⟩ -;refine ZK ?_;refine aV (aQ AR bT) (QQ Y Y Y Y Y ja ?_);exact⟨_,Y,av,Y,Y⟩
end
end Go.Proofs
end
section
namespace Go.Say
open Go.Syn Go.Mach Go.Cmp
section
variable{o:Ins}{s:MS}{i:Nat}
structure Co where
 acts:List gI
 keep:Bool
 vars:List (aP×aP)
 parts:List aP
def Co.ms(c:Co)(pc:Nat):MS:=⟨c.acts,c.keep,c.vars,c.parts,[],pc⟩
def matO(tag:Int)(oct:Bool)(op:Int)(a b:List aP):Ins:=⟨op,0,tag,oct,a,b,0⟩
def matR(nm:Bool)(m:Msg)(o:Ins)(c:Co):Option (List aP):=iJ o (iL (cY nm c.vars c.parts) m o) (o.b.map (cY nm c.vars c.parts))
def mat(nm:Bool)(m:Msg)(o:Ins)(c:Co):Bool×Co:=
 match matR nm m o c with
 |some f=>(true,if o.tag=3/\nm=true then {c with parts:=f}else c)
 |none=>(false,c)
section
variable(nm:Bool)(m:Msg)
mutual
def holds:Tree->Co->Bool×Co
 | .const b,c=>(b,c)
 | .not_ t,c=>(!(holds t c).1,(holds t c).2)
 | .many d l,c=>qJ d l c
 | .mat S v B a b,c=>mat nm m (matO S v B a b) c
 | .exi a,c=>(lO m (a.map (cY nm c.vars c.parts)),c)
 | .siz S n,c=>(decide (S=1/\n<m.size\/S=2/\m.size<n),c)
 |_,c=>(true,c)
def qJ(all:Bool):Tree->Co->Bool×Co
 | .tcons t l,c=>if (holds t c).1=all then qJ all l (holds t c).2 else holds t c
 |_,c=>(all,c)
end
def actX(k:Int)(arg:aP):gI:=(k,if k=4 then arg.take 48 else arg)
def addX(x:gI)(p:Int)(c:Co):Res Co:=
 if x∈c.acts then .ok {c with keep:=false}
 else if ∃b∈c.acts,x.1=4\/b.1=4 then .error (10,p)
 else if c.acts.length=6 then .error (11,p)
 else .ok {c with keep:=false,acts:=c.acts++[x]}
def act(k:Int)(arg:aP)(p:Int)(c:Co):Res Co:=
 if k=2/\rL arg=false then .error (8,p)
 else if k=3/\e8 arg=false then .error (9,p)
 else addX (actX k arg) p c
def actArg(k:Int)(a:aP)(c:Co):aP:=if k=1 then []else cY nm c.vars c.parts a
def setV(t:Int)(v:aP):aP:=(if t=1 then dY v else if t=2 then qI v else if t=3 then Lib.itoa v.length else v).take 48
mutual
def run:Tree->Co->Res (Bool×Co)
 | .ccons x l,c=>match cmd x c with
  | .error e=>.error e
  | .ok r=>if r.1=true then .ok r else run l r.2
 |_,c=>.ok (false,c)
def cmd:Tree->Co->Res (Bool×Co)
 | .plain B,c=>if B=14 then .ok (true,c)else .ok (false,{c with keep:=false})
 | .act k a p,c=>match act k (actArg nm k a c) p c with
  | .error e=>.error e
  | .ok d=>.ok (false,d)
 | .set_ n v t,c=>.ok (false,{c with vars:=vput c.vars n (setV t (cY nm c.vars c.parts v))})
 | .iff s,c=>brs s c
 |_,c=>.ok (false,c)
def brs:Tree->Co->Res (Bool×Co)
 | .bcons t b l,c=>if (holds nm m t c).1=true then run b (holds nm m t c).2 else brs l (holds nm m t c).2
 | .belse b _,c=>run b c
 |_,c=>.ok (false,c)
end
end
def start:Co:=⟨[],true,[],[]⟩
def done(c:Co):List gI:=if c.keep=true then c.acts++[(1,[])]else c.acts
def out(r:Res (Bool×Co)):List gI×Option (Int×Int):=match r with
 | .error e=>([(1,[])],some e)
 | .ok r=>(done r.2,none)
section
variable{nm:Bool}{m:Msg}{C:List Ins}
def fin(nm:Bool)(m:Msg)(C:List Ins)(s:MS):List gI×Option (Int×Int):=((loop nm m C (C.length+1-s.pc) 0 s).acts,(loop nm m C (C.length+1-s.pc) 0 s).err)
def Iy:∀(f g st a:Nat) (s:MS),s.pc<=C.length->C.length<f+s.pc->C.length<g+s.pc->
  ((loop nm m C f st s).acts,(loop nm m C f st s).err)=((loop nm m C g a s).acts,(loop nm m C g a s).err)
 |0,g,st,a,s,h,b,c=>by omega
 |f+1,0,st,a,s,h,b,c=>by omega
 |f+1,g+1,st,a,s,h,b,c=>by
  unfold loop;split
  ·rfl
  rename_i o q;have p:s.pc<C.length:=by
   rcases xAD s.pc C.length with e|e
   ·exact e
   exact gGU
  split
  ·rfl
  split
  ·rfl
  rename_i t I;have:=AK I p;exact Iy f g _ _ _ gCQ gCQ gCQ
def UL(h:s.pc=C.length):fin nm m C s=(if s.keep=true then s.acts++[(1,[])]else s.acts,none):=by
 unfold fin;rw[show C.length+1-s.pc=0+1 from aH];unfold loop;rw[xAH aH]
def Rs(q:C[s.pc]?=some o)(h:o.op=14):fin nm m C s=(if s.keep=true then s.acts++[(1,[])]else s.acts,none):=by
 have p:s.pc<C.length:=by
  rcases xAD s.pc C.length with e|e
  ·exact e
  exact gGU
 unfold fin;rw[show C.length+1-s.pc=(C.length-s.pc)+1 from aH];unfold loop;rw[q];simp only[h,if_true]
def UM{e:Int×Int}(q:C[s.pc]?=some o)(h:o.op≠14)(c:Mach.step nm m C.length o s=.error e):fin nm m C s=([(1,[])],some e):=by
 have p:s.pc<C.length:=by
  rcases xAD s.pc C.length with a|a
  ·exact a
  rw[xAH a]at q;cases q
 unfold fin;rw[show C.length+1-s.pc=(C.length-s.pc)+1 from aH];unfold loop;rw[q];simp only[if_neg h,c]
def tH{t:MS}(q:C[s.pc]?=some o)(h:o.op≠14)(c:Mach.step nm m C.length o s=.ok t):fin nm m C s=fin nm m C {t with pc:=t.pc+1}:=by
 have p:s.pc<C.length:=by
  rcases xAD s.pc C.length with e|e
  ·exact e
  exact gGU
 have hp:=AK c p;unfold fin;rw[show C.length+1-s.pc=(C.length-s.pc)+1 from by omega,loop];rw[q];simp only[if_neg h,c];exact Iy _ _ _ _ _ gCQ gCQ gCQ
theorem Ij{c:Co}{T:Nat}(q:C[i]?=some {jmp 3 with n:=(T:Int)-1-i})(h:i+1<=T)(b:T<=C.length):fin nm m C (c.ms i)=fin nm m C (c.ms T):=by
 have a:Mach.step nm m C.length {jmp 3 with n:=(T:Int)-1-i} (c.ms i)=.ok {c.ms i with pc:=i+(((T:Int)-1-i).toNat)}:=by
  unfold Mach.step jump;simp only[jmp,Co.ms];rw[x6 dD,x6 dD,x7 trivial,x7 aH];rfl
 rw[tH q (by simp[jmp]) a]
 congr 1
 simp only[Co.ms]
 congr 1
 omega
def Dm{c d:Co}{b l:Bool}{T:Nat}(q:C[i]?=some o)(a:o.op≠14)(f:Mach.step nm m C.length o (c.ms i)=.ok {d.ms i with stack:=[b]})
  (E:C[i+1]?=some {jmp (if l=true then 4 else 5)with n:=(T:Int)-1-(i+1:Nat)}) (h:i+2<=T) (g:T<=C.length):fin nm m C (c.ms i)=fin nm m C (d.ms (if b=l then T else i+2)):=by
 rw[tH q a f];have t:Mach.step nm m C.length {jmp (if l=true then 4 else 5)with n:=(T:Int)-1-(i+1:Nat)} {d.ms i with stack:=[b],pc:=i+1}=.ok (d.ms (if b=l then i+1+(((T:Int)-1-(i+1:Nat)).toNat)else i+1)):=by
  cases l
  ·unfold Mach.step pop jump;simp only[jmp,Co.ms];cases b<;>simp<;>omega
  unfold Mach.step pop jump;simp only[jmp,Co.ms,if_true];cases b<;>simp<;>omega
 have e:{({d.ms i with stack:=[b]}:MS)with pc:=({d.ms i with stack:=[b]}:MS).pc+1}={d.ms i with stack:=[b],pc:=i+1}:=rfl;rw[e,tH (o:={jmp (if l=true then 4 else 5)with n:=(T:Int)-1-(i+1:Nat)}) E (by cases l<;>simp[jmp]) t]
 congr 1
 simp only[Co.ms]
 congr 1
 split<;>omega
end
end
section
variable{a all b h:Bool}{c:Co}{o:Ins}{tag:Int}{ops:List Ins}{i:Nat}{l t:Tree}
def Ik(n:Int):∀(ps:List Nat) (o:List Ins) (i:Nat),(ps.foldl (fun o k=>setN o k (n-1-k)) o)[i]?=if i∈ps then (o[i]?).map (fun x=>{x with n:=n-1-i})else o[i]?:=by
 intro ps;induction ps with
 |nil=>intro o i;simp
 |cons k ps w=>
  intro o i;rw[List.foldl_cons,w];unfold setN;rw[List.getElem?_modify]
  by_cases h:k=i
  ·subst h
   by_cases b:k∈ps<;>cases o[k]?<;>simp[b]
  by_cases b:i∈ps<;>cases o[i]?<;>simp[b,h,Ne.symm h]
theorem iZ(ops:List Ins)(ps:List Nat)(i:Nat):(land ops ps)[i]?=if i∈ps then (ops[i]?).map (fun x=>{x with n:=(ops.length:Int)-1-i})else ops[i]?:=Ik _ ps ops i
theorem pR:∀(t:Tree),(∀d ops,(∀i,i<ops.length->(unl t d ops).1[i]?=ops[i]?)/\∀k∈(unl t d ops).2,ops.length<=k)/\
  (∀ all d ops c g,(∀ i,i<ops.length -> (unlL all d t ops c g).1[i]? = ops[i]?) /\ (∀ k ∈ (unlL all d t ops c g).2.1,k ∈ c \/ ops.length <= k) /\ (∀ k ∈ (unlL all d t ops c g).2.2,k ∈ g \/ ops.length <= k) /\
   (∀k∈c,k∈(unlL all d t ops c g).2.1)/\(∀k∈g,k∈(unlL all d t ops c g).2.2)):=by
 intro t;have app:∀(ops x:List Ins) (i:Nat),i<ops.length->(ops++x)[i]?=ops[i]?:=fun ops x i h=>xA8 h
 induction t with
 |const b=>
  grind [unlL,unl]
 |not_ t w=>
  grind [unlL,unl]
 |many all l w=>
  grind [unlL,unl,iZ]
 |mat tag v B a b=>
  grind [unlL,unl]
 |exi a=>
  grind [unlL,unl]
 |siz tag n=>
  grind [unlL,unl]
 |tcons t l A f=>
  refine⟨fun d ops=>by simp[unl],fun all d ops c g=>?_⟩
  simp only[unlL];split
  ·have G:=((lS t).1 (!d) ops).1;have p:=A.1 (!d) ops;have e:=f.2 all d (unl t (!d) ops).1 c (g++(unl t (!d) ops).2);refine⟨fun i q=>(e.1 i aH).trans (p.1 i q),fun k j=>(e.2.1 k j).imp_right aH,fun k j=>?_,e.2.2.2.1,fun k j=>e.2.2.2.2 k (List.mem_append_left _ j)⟩;rcases e.2.2.1 k j with h|h<;>grind
  have G:=((lS t).1 d ops).1;have p:=A.1 d ops;have e:=f.2 all d (unl t d ops).1 (c++(unl t d ops).2) g;refine⟨fun i q=>(e.1 i aH).trans (p.1 i q),fun k j=>?_,fun k j=>(e.2.2.1 k j).imp_right aH,fun k j=>e.2.2.2.1 k (List.mem_append_left _ j),e.2.2.2.2⟩;rcases e.2.1 k j with h|h<;>grind
 |_=>
  grind [unl,unlL]
def Agr(C b:List Ins)(a:Nat)(ps:List Nat):Prop:=∀i,a<=i->i<b.length->i∉ps->C[i]?=b[i]?
def Jmp(C b:List Ins)(a:Nat)(ps:List Nat)(T:Nat):Prop:=∀k∈ps,a<=k->C[k]?=(b[k]?).map fun o=>{o with n:=(T:Int)-1-k}
theorem Y4(all a:Bool):∀(t:Tree) ops c g,(∀k∈c,k<ops.length)->(∀k∈g,k<ops.length)->(∀k∈c,k∉g)->∀k∈(unlL all a t ops c g).2.1,k∉(unlL all a t ops c g).2.2:=by
 intro t;induction t with
 |tcons t l A i=>
  intro ops c g s y hd;simp only[unlL];split
  ·have F:=(lS t).1 (!a) ops;have L:=((pR t).1 (!a) ops).2;refine i _ _ _ (fun k j=>by have:=s k j;omega) (fun k j=>?_) (fun k j H=>?_)<;>grind
  have F:=(lS t).1 a ops;have L:=((pR t).1 a ops).2;refine i _ _ _ (fun k j=>?_) (fun k j=>by have:=y k j;omega) (fun k j H=>?_)<;>grind
 |_=>intro ops c g s y hd;simp only[unlL];exact hd
def YZ(d:a=b)(c:¬h=a):h=!b:=by cases a<;>cases b<;>cases h<;>simp at*
def W8(d:a≠b)(c:¬h=a):h=b:=by cases a<;>cases b<;>cases h<;>simp at*
def aAA(b:Bool):¬b=!b:=by cases b<;>simp
def R6{α:Type}{x y:α}:(if a=!b then x else y)=if (!a)=b then x else y:=by cases a<;>cases b<;>rfl
section
variable{nm:Bool}{m:Msg}{C:List Ins}
theorem Bj(h:(holds nm m t c).1=all):qJ nm m all (.tcons t l) c=qJ nm m all l (holds nm m t c).2:=by simp only[qJ];exact x7 h
def zB(h:¬(holds nm m t c).1=all):qJ nm m all (.tcons t l) c=holds nm m t c:=by simp only[qJ];exact x6 h
theorem T5{oct:Bool}{op:Int}{a b:List aP}(h:1<=tag/\tag<=3/\6<=op/\op<=8):
  Mach.step nm m C.length ⟨op,0,tag,oct,a,b,0⟩ (c.ms i)=.ok {(mat nm m (matO tag oct op a b) c).2.ms i with stack:=[(mat nm m (matO tag oct op a b) c).1]}:=by
 unfold Mach.step;simp only[];rw[x6 aH,x6 aH,x6 aH,x6 aH,x6 aH,x7 aH];unfold matchI;simp only[];rw[x7 ⟨h.1,h.2.1,by simp[Co.ms]⟩];unfold mat matR matO;simp only[Co.ms];cases iJ ⟨op,0,tag,oct,a,b,0⟩ (iL (cY nm c.vars c.parts) m ⟨op,0,tag,oct,a,b,0⟩) (b.map (cY nm c.vars c.parts))<;>grind [matchI,Co.ms,mat,matR,matO,push]
def T4{a:List aP}:
  Mach.step nm m C.length ⟨9,0,0,false,a,[],0⟩ (c.ms i)=.ok {c.ms i with stack:=[lO m (a.map (cY nm c.vars c.parts))]}:=by
 unfold Mach.step;simp only[];rw[x6 aH,x6 aH,x6 aH,x6 aH,x6 aH,x6 aH,x7 trivial];simp[push,Co.ms]
def T7{n:Int}(h:tag=1\/tag=2):
  Mach.step nm m C.length ⟨10,n,tag,false,[],[],0⟩ (c.ms i)=.ok {c.ms i with stack:=[decide (tag=1/\n<m.size\/tag=2/\m.size<n)]}:=by
 unfold Mach.step;simp only[];rw[x6 aH,x6 aH,x6 aH,x6 aH,x6 aH,x6 aH,x6 aH,x7 trivial,x7 h];simp[push,Co.ms]
theorem two{j:Ins}{T:Nat}(a:Agr C (ops++[o,j]) ops.length [ops.length+1])(Q:Jmp C (ops++[o,j]) ops.length [ops.length+1] T):
  C[ops.length]?=some o/\C[ops.length+1]?=some {j with n:=(T:Int)-1-(ops.length+1:Nat)}:=by
 grind [Agr,Jmp]
theorem Uf : ∀ (t:Tree),okT t=true -> (∀ e ops (T:Nat) (c:Co),wf t 0=true -> Agr C (unl t e ops).1 ops.length (unl t e ops).2 -> Jmp C (unl t e ops).1 ops.length (unl t e ops).2 T -> (unl t e ops).1.length <= T -> T <= C.length ->
   fin nm m C (c.ms ops.length)=fin nm m C ((holds nm m t c).2.ms (if (holds nm m t c).1=e then T else (unl t e ops).1.length)))/\
  (∀ all e ops d g (T:Nat) (c:Co),wf t 1=true -> gV t=false -> (∀ k ∈ d,k<ops.length) -> (∀ k ∈ g,k<ops.length) ->
   (∀i,ops.length<=i->i<(unlL all e t ops d g).1.length->i∉(unlL all e t ops d g).2.1->i∉(unlL all e t ops d g).2.2->C[i]?=(unlL all e t ops d g).1[i]?)->
   Jmp C (unlL all e t ops d g).1 ops.length (unlL all e t ops d g).2.1 T->Jmp C (unlL all e t ops d g).1 ops.length (unlL all e t ops d g).2.2 (unlL all e t ops d g).1.length->
   (unlL all e t ops d g).1.length<=T->T<=C.length->
   fin nm m C (c.ms ops.length)=fin nm m C ((qJ nm m all t c).2.ms (if (qJ nm m all t c).1=e then T else (unlL all e t ops d g).1.length))):=by
 intro t;induction t with
 |const b=>
  grind [wf,unl,Agr,Jmp,holds,Ij]
 |not_ t S=>
  intro f;refine⟨fun e ops T c j r Q q v=>?_,fun all e ops d g T c j=>by simp[wf]at j⟩
  simp only[unl]at r Q q ⊢;simp only[wf,beq_self_eq_true,Bool.true_and]at j;rw[(S f).1 (!e) ops T c j r Q q v];simp only[holds];rw[R6];rfl
 |many all l S=>
  intro f;refine⟨fun e ops T c j r Q q v=>?_,fun all e ops d g T c j=>by simp[wf]at j⟩
  simp only[okT,Bool.and_eq_true,Bool.not_eq_true']at f;simp only[wf,beq_self_eq_true,Bool.true_and]at j;simp only[unl]at r Q q ⊢;rw[dR]at q ⊢;have hp:=(pR l).2 all e ops [] [];have G:∀k,k∈(unlL all e l ops [] []).2.1->k∉(unlL all e l ops [] []).2.2:=Y4 all e l ops [] [] cD cD cD;simp only[holds];refine(S f.2).2 all e ops [] [] T c j f.1 cD cD (fun i B s P I=>?_) (fun k p y=>?_) (fun k p y=>?_) q v
  ·rw[r i B (by rw[dR];exact s) P,iZ,x6 I]
  ·rw[Q k p y,iZ,x6 (G k p)]
  rw[r k y (by rw[dR];exact((lS l).2 all e ops [] [] cD cD).2.2.2.2.2 k p) (fun h=>G k h p),iZ,x7 p]
 |mat tag ja op a b=>
  intro f;refine⟨fun e ops T c j r Q q v=>?_,fun all e ops d g T c j=>by simp[wf]at j⟩
  simp only[okT,decide_eq_true_eq]at f;simp only[unl]at r Q q ⊢;obtain⟨M,O⟩:=two r Q;simp only[List.length_append,List.length_cons,List.length_nil]at q ⊢;simp only[holds];exact Dm M gCQ (T5 f) O q v
 |exi a=>
  intro f;refine⟨fun e ops T c j r Q q v=>?_,fun all e ops d g T c j=>by simp[wf]at j⟩
  simp only[unl]at r Q q ⊢;obtain⟨M,O⟩:=two r Q;simp only[List.length_append,List.length_cons,List.length_nil]at q ⊢;simp only[holds];exact Dm M cD T4 O q v
 |siz tag n=>
  intro f;refine⟨fun e ops T c j r Q q v=>?_,fun all e ops d g T c j=>by simp[wf]at j⟩
  simp only[okT,decide_eq_true_eq]at f;simp only[unl]at r Q q ⊢;obtain⟨M,O⟩:=two r Q;simp only[List.length_append,List.length_cons,List.length_nil]at q ⊢;simp only[holds];exact Dm M cD (T7 f) O q v
 |tcons t l K W=>
  intro f;refine⟨fun e ops T c j=>by simp[wf]at j,fun all e ops d g T c j hn y N r Q E q v=>?_⟩
  simp only[okT,Bool.and_eq_true]at f;simp only[wf,beq_self_eq_true,Bool.true_and,Bool.and_eq_true]at j;simp only[unlL]at r Q E q ⊢
  by_cases A:all=e/\gV l=false
  ·simp only[if_pos A]at r Q E q ⊢;have L:=(lS t).1 (!e) ops;have p0:=(pR t).1 (!e) ops;have z:=(pR l).2 all e (unl t (!e) ops).1 d (g++(unl t (!e) ops).2);have x:∀k∈g++(unl t (!e) ops).2,k<(unl t (!e) ops).1.length:=fun k p=>by
    rcases xA5.1 p with h|h
    ·have:=N k h;omega
    exact L.2.2.2 k h
   have w:∀k∈d,k<(unl t (!e) ops).1.length:=fun k p=>by have:=y k p;omega
   have l1 := (lS l).2 all e (unl t (!e) ops).1 d (g ++ (unl t (!e) ops).2) w x;have M := (K f.1).1 (!e) ops (unlL all e l (unl t (!e) ops).1 d (g ++ (unl t (!e) ops).2)).1.length c j.1 (fun i B s P => by
     rw [r i B aH (fun h => by
       rcases z.2.1 i h with h|h
       ·have:=y i h;omega
       ·omega) (fun h => by
       rcases z.2.2.1 i h with h|h
       ·rcases xA5.1 h with h|h
        ·have:=N i h;omega
        exact P h
       omega)]
     exact z.1 i s) (fun k p H => by
     rw[E k (z.2.2.2.2 k (List.mem_append_right _ p)) H,z.1 k (L.2.2.2 k p)]) l1.1 aH
   rw[M]
   by_cases u:(holds nm m t c).1=all
   ·rw[x6 (by rw[u,A.1];exact aAA e),Bj u];exact(W f.2).2 all e _ d _ T _ j.2 A.2 w x (fun i B s P I=>r i aH s P I) (fun k p H=>Q k p aH) (fun k p H=>E k p aH) q v
   rw[zB u,x7 (YZ A.1 u),x6 (by rw[<-A.1];exact u)]
  simp only[if_neg A]at r Q E q ⊢;have L:=(lS t).1 e ops;have p0:=(pR t).1 e ops;have z:=(pR l).2 all e (unl t e ops).1 (d++(unl t e ops).2) g;have w:∀k∈d++(unl t e ops).2,k<(unl t e ops).1.length:=fun k p=>by
   rcases xA5.1 p with h|h
   ·have:=y k h;omega
   exact L.2.2.2 k h
  have x:∀k∈g,k<(unl t e ops).1.length:=fun k p=>by have:=N k p;omega
  have l1 := (lS l).2 all e (unl t e ops).1 (d ++ (unl t e ops).2) g w x;have M := (K f.1).1 e ops T c j.1 (fun i B s P => by
    rw [r i B aH (fun h => by
      rcases z.2.1 i h with h|h
      ·rcases xA5.1 h with h|h
       ·have:=y i h;omega
       exact P h
      ·omega) (fun h => by
      rcases z.2.2.1 i h with h|h
      ·have:=N i h;omega
      omega)]
    exact z.1 i s) (fun k p H => by
    rw[Q k (z.2.2.2.1 k (List.mem_append_right _ p)) H,z.1 k (L.2.2.2 k p)]) aH v
  rw[M]
  by_cases I:gV l=true
  ·have el:l=.tnil:=by cases l<;>simp[wf,gV]at j I;rfl
   subst el;simp only[unlL]
   by_cases u:(holds nm m t c).1=all
   ·rw[Bj u];simp only[qJ];rw[u];rfl
   rw[zB u]
  have F:all≠e:=fun h=>A ⟨h,by simpa using I⟩
  by_cases u:(holds nm m t c).1=all
  ·grind [Agr,Jmp,Bj]
  rw[zB u,x7 (W8 F u),x7 (W8 F u)]
 |_=>grind [wf,gV,Agr,Jmp]
theorem xE:∀(t:Tree),(∀ops,∀i,i<ops.length->(body t ops)[i]?=ops[i]?)/\(∀ops,∀i,i<ops.length->(cmdI t ops)[i]?=ops[i]?)/\(∀ops out,∀i,i<ops.length->i∉out->(dL t ops out)[i]?=ops[i]?):=by
 intro t;have app:∀(ops x:List Ins) (i:Nat),i<ops.length->(ops++x)[i]?=ops[i]?:=fun ops x i h=>xA8 h
 have e:∀(ops:List Ins) (out:List Nat) i,i∉out->(land ops out)[i]?=ops[i]?:=fun ops out i h=>by rw[iZ,x6 h]
 induction t with
 |plain B=>grind [body,out,cmdI,dL]
 |act k a p=>grind [body,out,cmdI,dL]
 |set_ n v t=>grind [body,out,cmdI,dL]
 |iff s w=>grind [body,cmdI,out,dL]
 |ccons c l A d=>
  refine⟨fun ops i h=>?_,fun ops i h=>by simp[cmdI],fun ops out i h u=>e _ _ _ u⟩
  have:=((mK c).2.1 ops).1;simp only[body];rw[d.1 _ i aH,A.2.1 ops i h]
 |belse b l A d=>
  grind [body,cmdI,dL]
 |bcons t b l A d N=>
  refine⟨fun ops i h=>by simp[body],fun ops i h=>by simp[cmdI],fun ops out i h u=>?_⟩
  have P:=(lS t).1 false ops;have L:=(pR t).1 false ops;have f:=((mK b).1 (unl t false ops).1).1;have I:i∉(unl t false ops).2:=fun j=>by have:=L.2 i j;omega
  simp only[dL];split
  ·grind [dR]
  rw[N.2.2 _ _ i (by rw[dR];simp;omega) (by simp;exact⟨u,aH⟩),e _ _ _ I,app _ _ i aH,d.1 _ i aH,L.1 i h]
 |_=>grind [body,cmdI,out,dL]
def U0:∀(t:Tree),wf t 4=true->∀ops out,(∀k∈out,k<ops.length)->∀k∈out,(dL t ops out)[k]?=(ops[k]?).map fun o=>{o with n:=((dL t ops out).length:Int)-1-k}:=by
 intro t;induction t with
 |bnil=>intro e ops out a k j;simp only[dL];rw[iZ,x7 j,dR]
 |belse b l A i=>
  intro e ops out a k j;simp only[dL];rw[iZ,x7 j,dR,(xE b).1 ops k (a k j)]
 |bcons t b l A i N=>
  intro e ops out a k j;simp only[wf,beq_self_eq_true,Bool.true_and,Bool.and_eq_true]at e;have P:=(lS t).1 false ops;have L:=(pR t).1 false ops;have c:=((mK b).1 (unl t false ops).1).1;have I:k∉(unl t false ops).2:=fun g=>by have:=L.2 k g;have:=a k j;omega
  have H:=a k j;simp only[dL];split
  ·rw[N e.2.2 _ out (fun q g=>by rw[dR];have:=a q g;omega) k j,iZ,x6 I,(xE b).1 _ k aH,L.1 k H]
  rw [N e.2.2 _ _ (fun q g => by
   rw[dR,xAE,xBI];rcases xA5.1 g with h|h
   ·have:=a q h;omega
   simp at h;omega) k (List.mem_append_left _ j),iZ,x6 I,xA8 aH,(xE b).1 _ k aH,L.1 k H]
 |_=>intro e;simp[wf]at e
def V7(k:Int)(a:aP)(p:Int)(c:Co)(i n:Nat)(h:1<=k/\k<=4):Mach.step nm m n ⟨11,0,k,false,if k=1 then []else [a],[],p⟩ (c.ms i)=match act k (actArg nm k a c) p c with
  | .error e=>.error e
  | .ok d=>.ok (d.ms i):=by
 unfold Mach.step;simp only[];rw[x6 dD,x6 dD,x6 dD,x6 dD,x6 dD,x6 dD,x6 dD,x6 dD,x7 trivial];unfold actI act addX;simp only[];have M:actA nm ⟨11,0,k,false,if k=1 then []else [a],[],p⟩ (c.ms i)=actArg nm k a c:=by
  unfold actA actArg;simp only[Co.ms]
  by_cases j:k=1
  ·rw[x7 j,x7 j]
  rw[x6 j,x6 j,x6 j];rfl
 rw[M,x7 (by by_cases j:k=1;exact .inl j;exact .inr ⟨aH,aH,by rw[x6 j];simp⟩)]
 generalize actArg nm k a c=x
 have O:actV ⟨11,0,k,false,if k=1 then []else [a],[],p⟩ x=actX k x:=rfl;rw[O]
 generalize actX k x=X
 have q:(c.ms i).acts=c.acts:=rfl;rw[q]
 by_cases f:k=2/\rL x=false
 ·rw[x7 f,x7 f]<;>rfl
 rw[x6 f,x6 f]
 by_cases g:k=3/\e8 x=false
 ·rw[x7 g,x7 g]<;>rfl
 rw[x6 g,x6 g]
 by_cases l:X∈c.acts
 ·rw[x7 l,x7 l]<;>rfl
 rw[x6 l,x6 l]
 by_cases z:∃b∈c.acts,X.1=4\/b.1=4
 ·rw[x7 z,x7 z]<;>rfl
 rw[x6 z,x6 z]
 by_cases F:c.acts.length=6
 ·rw[x7 F,x7 F]<;>rfl
 rw[x6 F,x6 F]<;>rfl
def V9(x v:aP)(t:Int)(c:Co)(i n:Nat)(h:0<=t/\t<=3):Mach.step nm m n ⟨12,0,t,false,[x],[v],0⟩ (c.ms i)=.ok (({c with vars:=vput c.vars x (setV t (cY nm c.vars c.parts v))}:Co).ms i):=by
 unfold Mach.step;simp only[];rw[x6 dD,x6 dD,x6 dD,x6 dD,x6 dD,x6 dD,x6 dD,x6 dD,x6 dD,x7 trivial];unfold setI setV;simp only[];rw[x7 h];rfl
def goOn(nm:Bool)(m:Msg)(C:List Ins)(T:Nat):Res (Bool×Co)->List gI×Option (Int×Int)
 | .error e=>([(1,[])],some e)
 | .ok r=>if r.1=true then (done r.2,none)else fin nm m C (r.2.ms T)
def last(a:Agr C (ops++[o]) ops.length []):C[ops.length]?=some o:=by
 rw[a ops.length (xAG _) cD cD];simp
theorem Pq:∀(t:Tree),okT t=true->(∀ops c,wf t 3=true->Agr C (body t ops) ops.length []->(body t ops).length<=C.length->fin nm m C (c.ms ops.length)=goOn nm m C (body t ops).length (Say.run nm m t c))/\
  (∀ops c,wf t 2=true->Agr C (cmdI t ops) ops.length []->(cmdI t ops).length<=C.length->fin nm m C (c.ms ops.length)=goOn nm m C (cmdI t ops).length (Say.cmd nm m t c))/\
  (∀ops out c,wf t 4=true->(∀k∈out,k<ops.length)->Agr C (dL t ops out) ops.length []->(dL t ops out).length<=C.length->fin nm m C (c.ms ops.length)=goOn nm m C (dL t ops out).length (Say.brs nm m t c)):=by
 intro t;induction t with
 |plain op=>
  intro g;refine⟨fun ops c f=>by simp[wf]at f,fun ops c f r s=>?_,fun ops out c f=>by simp[wf]at f⟩
  simp only[okT,decide_eq_true_eq]at g;simp only[cmdI]at r s ⊢;have e:=last r;simp only[Say.cmd];rcases g with rfl|rfl
  ·rw[x6 dD];rw[tH (t:={c.ms ops.length with keep:=false}) e (by simp[jmp]) (by unfold Mach.step;simp[jmp])];exact gHC
  rw[x7 rfl,Rs e rfl];simp only[goOn,if_true];rfl
 |act k a p=>
  intro g;refine⟨fun ops c f=>by simp[wf]at f,fun ops c f r s=>?_,fun ops out c f=>by simp[wf]at f⟩
  simp only[okT,decide_eq_true_eq]at g;simp only[cmdI]at r s ⊢;have e:=last r;have I:=V7 (nm:=nm) (m:=m) k a p c ops.length C.length g;simp only[Say.cmd];cases M:act k (actArg nm k a c) p c with
  |error e1=>
   rw[M]at I;rw[UM e cD I];rfl
  |ok d=>
   rw[M]at I;rw[tH e cD I];exact gHC
 |set_ n v tg=>
  intro g;refine⟨fun ops c f=>by simp[wf]at f,fun ops c f r s=>?_,fun ops out c f=>by simp[wf]at f⟩
  simp only[okT,decide_eq_true_eq]at g;simp only[cmdI]at r s ⊢;have e:=last r;rw[tH e cD (V9 n v tg c ops.length C.length g)];simp only[Say.cmd,goOn,List.length_append,List.length_singleton];rfl
 |iff bs ih=>
  intro g;refine⟨fun ops c f=>by simp[wf]at f,fun ops c f r s=>?_,fun ops out c f=>by simp[wf]at f⟩
  simp only[wf,beq_self_eq_true,Bool.true_and]at f;simp only[cmdI]at r s ⊢;rw[(ih g).2.2 ops [] c f cD r s]
  rfl
 |cnil=>
  intro g;refine⟨fun ops c f r s=>?_,fun ops c f=>by simp[wf]at f,fun ops out c f=>by simp[wf]at f⟩
  simp[body,Say.run,goOn]
 |ccons x l A y=>
  intro g;refine⟨fun ops c f r s=>?_,fun ops c f=>by simp[wf]at f,fun ops out c f=>by simp[wf]at f⟩;simp only[okT,Bool.and_eq_true]at g;simp only[wf,beq_self_eq_true,Bool.true_and,Bool.and_eq_true]at f;simp only[body]at r s ⊢;have l1:=(mK x).2.1 ops;have l2:=(mK l).1 (cmdI x ops);have p2:=(xE l).1 (cmdI x ops);rw[(A g.1).2.1 ops c f.1 (fun i w j _=>by rw[r i w aH cD,p2 i j]) aH];simp only[Say.run];cases M:Say.cmd nm m x c<;>grind [wf,okT,body,goOn,Agr]
 |bnil=>
  intro g;refine⟨fun ops c f=>by simp[wf]at f,fun ops c f=>by simp[wf]at f,fun ops out c f B r s=>?_⟩
  simp only[dL,dR,Say.brs,goOn,Bool.false_eq_true,if_false]
 |belse b l A y=>
  intro g;refine⟨fun ops c f=>by simp[wf]at f,fun ops c f=>by simp[wf]at f,fun ops out c f B r s=>?_⟩
  simp only[okT,Bool.and_eq_true]at g;simp only[wf,beq_self_eq_true,Bool.true_and,Bool.and_eq_true]at f;simp only[dL]at r s ⊢;rw[dR]at s ⊢;simp only[Say.brs];exact(A g.1).1 ops c f.1 (fun i w j _=>by rw[r i w (by rw[dR];exact j) cD,iZ,x6 (fun h=>by have:=B i h;omega)]) s
 |bcons t b l A y N=>
  intro g;refine⟨fun ops c f=>by simp[wf]at f,fun ops c f=>by simp[wf]at f,fun ops out c f B r s=>?_⟩
  simp only[okT,Bool.and_eq_true]at g;simp only[wf,beq_self_eq_true,Bool.true_and,Bool.and_eq_true]at f;have P:=(lS t).1 false ops;have p0:=(pR t).1 false ops;have O:=(mK b).1 (unl t false ops).1;have K:=(xE b).1 (unl t false ops).1;have F:∀i,ops.length<=i->i∉out:=fun i w h=>by have:=B i h;omega
  have G:∀i,(unl t false ops).1.length<=i->i∉(unl t false ops).2:=fun i w h=>by have:=P.2.2.2 i h;omega
  simp only[dL]at r s ⊢;simp only[Say.brs]
  by_cases L:gV l=true
  ·have W:l=.bnil:=by cases l<;>simp[wf,gV]at f L;rfl
   subst W;simp only[if_pos L]at r s ⊢;simp only[dL,dR]at r s ⊢;have u:∀i,ops.length<=i->i<(body b (unl t false ops).1).length->C[i]?=(land (body b (unl t false ops).1) (unl t false ops).2)[i]?:=fun i w j=>by
    rw[r i w (by rw[dR,dR];exact j) cD,iZ _ out,x6 (F i w)]
   rw [(Uf t g.1).1 false ops (body b (unl t false ops).1).length c f.1 (fun i w j S => by rw [u i w aH, iZ, x6 S, K i j])
    (fun k z H=>by have:=P.2.2.2 k z;rw[u k H aH,iZ,x7 z,K k this]) O.1 s]
   cases hh:(holds nm m t c).1 with
   |true=>
    grind [Agr,iZ]
   |false=>simp only[if_true,Bool.false_eq_true,if_false,Say.brs,goOn]
  simp only[if_neg L]at r s ⊢;have l3:=(mK l).2.2 (land (body b (unl t false ops).1++[jmp 3]) (unl t false ops).2) (out++[(body b (unl t false ops).1).length]);rw[dR,xAE,xBI]at l3;have E:∀k∈out++[(body b (unl t false ops).1).length],k<(land (body b (unl t false ops).1++[jmp 3]) (unl t false ops).2).length:=fun q hq=>by
   rw[dR,xAE,xBI];rcases xA5.1 hq with h|h
   ·have:=B q h;omega
   simp at h;omega
  have u:∀i,ops.length<=i->i<(body b (unl t false ops).1).length->C[i]?=(land (body b (unl t false ops).1++[jmp 3]) (unl t false ops).2)[i]?:=fun i w j=>by
   rw[r i w aH cD,(xE l).2.2 _ _ i (by rw[dR];simp;omega) (by simp;exact⟨F i w,aH⟩)]
  have Q := U0 l f.2.2 _ _ E (body b (unl t false ops).1).length cD;rw [iZ, x6 (G _ O.1), xBY (xAG _)] at Q;simp only [Nat.sub_self, List.getElem?_cons_zero, Option.map_some] at Q;rw [(Uf t g.1).1 false ops ((body b (unl t false ops).1).length + 1) c f.1 (fun i w j S => by rw [u i w aH, iZ, x6 S, xA8 aH, K i j])
   (fun k z H => by
    have:=P.2.2.2 k z;rw[u k H aH,iZ,x7 z,xA8 aH,K k this,xAE,xBI]) aH aH]
  cases hh:(holds nm m t c).1 with
  |true=>
   simp only[Bool.true_eq_false,if_false,if_true];rw[(y g.2.1).1 _ _ f.2.1 (fun i w j _=>by rw[u i aH j,iZ,x6 (G i w),xA8 j]) aH];cases Say.run nm m b (holds nm m t c).2<;>grind [goOn,Agr,iZ,holds,Ij]
  |false=>
   simp only[if_true,Bool.false_eq_true,if_false];have:=(N g.2.2).2.2 _ _ (holds nm m t c).2 f.2.2 E (fun i w j _=>by rw[dR]at w;simp at w;exact r i aH j cD) s;rw[dR,xAE,xBI]at this;exact this
 |_=>grind [wf,Agr]
theorem Ud:∀(t:Tree),(∀l ops,(unl t l ops).1.length<=ops.length+ilen t)/\(∀all l ops c g,(unlL all l t ops c g).1.length<=ops.length+ilen t):=by
 intro t;induction t<;>grind [unlL,unl,ilen,dR]
theorem Nt:∀(t:Tree),(∀ops,(body t ops).length<=ops.length+ilen t)/\(∀ops,(cmdI t ops).length<=ops.length+ilen t)/\(∀ops out,(dL t ops out).length<=ops.length+ilen t):=by
 intro t;induction t with
 |plain B=>grind [body,cmdI,ilen,dL,dR]
 |act k a p=>grind [body,cmdI,ilen,dL,dR]
 |set_ n v t=>grind [body,cmdI,ilen,dL,dR]
 |iff s w=>grind [body,out,dL,ilen,cmdI,dR]
 |ccons c l A i=>
  grind [cmdI,dL,body,ilen,dR]
 |belse b l A i=>
  grind [body,cmdI,dL,ilen,dR]
 |bcons t b l A i N=>
  refine⟨fun ops=>by simp[body],fun ops=>by simp[cmdI],fun ops out=>?_⟩
  have P:=(Ud t).1 false ops;have h:=i.1 (unl t false ops).1;simp only[dL,ilen];split
  ·grind [dR]
  have d:=N.2.2 (land (body b (unl t false ops).1++[jmp 3]) (unl t false ops).2) (out++[(body b (unl t false ops).1).length]);exact gGS
 |_=>grind [body,cmdI,dL,dR]
def U8(l:wf t 3=true)(f:okT t=true)(v:(script t).length<=400):((Mach.run nm (script t) m).acts,(Mach.run nm (script t) m).err)=out (Say.run nm m t start):=by
 unfold Mach.run;rw[x6 aH];have:=(Pq (nm:=nm) (m:=m) (C:=script t) t f).1 [] start l (fun i _ _ _=>rfl) (xAG _);have e:(Co.ms start ([]:List Ins).length)=Mach.start:=rfl;rw[e]at this;refine Eq.trans ?_ (this.trans ?_)
 ·rfl
 cases Say.run nm m t start with
 |error e=>rfl
 |ok r=>
  obtain⟨s,d⟩:=r;cases s with
  |true=>rfl
  |false=>
   simp only[goOn,Bool.false_eq_true,if_false,out];exact UL Y
def parse_code{s:aP}{r:List aP×Tree}(h:gG s=.ok r)(c:s.length<=600):(script r.2).length<=300/\((Mach.run nm (script r.2) m).acts,(Mach.run nm (script r.2) m).err)=out (Say.run nm m r.2 start):=by
 have a:=m0 h;have v:=(Nt r.2).1 [];have v:(script r.2).length<=0+ilen r.2:=v;exact⟨aH,U8 a.1 a.2.2.2.1 aH⟩
end
end
end Go.Say
end
end
