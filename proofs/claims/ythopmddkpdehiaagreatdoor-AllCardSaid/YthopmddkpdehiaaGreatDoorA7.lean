/- Part 7 of what the proof stands on: walks and plain laws. Conditions: as each theorem says. -/
import Derived.Laws.MakeOwn
import Derived.Lib.MakeNoZero
import Derived.Laws.CopyRow
import Derived.Laws.LoneSync
import Derived.Test.YthopmddkpdehiaaGreatDoorA6
set_option linter.unusedVariables false
set_option linter.unusedSimpArgs false
set_option linter.defProp false
set_option maxRecDepth 4000
set_option maxHeartbeats 1000000
section
attribute [local irreducible] Go.SL.T Go.SL.OL Go.SL.D Go.SL.DL Go.SL.Ev Go.SL.Ef Go.SL.EfS
section
namespace Go.Proofs
open Go Go.SL Go.Syn Go.Mach Tryz
def W5{cs:List UInt8}(H:∀c∈cs,c.toNat<128){i:Nat}(h:i<cs.length):∃c,cs[i]?=some c/\c.toNat<128:=⟨_,x4 h,H _ (List.getElem_mem h)⟩
def YT{cs:List UInt8}(H:∀c∈cs,c.toNat<128){c:UInt8}(h:128<=c.toNat)(k:Nat):Lib.indexByte (cs.drop k) c= -1:=by
 have a:=Lib.indexByte_ge (cs.drop k) c
 by_cases d:Lib.indexByte (cs.drop k) c= -1
 ·exact d
 obtain⟨b,_⟩:=Lib.indexByte_some (l:=cs.drop k) (c:=c) (o:=(Lib.indexByte (cs.drop k) c).toNat) aH;rw[xBB]at b;have:=H _ (x8 b);omega
def KL(s:List UInt8)(c:UInt8)(K:Hl):Sp x3 308 [str s,.int .u8 c.toNat] K [] (Val (i64 (Lib.indexByte s c)) K):=by
 refine nW ⟨_,func308,Y,Y⟩ fun w a=>?_;have:=Tryz.strings_IndexByte ⟨s.toArray⟩ c.toNat w;exact gG0
def IZ(cs:List UInt8)(c:UInt8)(d:c.toNat<128)(K:Hl):Sp x3 289 [str cs,.int .i32 c.toNat] K [] (Val (i64 (Lib.indexByte cs c)) K):=by
 refine nW ⟨_,func289,Y,Y⟩ fun w a=>?_;have:=Tryz.strings_IndexRune_ascii ⟨cs.toArray⟩ c.toNat w aH aH;exact gG0
def LV(r:Int)(K:Hl):Sp x3 322 [.int .i32 r] K [] (Val (.bool (Lib.validRune r)) K):=
 nW ⟨_,func322,rfl,rfl⟩ fun w e=>Tryz.utf8_ValidRune r w
def IY(cs:List UInt8)(H:∀c∈cs,c.toNat<128)(A:2<=cs.length)(r:Int)(x:128<=r)(K:Hl):Sp x3 289 [str cs,.int .i32 r] K [] (Ret fun v t L'=>v=i64 (-1)/\t=K/\L'=[]):=by
 obtain⟨C,G,l,s,E⟩:=SX r x;refine bL func289 Y ntmps289 Y Y fun F w=>ZB ?_;refine bV 163 Y (fun g=>Z8 ?_) (fun g=>?_)
 ·refine aX 160 Y (fun e=>?_) (fun e=>Z7 ?_)
  ·exact absurd e aH
  refine aX 171 Y (fun d=>Z4 ?_) (fun d=>Z3 ?_)
  ·refine cG (DT x9 Y) Y (aCJ fun a=>Z3 ?_);refine eD (fun(i:Nat)=>i<=cs.length) (fun i=>[(0,str cs),(1,.int .i32 r),(175,ptr a)]) (fun _=>K) (fun i=>[itr a cs i]) (fun i=>cs.length-i) 0 (xAA _) bM Y a7 ?_;intro i O;rcases xAD i cs.length with q|q
   ·obtain⟨c,p,S⟩:=W5 H q;refine Z2 ?_;refine cG (Ja (L':=fun n=>[itr a cs (i+n)]) p S Y (fun _=>.here)) Y (aCL (ZM ?_));refine aX 181 Y (fun y=>?_) (fun y=>Z2 ?_)
    ·exact absurd y aH
    exact cX (i+1) aH aH bM Y a7
   have z:¬i<cs.length:=aH;refine Z2 ?_;refine cG (FE z Y .here) Y (aCL (ZH ?_));exact gHU
  refine cH Y Y (LV r _) Y (aA gAB Y (Z3 ?_))
  first|refine aX 183 Y (fun b=>?_) (fun b=>?_)|refine dZ 183 Y (fun b=>?_) (fun b=>?_)
  ·refine Z7 ?_;exact gHU
  refine Hr (Z3 ?_);refine aA (G5 xCL x9 Y) Y (ZO ?_);refine eD (fun(u:Unit)=>True) (fun _=>[(0,str cs),(7,str (pY r)),(8,i64 ((pY r).length-1)),(9,i64 ((pY r).length-1))]) (fun _=>K) (fun _=>[]) (fun _=>0) () trivial bM Y a7 ?_;intro _ _;refine Z9 ?_;refine aX 26 Y (fun h=>?_) (fun h=>ZD ?_)
  ·obtain⟨c,p,S⟩:=W5 H (i:=(pY r).length-1) aH;refine Z3 ?_;refine Hr (Z2 ?_);refine cN [] [] mixed gAD (cM _) (Z2 ?_);refine aJ Y Y (.none Y) Y Y (cJ (j:=(pY r).length-1) x9 Y Y aH p) Y (Z2 ?_);refine aJ Y Y (.none Y) Y Y (cJ (j:=(pY r).length-1) x9 Y Y aH s) Y (Z3 ?_);refine aX 33 Y (fun B=>?_) (fun B=>?_)
   ·refine aI (cN [7] [] mixed gAD (cM _) (Z3 ?_));refine aJ Y Y (.none Y) Y Y (lH (m:=(pY r).length) x9 Y Y aH aH) Y (Z2 ?_);refine aJ Y Y (.none Y) Y Y (cJ (j:=(pY r).length-1) x9 Y Y aH s) Y (gY Y (.none Y) Y Y Y Y (KL (cs.drop (pY r).length) l _) Y (ZA ?_));refine aX 43 Y (fun f=>Z8 ?_) (fun f=>?_)
    ·refine pS (Z4 ?_);refine pS (aY (uAd ?_));exact gEN
    exact absurd (show Lib.indexByte (cs.drop (pY r).length) l<0 by rw[YT H E];omega) f
   exact absurd (show ¬((c.toNat:Int)=l.toNat) by omega) B
  refine pS (aY (uAd ?_));exact gEN
 exact absurd (show (0:Int)<=r by omega) g
def HG(cs:List UInt8)(H:∀c∈cs,c.toNat<128)(y:2<=cs.length)(s:List UInt8)(W:s.length<=8)(K:Hl):Sp x3 221 [str s,str cs] K [] (Ret fun v C L'=>∃n:Int,v=i64 n/\(0<=n↔(s.any fun c=>cs.contains c)=true)/\C=K/\L'=[]):=by
 have p:∀(n:Int) (K:Hl),Sp x3 290 [i64 n] K [] (Val (.bool (decide (8<n))) K):=fun n K=>nW ⟨_,func290,rfl,rfl⟩ fun w hw=>Tryz.strings_shouldUseASCIISet n w
 refine bL func221 Y ntmps221 Y Y fun F w=>ZC ?_;refine aX 12 Y (fun f=>?_) (fun f=>ZA ?_)
 ·exact absurd f (by rintro rfl;simp at y)
 refine aX 15 Y (fun l=>?_) (fun l=>Z7 ?_)
 ·exact absurd l aH
 refine cH Y Y (p _ _) Y (Z2 ?_);refine aX 26 Y (fun g=>?_) (fun g=>Z6 ?_)
 ·exact absurd g aH
 refine cG (DT x9 Y) Y (aCJ fun b=>Z3 ?_);refine eD (fun(i:Nat)=>i<=s.length/\∀j d,j<i->s[j]?=some d->cs.contains d=false) (fun i=>[(0,str s),(1,str cs),(45,ptr b)]) (fun _=>K) (fun i=>[itr b s i]) (fun i=>s.length-i) 0 ⟨xAA _,fun j d h _=>by omega⟩ bM Y a7 ?_;intro i ⟨O,e⟩;rcases xAD i s.length with u|u
 ·obtain⟨c,q⟩:∃c,s[i]?=some c:=⟨s[i]'u,x4 u⟩;rcases xAD c.toNat 128 with S|t
  ·refine Z2 ?_;refine cG (Ja (L':=fun n=>[itr b s (i+n)]) q S Y (fun _=>.here)) Y (aCL (ZK ?_));refine cH Y Y (IZ cs c S _) Y (Z3 ?_);refine aX 53 Y (fun a=>?_) (fun a=>?_)
   ·have A:cs.contains c=true:=(by rw[Lib.contains_iff_indexByte];exact xAO a);refine ZB ?_;refine uAd ?_;refine Z1 ?_;exact⟨_,Y,i,Y,⟨fun _=>List.any_eq_true.2 ⟨c,x8 q,A⟩,fun _=>by omega⟩,Y,Y⟩
   have A:cs.contains c=false:=(by rw[Lib.contains_iff_indexByte];exact xAQ a);refine Z2 ?_
   (exact cX (i+1) ⟨aH,fun j d E hd=>by rcases xAD j i with h|h;exact e j d h hd;(obtain rfl:j=i:=by omega);rw[q]at hd;cases hd;exact A⟩ aH bM Y a7)
  refine Z2 ?_;refine cG (Tg (L':=fun n=>[itr b s (i+n)]) q t Y (fun _=>.here)) Y ?_;rintro _ K _ ⟨r,n,rfl,rfl,rfl,N,P,Q,G,I⟩ -;refine ZK ?_;refine bA Y Y (IY cs H y r aH _) .nil Y (aCL (Z3 ?_));refine aX 53 Y (fun a=>?_) (fun a=>?_)
  ·exact absurd a aH
  refine Z2 ?_
  (exact cX (i+n) ⟨G,fun j d E hd=>by rcases xAD j i with h|h;exact e j d h hd;(have:=I j d h E hd);cases z:cs.contains d with|false=>rfl|true=>exact absurd (H _ (List.contains_iff_mem.1 z)) aH⟩ aH bM Y a7)
 have L:¬i<s.length:=aH;have B:(s.any fun c=>cs.contains c)=false:=(by rw[List.any_eq_false];intro x M;obtain⟨j,E⟩:=xA4 M;have:=e j x (by have:=kP E;omega) E;simpa using this);refine Z2 ?_;refine cG (FE L Y .here) Y (aCL (ZG ?_));refine uAd ?_;refine Z1 ?_;exact⟨_,Y,-1,Y,⟨fun h=>by omega,fun h=>by rw[B]at h;cases h⟩,Y,Y⟩
end Go.Proofs
end
section
namespace Go.Syn
open Go.Cmp
section
variable{ext:aP}{ff:aP->Int}{needs texts:List aP}{k:Nat}{st:St}{B:St->Res (Tree×St)}{t:Tree}{r:Tree×St}
def sOk(n:Nat):Tree->Prop
 | .const _=>True
 | .not_ t=>sOk n t
 | .many _ l=>sOk n l
 | .mat _ _ _ a b=>(∀x∈a,x.length<=n)/\(∀x∈b,x.length<=n)/\a.length<=2*n+1/\b.length<=2*n+1
 | .exi a=>(∀x∈a,x.length<=n)/\a.length<=2*n+1
 | .siz _ n=>0<=n/\n<=2147483647
 | .tnil=>True
 | .tcons t l=>sOk n t/\sOk n l
 | .plain _=>True
 | .act _ a _=>a.length<=n
 | .set_ a v _=>a.length<=n/\v.length<=n
 | .iff s=>sOk n s
 | .cnil=>True
 | .ccons c l=>sOk n c/\sOk n l
 | .bnil=>True
 | .bcons t b l=>sOk n t/\sOk n b/\sOk n l
 | .belse b l=>sOk n b/\sOk n l
def okT:Tree->Bool
 | .const _=>true
 | .not_ t=>okT t
 | .many _ l=>!gV l&&okT l
 | .mat S _ B _ _=>decide (1<=S/\S<=3/\6<=B/\B<=8)
 | .exi _=>true
 | .siz S _=>decide (S=1\/S=2)
 | .tnil=>true
 | .tcons t l=>okT t&&okT l
 | .plain B=>decide (B=13\/B=14)
 | .act k _ _=>decide (1<=k/\k<=4)
 | .set_ _ _ t=>decide (0<=t/\t<=3)
 | .iff s=>okT s
 | .cnil=>true
 | .ccons c l=>okT c&&okT l
 | .bnil=>true
 | .bcons t b l=>okT t&&(okT b&&okT l)
 | .belse b l=>okT b&&(gV l&&okT l)
def ilen:Tree->Nat
 | .const _=>1
 | .not_ t=>ilen t
 | .many _ l=>ilen l
 | .mat _ _ _ _ _=>2
 | .exi _=>2
 | .siz _ _=>2
 | .tnil=>0
 | .tcons t l=>ilen t+ilen l
 | .plain _=>1
 | .act _ _ _=>1
 | .set_ _ _ _=>1
 | .iff s=>ilen s
 | .cnil=>0
 | .ccons c l=>ilen c+ilen l
 | .bnil=>0
 | .bcons t b l=>ilen t+ilen b+ilen l+1
 | .belse b l=>ilen b+ilen l
def Fit(s:aP)(k:Nat)(st:St)(r:Tree×St):Prop:=wf r.1 k=true/\sOk s.length r.1/\cnt r.1+mu s r.2<=mu s st/\okT r.1=true/\2*ilen r.1+mu s r.2<=mu s st
def FitA(s:aP)(k:Nat)(T:St->Res (Tree×St)):Prop:=∀st r,Ok s st->T st=.ok r->Fit s k st r
def FitN(s:aP)(k n:Nat)(T:St->Res (Tree×St)):Prop:=∀st r,Ok s st->st.2.kind=1/\n<=st.2.s.length->T st=.ok r->Fit s k st r
variable{s:aP}
def kZ{r:St}(f:Ok s st)(j:st.2.kind=1)(h:next s st.1=.ok r):Ok s r/\mu s r<mu s st/\mu s r+st.2.s.length<=mu s st:=by
 have:=iR f aH h;exact⟨this.1,this.2,GR f.1 f.2 j h⟩
theorem RY{a:Nat}{r:St}(h:next s a=.ok r):0<=r.2.n/\r.2.n<=2147483647:=by
 unfold next at h;split at h
 ·cases h
 split at h
 ·exact gGV
 unfold kM at h;split at h
 ·exact gGV
 split at h
 ·split at h
  ·cases h
  exact gGV
 split at h
 ·split at h
  ·exact gGV
  cases h
 split at h
 ·exact gGV
 split at h
 ·split at h
  ·cases h
  rename_i q g;cases h
  unfold number at g;split at g
  ·cases g
  split at g
  ·cases g
  rename_i u;cases g;refine⟨?_,by simp only[];omega⟩;have:=fun a=>(tG (fG s a)).1;simp only[numN];split<;>grind [numN,tG]
 cases h
theorem Jz{r:Word×St}(h:take s st k texts=.ok r):r.1=st.2/\next s st.1=.ok r.2:=by
 grind [take]
def xU(xs:List aP)(x:aP): -1<=dT xs x/\dT xs x<xs.length:=by
 unfold dT;cases h:xs.findIdx? (fun y=>decide (x=y))with
 |none=>exact⟨cD,by simp only[];omega⟩
 |some i=>
  rw[xBE]at h;obtain⟨p,_⟩:=h;exact⟨by simp only[];omega,by simp only[];omega⟩
def PL:∀ {f:Nat} {h:How} {st:St} {r:How×St},0<=h.tag/\h.tag<=3->iB s f h st=.ok r->0<=r.1.tag/\r.1.tag<=3:=by
 intro f;induction f with
 |zero=>intro h st r _ e;cases e
 |succ f w=>
  intro h st r I e;simp only[iB]at e;split at e
  ·split at e
   ·cases e
   rename_i F;split at e
   ·cases e
   split at e
   ·rename_i l;split at e
    ·cases e
    have:=xU eQ st.2.s;exact w (by simp only[];omega) e
   split at e
   ·cases e
   split at e
   ·cases e
   exact w (h:=⟨true,h.tag,_⟩) I e
  cases e;exact I
def J0{r:Word×St}(f:Ok s st)(h:take s st k texts=.ok r):r.1.s.length<=s.length:=by
 unfold take at h;split at h
 ·cases h
 split at h
 ·cases h
 cases h;exact f.2
theorem wT{r:aP×St}(f:Ok s st)(h:text s st ff=.ok r):r.1.length<=s.length:=by
 unfold text at h;split at h
 ·cases h
 split at h
 ·cases h
 rename_i q g;cases h;exact J0 f g
theorem Oh:∀ {f:Nat} {st:St} {acc:List aP} {r:List aP×St},Ok s st->(∀x∈acc,x.length<=s.length)->oD s ff f st acc=.ok r->∀x∈r.1,x.length<=s.length:=by
 intro f;induction f with
 |zero=>intro st acc r _ _ h;cases h
 |succ f w=>
  intro st acc r a b h;simp only[oD]at h;split at h
  ·cases h
  rename_i q g;have c:=xF a g;split at h
  ·split at h<;>grind [Ok,nJ,wT]
  split at h
  ·cases h
  cases h;exact b
theorem A0{r:List aP×St}(f:Ok s st)(h:list s st ff=.ok r):∀x∈r.1,x.length<=s.length:=by
 unfold list at h;split at h
 ·cases h
 rename_i q g;have a:=xF f g;split at h
 ·cases h
 rename_i x b;have c:=nJ a.1 b;have l:=wT a.1 b;split at h<;>grind [Ok,nJ,wT,Oh]
def zG{op:Int}(u:6<=op/\op<=8):FitN s 0 4 (kW s needs op ext):=by
 intro st r g j e;unfold kW at e;split at e
 ·cases e
 split at e
 ·cases e
 rename_i q v;have i:=kZ g j.1 v;have H:=j.2;unfold lV at e;split at e
 ·cases e
 rename_i h y;have c:=FT i.1 y;split at e
 ·cases e
 rename_i a d;have l:=nN c.1 d;have p:=vT c.1 d;split at e
 ·cases e
 rename_i b f;have z:=nN l.1 f;have t:=vT l.1 f;cases e
 have B:=vY s st;have I:=PL ⟨Int.le_refl _,by decide⟩ y;exact⟨Y,⟨A0 c.1 d,A0 l.1 f,aH,aH⟩,by simp only[cnt];omega,by simp only[okT,decide_eq_true_eq];split<;>omega,by simp only[ilen];omega⟩
def wK{c:Tree}(d:wf c 2=true/\sOk s.length c/\cnt c=1/\okT c=true/\ilen c=1):FitN s 2 2 (kT s c):=by
 intro st r f j e;unfold kT at e;split at e
 ·cases e
 rename_i q g;have h:=kZ f j.1 g;have H:=j.2;split at e
 ·cases e
 rename_i x a;have b:=jB h.1 a;cases e
 exact⟨d.1,d.2.1,by simp only[d.2.2.1];omega,d.2.2.2.1,by simp only[d.2.2.2.2];omega⟩
def CN{k:Int}{p:Int}(c:1<=k/\k<=4):FitN s 2 2 (actC s needs k ext p):=by
 intro st r f j e;unfold actC at e;split at e
 ·cases e
 split at e
 ·cases e
 rename_i q g;have h:=kZ f j.1 g;have H:=j.2;split at e
 ·cases e
 rename_i x a;have b:=tS h.1 dD a;split at e
 ·cases e
 rename_i y t;have l:=jB b.1 t;cases e
 exact⟨Y,J0 h.1 a,by simp only[cnt];omega,by simp only[okT,decide_eq_true_eq];exact c,by simp only[ilen];omega⟩
def CY{b:Bool}:FitN s 0 2 (mL s b):=by
 intro st r f j e;unfold mL at e;split at e
 ·cases e
 rename_i q g;have h:=kZ f j.1 g;have H:=j.2;cases e
 exact⟨Y,trivial,by simp only[cnt];omega,rfl,by simp only[ilen];omega⟩
def Ic:FitN s 0 4 (nL s):=by
 intro st r f j e;unfold nL at e;split at e
 ·cases e
 rename_i q g;have h:=kZ f j.1 g;have H:=j.2;split at e
 ·cases e
 rename_i a b;have l:=nN h.1 b;have c:=vT h.1 b;cases e
 have B:=vY s st;exact⟨Y,⟨A0 h.1 b,aH⟩,by simp only[cnt];omega,rfl,by simp only[ilen];omega⟩
def P2:FitN s 0 4 (p7 s):=by
 intro st r f j e;unfold p7 at e;split at e
 ·cases e
 rename_i q g;have h:=kZ f j.1 g;have H:=j.2;split at e
 ·cases e
 rename_i x a;have b:=tS h.1 dD a;split at e
 ·cases e
 rename_i y t;have l:=tS b.1 dD t;cases e
 exact⟨Y,by rw[(Jz t).1];exact RY (Jz a).2,by simp only[cnt];omega,by simp only[okT,decide_eq_true_eq];split<;>omega,by simp only[ilen];omega⟩
def Sd{T:St->Res (Tree×St)}(a:FitA s 0 T):FitN s 0 0 (notC s T):=by
 intro st r f j e;unfold notC at e;split at e
 ·cases e
 rename_i q g;have h:=kZ f j.1 g;have H:=j.2;split at e
 ·cases e
 rename_i t I;have b:=a _ _ h.1 I;cases e
 exact⟨by simp[wf,b.1],b.2.1,by have:=b.2.2.1;simp only[cnt];omega,b.2.2.2.1,by have:=b.2.2.2.2;simp only[ilen];omega⟩
theorem Tw{n:Nat}(h:wf t 0=true)(b:sOk n t)(a:okT t=true):∀ {l:Tree},wf l 1=true->sOk n l->okT l=true->wf (l.snocT t) 1=true/\sOk n (l.snocT t)/\cnt (l.snocT t)=cnt l+cnt t/\okT (l.snocT t)=true/\ilen (l.snocT t)=ilen l+ilen t/\gV (l.snocT t)=false:=by
 intro l;induction l<;>grind [Tree.snocT,wf,cnt,okT,ilen,sOk,gV]
theorem Tv{n:Nat}(h:wf t 2=true)(b:sOk n t)(a:okT t=true):∀ {l:Tree},wf l 3=true->sOk n l->okT l=true->wf (l.snocC t) 3=true/\sOk n (l.snocC t)/\cnt (l.snocC t)=cnt l+cnt t/\okT (l.snocC t)=true/\ilen (l.snocC t)=ilen l+ilen t:=by
 intro l;induction l<;>grind [Tree.snocC,wf,cnt,okT,ilen,sOk]
def cntO:Option Tree->Nat
 |none=>0
 |some t=>cnt t
def M4:Option Tree->Nat
 |none=>0
 |some t=>ilen t+1
def F6:Tree->Bool
 | .bcons _ _ l=>F6 l
 | .belse _ _=>false
 |_=>true
theorem Jj{n:Nat}{o:Option Tree}{b:Tree}(P:∀t,o=some t->wf t 0=true/\sOk n t/\okT t=true)(j:wf b 3=true)(p:sOk n b)(r:okT b=true):∀ {l:Tree},wf l 4=true->sOk n l->okT l=true->F6 l=true->
  wf (l.snocB o b) 4=true/\sOk n (l.snocB o b)/\cnt (l.snocB o b)=cnt l+cntO o+cnt b+1/\okT (l.snocB o b)=true/\ilen (l.snocB o b)=ilen l+M4 o+ilen b/\F6 (l.snocB o b)=o.isSome:=by
 intro l;induction l with
 |bnil=>
  intro _ _ _ _;cases o<;>grind [Tree.snocB,mkB,wf,cnt,cntO,okT,gV,ilen,M4,sOk,F6]
 |bcons x y l A i N=>
  intro g h q hp;simp[wf]at g;simp[okT]at q;obtain⟨a,b,c,d,e,f⟩:=N g.2.2 h.2.2 q.2.2 hp;exact⟨by simp[Tree.snocB,wf,g.1,g.2.1,a],⟨h.1,h.2.1,b⟩,by simp only[Tree.snocB,cnt,c];omega,by simp[Tree.snocB,okT,q.1,q.2.1,d],by simp only[Tree.snocB,ilen,e];omega,f⟩
 |belse y l A i=>intro _ _ _ hp;cases hp
 |_=>intro g;simp[wf]at g
theorem O2{T:St->Res (Tree×St)}(K:Adv s T)(j:FitA s 0 T):∀ {f:Nat} {acc:Tree} {st:St} {r:Tree×St},Ok s st->wf acc 1=true->sOk s.length acc->okT acc=true->gV acc=false->oT s T f acc st=.ok r->wf r.1 1=true/\sOk s.length r.1/\cnt r.1+mu s r.2<=cnt acc+mu s st/\okT r.1=true/\2*ilen r.1+mu s r.2<=2*ilen acc+mu s st/\gV r.1=false:=by
 intro f;induction f with
 |zero=>intro acc st r _ _ _ _ _ e;cases e
 |succ f x=>
  intro acc st r h w v p A e;simp only[oT]at e;split at e
  ·cases e
  rename_i q u;have i:=xF h u;split at e
  ·split at e
   ·cases e
   rename_i t I;have g:=j _ _ i.1 I;obtain⟨a,b,c,d,y,S⟩:=Tw g.1 g.2.1 g.2.2.2.1 w v p;have l:=x (K _ _ i.1 I).1 a b d S e;have z:=g.2.2;exact⟨l.1,l.2.1,aH,l.2.2.2.1,aH,l.2.2.2.2.2⟩
  grind [Adv,FitA,Ok,jB]
def F0{T:St->Res (Tree×St)}{all:Bool}(K:Adv s T)(c:FitA s 0 T):FitN s 0 0 (oE s T all):=by
 intro st r f j e;unfold oE at e;split at e
 ·cases e
 rename_i q g;have h:=kZ f j.1 g;have H:=j.2;split at e
 ·cases e
 rename_i x d;have b:=jB h.1 d;split at e
 ·cases e
 rename_i t I;have a:=c _ _ b.1 I;unfold qU at e;split at e
 ·cases e
 rename_i l v;have z:=O2 (acc:=.tcons t.1 .tnil) K c (K _ _ b.1 I).1 (by simp[wf,a.1]) ⟨a.2.1,trivial⟩ (by simp[okT,a.2.2.2.1]) rfl v;cases e
 have:=a.2.2;have:=z.2.2;refine⟨by simp[wf,z.1],z.2.1,?_,by simp[okT,z.2.2.2.1,z.2.2.2.2.2],?_⟩
 ·simp only[cnt]at*;omega
 simp only[ilen]at*;omega
theorem PQ{T:St->Res (Tree×St)}(K:Adv s T)(b:FitA s 0 T)(f:Ok s st)(j:st.2.kind=1)(e:oP s needs T st=some (.ok r)):Fit s 0 st r:=by
 unfold oP at e;simp only[]at e;split at e
 ·exact gHP
 split at e
 ·exact gHP
 split at e
 ·rename_i a;exact Sd b _ _ f ⟨j,by rw[a];decide⟩ gAO
 split at e
 ·exact gHJ
 split at e
 ·exact gHJ
 split at e
 ·rename_i a;exact zG (op:=6) dD _ _ f ⟨j,by rw[a];decide⟩ gAO
 split at e
 ·rename_i a;exact zG (op:=7) dD _ _ f ⟨j,by rw[a];decide⟩ gAO
 split at e
 ·rename_i a;exact zG (op:=8) dD _ _ f ⟨j,by rw[a];decide⟩ gAO
 split at e
 ·rename_i a;exact Ic _ _ f ⟨j,by rw[a];decide⟩ gAO
 split at e
 ·rename_i a;exact P2 _ _ f ⟨j,by rw[a];decide⟩ gAO
 cases e
theorem TJ:∀n,FitA s 0 (test s needs n):=by
 intro n;induction n<;>grind [test,FitA,PQ,mT]
def AW(t:AdvE s B)(W:FitA s 3 B)(f:Ok s st)(e:kU s B st=.ok r):wf r.1 3=true/\sOk s.length r.1/\cnt r.1+1+mu s r.2<=mu s st/\okT r.1=true/\2*ilen r.1+mu s r.2<=mu s st:=by
 unfold kU at e;split at e
 ·cases e
 rename_i q g;have h:=jB f g;split at e
 ·cases e
 rename_i b d;have a:=W _ _ h.1 d;have c:=t _ _ h.1 d;split at e
 ·cases e
 rename_i y i;have l:=jB c.1 i;cases e
 have:=a.2.2;exact⟨a.1,a.2.1,by simp only[];omega,a.2.2.2.1,by simp only[];omega⟩
def NK(g:AdvE s B)(W:FitA s 3 B){acc:Tree}(i:Ok s st)(p:wf acc 4=true)(l:sOk s.length acc)(j:okT acc=true)(hp:F6 acc=true)(e:l4 s B acc st=.ok r):wf r.1 2=true/\sOk s.length r.1/\cnt r.1+mu s r.2<=cnt acc+1+mu s st/\okT r.1=true/\2*ilen r.1+mu s r.2<=2*ilen acc+mu s st:=by
 unfold l4 at e;split at e
 ·rename_i x;split at e
  ·cases e
  rename_i q y;have v:=kZ i x.1 y;split at e
  ·cases e
  rename_i b w;have f:=AW g W v.1 w;cases e
  obtain⟨a,b,c,d,u,_⟩:=Jj (o:=none) (fun t h=>by cases h) f.1 f.2.1 f.2.2.2.1 p l j hp;exact⟨by simp[wf,a],b,by simp only[cnt,c,cntO];omega,d,by simp only[ilen,u,M4];omega⟩
 cases e;exact⟨by simp[wf,p],l,by simp only[cnt];omega,j,by simp only[ilen];omega⟩
def Kr{T:St->Res (Tree×St)}(K:Adv s T)(g:AdvE s B)(H:FitA s 0 T)(W:FitA s 3 B):∀ {f:Nat} {acc:Tree} {st:St} {r:Tree×St},Ok s st->wf acc 4=true->sOk s.length acc->okT acc=true->F6 acc=true->iH s T B f acc st=.ok r->wf r.1 2=true/\sOk s.length r.1/\cnt r.1+mu s r.2<=cnt acc+1+mu s st/\okT r.1=true/\2*ilen r.1+mu s r.2<=2*ilen acc+mu s st:=by
 intro f;induction f with
 |zero=>intro acc st r _ _ _ _ _ e;cases e
 |succ f N=>
  intro acc st r j E C A hp e;simp only[iH]at e;split at e
  ·rename_i y;split at e
   ·cases e
   rename_i q M;have v:=kZ j y.1 M;have L:st.2.s.length=5:=by rw[y.2];rfl
   split at e
   ·cases e
   rename_i t I;have l:=H _ _ v.1 I;have i:=K _ _ v.1 I;split at e
   ·cases e
   rename_i b w;have p:=AW g W i.1 w;have u:=mB g _ _ i.1 w;obtain⟨a,F,c,d,G,S⟩:=Jj (o:=some t.1) (fun x h=>by cases h;exact⟨l.1,l.2.1,l.2.2.2.1⟩) p.1 p.2.1 p.2.2.2.1 E C A hp;have z:=N u.1 a F d S e;have:=l.2.2;simp only[cntO]at c;simp only[M4]at G;exact⟨z.1,z.2.1,aH,z.2.2.2.1,aH⟩
  exact NK g W j E C A hp e
def UV{T:St->Res (Tree×St)}(K:Adv s T)(a:AdvE s B)(i:FitA s 0 T)(W:FitA s 3 B):FitN s 2 2 (ifC s T B):=by
 intro st r g p e;unfold ifC at e;split at e
 ·cases e
 rename_i q u;have h:=kZ g p.1 u;have H:=p.2;split at e
 ·cases e
 rename_i t I;have d:=i _ _ h.1 I;have c:=K _ _ h.1 I;split at e
 ·cases e
 rename_i b j;have l:=AW a W c.1 j;have f:=mB a _ _ c.1 j;have z:=Kr (acc:=.bcons t.1 b.1 .bnil) K a i W f.1 (by simp[wf,d.1,l.1]) ⟨d.2.1,l.2.1,trivial⟩ (by simp[okT,d.2.2.2.1,l.2.2.2.1]) rfl e;have:=d.2.2;simp only[cnt,ilen]at z;exact⟨z.1,z.2.1,aH,z.2.2.2.1,aH⟩
def Pu:FitN s 2 2 (sR s needs):=by
 intro st r f j e;unfold sR at e;split at e
 ·cases e
 rename_i q g;have i:=Jc _ _ f aH g;have S:mu s r.2+st.2.s.length<=mu s st/\(0<=q.1.tag/\q.1.tag<=3)/\(q.1.name.length<=s.length/\q.1.value.length<=s.length)->Fit s 2 st r:=by
  intro h;cases e
  exact⟨Y,h.2.2,by simp only[cnt];omega,by simp only[okT,decide_eq_true_eq];exact h.2.1,by simp only[ilen];have i:mu s q.2+_<=_:=h.1;have:=j.2;show 2*1+mu s q.2<=_;omega⟩
 have c:r.2=q.2:=by cases e;rfl
 refine S ?_;rw[c];unfold setC at g;split at g
 ·split at g
  ·cases g
  rename_i O a;have Q:=kZ f j.1 a;split at g
  ·cases g
  rename_i t I;have b:(Ok s t.2/\mu s t.2<=mu s O)/\0<=t.1/\t.1<=3:=by
   unfold lW at I;split at I
   ·split at I
    ·cases I
    split at I
    ·cases I
    rename_i x p;cases I
    have d:=iR Q.1 aH p;have:=xU [fR,gD,fZ] O.2.s;simp only[List.length_cons,List.length_nil]at this;exact⟨⟨d.1,by simp only[];omega⟩,by simp only[];omega⟩
   cases I;exact⟨⟨Q.1,xAG _⟩,cD⟩
  unfold m7 at g;split at g
  ·cases g
  rename_i n u;have l:=nJ b.1.1 u;split at g
  ·cases g
  rename_i v H;have z:=nJ l.1 H;split at g
  ·cases g
  rename_i y w;have F:=jB z.1 w;cases g
  exact⟨by simp only[];omega,b.2,by rw[pB];exact wT b.1.1 u,wT l.1 H⟩
 cases g
def QC{T:St->Res (Tree×St)}(K:Adv s T)(t:AdvE s B)(b:FitA s 0 T)(W:FitA s 3 B)(f:Ok s st)(j:st.2.kind=1)(e:cmdD s needs T B st=some (.ok r)):Fit s 2 st r:=by
 unfold cmdD at e;simp only[]at e;split at e
 ·rename_i a;exact wK (c:=.act 1 [] st.2.at_) ⟨Y,xAA _,Y,Y,Y⟩ _ _ f ⟨j,by rw[a];decide⟩ gAO
 split at e
 ·rename_i a;exact wK (c:=.plain 13) ⟨Y,trivial,Y,Y,Y⟩ _ _ f ⟨j,by rw[a];decide⟩ gAO
 split at e
 ·rename_i a;exact wK (c:=.plain 14) ⟨Y,trivial,Y,Y,Y⟩ _ _ f ⟨j,by rw[a];decide⟩ gAO
 split at e
 ·rename_i a;exact CN (k:=2) dD _ _ f ⟨j,by rw[a];decide⟩ gAO
 split at e
 ·rename_i a;exact CN (k:=3) dD _ _ f ⟨j,by rw[a];decide⟩ gAO
 split at e
 ·rename_i a;exact CN (k:=4) dD _ _ f ⟨j,by rw[a];decide⟩ gAO
 split at e
 ·rename_i a;exact Pu _ _ f ⟨j,by rw[a];decide⟩ gAO
 split at e
 ·rename_i a;exact UV K t b W _ _ f ⟨j,by rw[a];decide⟩ gAO
 cases e
theorem JR{C:St->Option (Res (Tree×St))}(h:∀ {st r},Ok s st->st.2.kind≠0->C st=some (.ok r)->Ok s r.2/\mu s r.2<mu s st)(E:∀ {st r},Ok s st->st.2.kind=1->C st=some (.ok r)->Fit s 2 st r):
  ∀ {f:Nat} {acc:Tree} {st:St} {r:Tree×St},Ok s st->wf acc 3=true->sOk s.length acc->okT acc=true->j6 s C f acc st=.ok r->wf r.1 3=true/\sOk s.length r.1/\cnt r.1+mu s r.2<=cnt acc+mu s st/\okT r.1=true/\2*ilen r.1+mu s r.2<=2*ilen acc+mu s st:=by
 intro f;induction f with
 |zero=>intro acc st r _ _ _ _ e;cases e
 |succ f w=>
  intro acc st r a b c q e;simp only[j6]at e;split at e<;>grind [j6,Ok,Fit,Tv]
def Ns:∀n,FitA s 3 (block s needs n):=by
 intro n;induction n with
 |zero=>intro st r f e;simp only[block]at e;split at e<;>cases e;exact⟨Y,trivial,by simp[cnt],rfl,by simp[ilen]⟩
 |succ n w=>
  intro st r f e;simp only[block]at e;have:=JR (acc:=.cnil) (fun h b l=>zZ (mT n) (q6 n) h b l) (fun h b l=>QC (mT n) (q6 n) (TJ n) w h b l) f rfl trivial rfl e;simp only[cnt,ilen]at this;exact⟨this.1,this.2.1,aH,this.2.2.2.1,aH⟩
def SE:∀ {f:Nat} {b:List aP} {st:St} {r:List aP×St},Ok s st->reqF s f b st=.ok r->Ok s r.2/\mu s r.2<=mu s st:=by
 intro f;induction f with
 |zero=>intro b st r _ e;cases e
 |succ f w=>
  intro b st r a e;simp only[reqF]at e;split at e
  ·rename_i j;split at e
   ·cases e
   rename_i q g;have h:=iR a aH g;split at e
   ·cases e
   rename_i l v;have c:=nN h.1 v;split at e
   ·cases e
   rename_i y t;have d:=jB c.1 t;have:=w d.1 e;exact⟨this.1,aH⟩
  cases e;exact⟨a,xAG _⟩
def m0{r:List aP×Tree}(h:gG s=.ok r):wf r.2 3=true/\sOk s.length r.2/\cnt r.2<=2*s.length+1/\okT r.2=true/\2*ilen r.2<=s.length:=by
 unfold gG at h;split at h
 ·cases h
 rename_i q g;have a:=fU (xAA _) g;unfold i8 at h;split at h
 ·cases h
 rename_i n u;have c:=SE a u;split at h
 ·cases h
 rename_i b d;have l:=Ns 7 _ _ c.1 d;split at h
 ·cases h
  have:=RO g;have:=l.2.2;exact⟨l.1,l.2.1,by simp only[];omega,l.2.2.2.1,by simp only[];omega⟩
 cases h
end
end Go.Syn
end
section
namespace Go.Syn
variable{s:aP}
def zT:∀(l s:List aP),(iW s l).length<=s.length+l.length
 | [],s=>by simp[iW]
 |e::l,s=>by
  have h:=zT l (addN s e);have b:=Qq s e;unfold iW at h ⊢;simp only[List.foldl_cons,List.length_cons]at h ⊢;omega
def IQ:∀(f:Nat) (c:List aP) (st:St) (r:List aP×St),Ok s st->reqF s f c st=.ok r->r.1.length<=c.length+mu s st
 |0,c,st,r,_,h=>by cases h
 |f+1,c,st,r,b,h=>by
  unfold reqF at h;split at h
  ·rename_i p;split at h
   ·cases h
   rename_i q g;have H:st.2.kind≠0:=aH;have j:=j1 b.1 H g;have a:=fU b.1 g;split at h
   ·cases h
   rename_i l v;have d:=nN a v;have e:=vT a v;split at h
   ·cases h
   rename_i C I;have i:=jB d.1 I;have z:=IQ f _ _ _ i.1 h;have F:=zT l.1 c;omega
  cases h;simp
def sO{r:List aP×Tree}(h:gG s=.ok r):r.1.length<=2*s.length+1:=by
 unfold gG at h;split at h
 ·cases h
 rename_i q g;have a:=fU (xAA _) g;unfold i8 at h;split at h
 ·cases h
 rename_i n u;have b:=IQ _ _ _ _ a u;have l:=vY s q;split at h
 ·cases h
 split at h
 ·cases h
  show n.1.length<=_
  have c:n.1.length<=mu s q:=by simpa using b
  omega
 cases h
end Go.Syn
end
end
section
namespace Go.SL
section
variable{ats:Array TypeId}{fn:Func}{f:FuncId}{L1 L2:List Asn}{ds:List Deferred}{os:List Operand}{vs:List Value}{P:Program}{name:String}{r:Value}{N:Value->Hl->List Asn->Prop}
section
variable{E:Env}{fr:Fr}{K:Hl}{L L':List Asn}{Q:Post}{ops:Array Oper}{rest:List Oper}{dst:Option Tmp}{ty:TypeId}{pos:String}{aft:Array Edge}{g:Option (Nat×Bool)}{x y:Operand}{v u:Value}{t:TypeId}
def Du{n:Nat}(b:fr.ev x=some (.iface t u))(d:fr.evs os=some vs)
  (B:∀w,(method (P.types.size+Made.depth) t u name).run P w=.ok (f,r) w) {a:Act} (s:FrOk n ds fr a) (w:World):
  (execOp a.eval ⟨dst,.call ⟨.invoke x name,os.toArray,ats⟩,ty,pos,aft,g⟩).run P w=(callFunc f (r::vs).toArray).run P w:=by
 have M:Array.map a.eval os.toArray=vs.toArray:=by simp[s.evs d]
 have O: #[Value.iface t u]++vs.toArray=(Value.iface t u::vs).toArray:=cD;simp only[execOp,resolve,M,s.ev b,bind,pure,Sem.bind,invoke,O];have C:(Value.iface t u::vs).toArray[0]?=some (.iface t u):=cD;have G:(Value.iface t u::vs).toArray.extract 1 (Value.iface t u::vs).toArray.size=vs.toArray:=cD;simp only[C,G]
 show (callMethod (.iface t u) name vs.toArray).run P w=_
 unfold callMethod;simp only[];have hp:(program).run P w=.ok P w:=rfl;rw[bH hp,bH (B w)];simp
def gP{ex:Array Value->Sem Value}(c:fr.ev x=some (.iface t u))(d:fr.evs os=some vs)
  (B:∀w,(method (E.P.types.size+Made.depth) t u name).run E.P w=.ok (f,r) w)
  (h:E.P.funcs[f]?=some fn) (b:(fn.name== "runtime.NumGoroutine")=false) (l:fn.body.isNone=true) (z:Extern.findNext fn=none) (F:Extern.find fn=some ex) (i:∀w,In E.w0 E.F K L w->(ex (r::vs).toArray).run E.P w=.ok v w):
  Ev E fr K L ⟨dst,.call ⟨.invoke x name,os.toArray,ats⟩,ty,pos,aft,g⟩ v:=fun a w s j=>by
 rw[Du c d B s w,run_callFunc_extern h b l z F,i w j]
 rfl
def Cb{r:Operand}{ex:Array Value->Sem Value}(p:fr.ev r=some (.func (.func f) #[] #[]))(d:fr.evs os=some vs)
  (c:E.P.funcs[f]?=some fn) (e:(fn.name== "runtime.NumGoroutine")=false) (l:fn.body.isNone=true) (z:Extern.findNext fn=none) (F:Extern.find fn=some ex)
  (q:∀w,In E.w0 E.F K L w->∃v w' b L',(ex vs.toArray).run E.P w=.ok v w'/\N v b L'/\K.le b/\In E.w0 E.F b L' w'):
  EfS E fr K L ⟨dst,.call ⟨.value r,os.toArray,ats⟩,ty,pos,aft,g⟩ N:=fun a w s j=>by
 obtain⟨v,w',b,L',h,i,le,y⟩:=q w j;refine⟨v,w',b,L',.inl ?_,i,le,y⟩
 have M:Array.map a.eval os.toArray=vs.toArray:=by simp[s.evs d]
 simp only[execOp,resolve,M,s.ev p,Deferred.ofValue,bind,pure,Sem.bind,invoke,List.append_toArray];simp only[List.nil_append,List.append_nil];rw[run_callFunc_extern c e l z F,h]
 rfl
def HS{o:Oper}{R:Ending->Hl->List Asn->Prop}
  (l:∀a w,FrOk E.n E.ds fr a->(execOp a.eval o).run E.P w=.ok (.enter f vs.toArray) w) (q:Tks L1 L L2) (u:Sp E.P f vs K L1 R)
  (h:∀v b L',R (.returned v) b L'->N v b (L'++L2)) (g:∀p b L',R (.panicked p) b L'->K.le b->D E (.panic p) fr b (L'++L2) Q) (c:∀b L',R .outgrown b L'->LetsOut Q):
  Ef E fr K L o Q N:=by
 intro a w k s i t;obtain⟨F,x,d⟩:=(i.imp q.sat).hide;refine .inl ?_;unfold Oper.wp;rw[l a w s];refine(u.2 F w x).mono fun e y ⟨b,L',r,le,j⟩=>?_;cases e with
 |returned v=>exact t _ _ _ _ (h _ _ _ r) le (d j)
 |panicked p=>exact g _ _ _ r le _ _ s (d j)
 |outgrown=>exact c _ _ r
def GK{n:Nat}(e:fr.ev x=some (.iface t u))(d:fr.evs os=some vs)
  (B:∀w,(method (P.types.size+Made.depth) t u name).run P w=.ok (f,r) w) (c:∃fn,P.funcs[f]?=some fn/\(fn.name== "runtime.NumGoroutine")=false/\fn.body.isSome=true) (a:Act) (w:World) (s:FrOk n ds fr a):
  (execOp a.eval ⟨dst,.call ⟨.invoke x name,os.toArray,ats⟩,ty,pos,aft,g⟩).run P w=.ok (.enter f (r::vs).toArray) w:=by
 obtain⟨fn,h,b,l⟩:=c;rw[Du e d B s w];exact Bc h b l w
def nS{d:Nat}(j:fr.ev x=some (.iface t u))(c:fr.evs os=some vs)
  (B:∀w,(method (E.P.types.size+Made.depth) t u name).run E.P w=.ok (f,r) w) (g:Sp E.P f (r::vs) K L1 (Ret N)) (i:Tks L1 L L2) (hd:Nat.blt d E.n=true)
  (h:∀v a L',N v a L'->K.le a->OL E ops rest ((d,v)::fr) a (L'++L2) Q):OL E ops (⟨some d,.call ⟨.invoke x name,os.toArray,ats⟩,ty,pos,aft,none⟩::rest) fr K L Q:=
 F5 (HS (N:=fun v a b=>∃L',b=L'++L2/\N v a L') (GK j c B g.1) i g (fun v a L' ⟨u,e,n⟩=>by cases e;exact⟨L',Y,n⟩) (fun p a L' ⟨u,e,n⟩=>by cases e) (fun a L' ⟨u,e,n⟩=>by cases e)) hd
  (fun v a b ⟨L',e,n⟩ le=>by subst e;exact h v a L' n le)
def HZ{b e:TypeId}{ok:Bool}(c:fr.ev x=some u)(h:∀w,(Instr.typeAssert u b e ok).run E.P w=.ok v w):Ev E fr K L ⟨dst,.typeAssert x b e ok,ty,pos,aft,g⟩ v:=fun a w f j=>by
 simp only[execOp,f.ev c];exact fI (h w)
def yV{op:BinOp}{t':TypeId}{d a:Value}(b:fr.ev x=some d)(c:fr.ev y=some a)(P:∀w,(eqGuard op t x y d a).run E.P w=.ok () w)(h:∀w,(binOp op t d a).run E.P w=.ok v w):
  Ev E fr K L ⟨dst,.binOp op t x y t',ty,pos,aft,g⟩ v:=iY b c P h
end
end
section
variable{z:Bool}{F K K' a b h:Hl}{L L1:List Asn}{α:Type}{k:El α}{xs:List α}{v:Value}{w w0:World}
def Hl.less(k h:Hl):Hl:=fun x=>if (h x).isSome then none else k x
def Hl.less_le(k h:Hl):(k.less h).le k:=by
 intro x o e;unfold Hl.less at e;split at e
 ·cases e
 exact e
def Hl.less_dj(k h:Hl):h.dj (k.less h):=by
 intro x;cases e:h x with
 |none=>exact .inl Y
 |some o=>exact .inr (by simp[Hl.less,e])
def Hl.le_less(le:K.le K')(d:K.dj h):K.le (K'.less h):=by
 intro x o e;unfold Hl.less;rcases d x with q|q
 ·rw[q]at e;cases e
 simp only[q,Option.isSome_none,Bool.false_eq_true,if_false];exact le x o e
def Hl.le_join_l:a.le (a.join b):=fun x o e=>by simp[Hl.join,e]
def Hl.le_join_r(d:a.dj b):b.le (a.join b):=fun x o e=>by
 rcases d x with q|q
 ·simp[Hl.join,q,e]
 rw[q]at e;cases e
def In.freeze(i:In w0 F K (L1++L) w):∃h,Sat L1 h/\K.dj h/\In w0 F (K.join h) L w:=by
 obtain⟨x,j,e,g,S,G,H,d⟩:=i.rep;obtain⟨a,n,s,u,b,rfl⟩:=eT.1 j;have f:=Hl.dj_join.1 g;have c:=Hl.dj_join.1 S;exact⟨a,s,c.1,i.os,i.tape,i.output,i.size,n,u,Hl.dj_join.2 ⟨e,f.1⟩,f.2,Hl.join_dj.2 ⟨c.2,b⟩,G,Hl.join_le H (Hl.le_join_left d),Hl.le_join_right b d⟩
def In.thaw(i:In w0 F K' L w)(E:Sat L1 h)(le:h.le K'):In w0 F (K'.less h) (L1++L) w:=by
 obtain⟨x,c,a,b,S,G,H,f⟩:=i.rep;have s:∀y,K' y=none->h y=none:=by
  intro y t;cases e:h y with
  |none=>rfl
  |some o=>rw[le y o e]at t;cases t
 have d:h.dj x:=fun y=>(S y).imp_left (s y)
 have P:F.dj h:=fun y=>(a y).imp_right (s y)
 refine⟨i.os,i.tape,i.output,i.size,h.join x,eT.2 ⟨h,x,E,c,d,Y⟩,?_,Hl.dj_join.2 ⟨P,b⟩,Hl.dj_join.2 ⟨(Hl.less_dj K' h).symm,?_⟩,G,x5 (Hl.less_le _ _) H,Hl.join_le (x5 le H) f⟩
 ·intro y;rcases a y with q|q
  ·exact .inl q
  exact .inr (by unfold Hl.less;split<;>first|rfl|exact q)
 intro y;rcases S y with q|q
 ·exact .inl (by unfold Hl.less;split<;>first|rfl|exact q)
 exact .inr q
def Hm{P:Program}{f:FuncId}{args:List Value}{R:Ending->List Asn->Prop}(g:∃fn,P.funcs[f]?=some fn/\(fn.name== "runtime.NumGoroutine")=false/\fn.body.isSome=true)
  (h:∀a,Sat L1 a->K.dj a->Sp P f args (K.join a) L fun e _ L'=>R e L'):Sp P f args K (L1++L) fun e _ L'=>∃b,R e b/\L'=L1++b:=
 ⟨g, fun F w i => by
  obtain⟨a,c,d,l⟩:=i.freeze;exact((h a c d).2 F w l).mono fun e x ⟨K',L',r,le,j⟩=>⟨K'.less a,L1++L',⟨L',r,Y⟩,Hl.le_less (x5 Hl.le_join_l le) d,j.thaw c (x5 (Hl.le_join_r d) le)⟩⟩
def X9(c:sl z k v xs h):Ksl k h v xs:=by
 rcases c with ⟨rfl,rfl,rfl⟩|⟨b,f,j,w,rfl,N,d,E,a,rfl⟩
 ·exact .inl ⟨none,0,Y,Y⟩
 refine .inr ⟨b,0,f,k.cs xs++j,w,Y,⟨k.e,by simp[Hl.one]⟩,?_⟩
 exact gFY
def r6{A:Asn}(y:Hs A L)(c:Sat L h):∃a,A a/\a.le h:=by
 obtain⟨M,S⟩:=y.split;obtain⟨a,m,s,B,hd,rfl⟩:=S h c;exact⟨a,s,Hl.le_join_l⟩
def lB(y:Hs (sl z k v xs) L)(c:Sat L h):Ksl k h v xs:=by
 obtain⟨a,s,le⟩:=r6 y c;exact(X9 s).mono le
end
def Eb:∀ {o:Nat} {l cs:List Value},o+cs.length<=l.length->Spl l o cs (l.take o++cs++l.drop (o+cs.length))
 |0,l,[],h=>by simpa using Spl.nil
 |0,a::l,c::cs,h=>by
  have:=Eb (o:=0) (l:=l) (cs:=cs) (by simp at h ⊢;omega);have e:(a::l).take 0++c::cs++(a::l).drop (0+(c::cs).length)=c::(l.take 0++cs++l.drop (0+cs.length)):=cD;rw[e];exact .cons this
 |0,[],c::cs,h=>by simp at h
 |o+1,a::l,cs,h=>by
  have:=Eb (o:=o) (l:=l) (cs:=cs) (by simp at h;omega);have e:(a::l).take (o+1)++cs++(a::l).drop (o+1+cs.length)=a::(l.take o++cs++l.drop (o+cs.length)):=by
   have:o+1+cs.length=(o+cs.length)+1:=aH;rw[this];simp
  rw[e];exact .skip this
 |o+1,[],cs,h=>by simp at h
def HP{α:Type}(k:El α){y:α}:∀ {xs:List α} {j:Nat} {r:List Value},j<xs.length->(k.cs xs++r).take (j*k.sz)++k.enc y++(k.cs xs++r).drop (j*k.sz+(k.enc y).length)=k.cs (xs.set j y)++r
 | [],_,_,h=>by simp at h
 |x::xs,0,r,h=>by
  simp only[Nat.zero_mul,List.take_zero,List.nil_append,Nat.zero_add,List.set_cons_zero,El.cs,List.flatMap_cons,List.append_assoc];have:(k.enc y).length=(k.enc x).length:=by rw[k.len,k.len]
  rw[this,List.drop_left]
 |x::xs,j+1,r,h=>by
  have w:=HP k (y:=y) (xs:=xs) (j:=j) (r:=r) gBW;have a:=k.len x;simp only[El.cs,List.set_cons_succ,List.flatMap_cons,List.append_assoc]at w ⊢;have M:(j+1)*k.sz=(k.enc x).length+j*k.sz:=by rw[Nat.succ_mul,a];omega
  have O:(j+1)*k.sz+(k.enc y).length=(k.enc x).length+(j*k.sz+(k.enc y).length):=by rw[M];omega
  rw[M,List.take_append,xAJ aH,show (k.enc x).length+j*k.sz-(k.enc x).length=j*k.sz by omega];rw[show (k.enc x).length+j*k.sz+(k.enc y).length=(k.enc x).length+(j*k.sz+(k.enc y).length) by omega,List.drop_append,List.drop_eq_nil_of_le aH,show (k.enc x).length+(j*k.sz+(k.enc y).length)-(k.enc x).length=j*k.sz+(k.enc y).length by omega];rw[xB1,xA1,w]
section
variable{E:Env}{fr:Fr}{K:Hl}{L L':List Asn}{dst:Option Tmp}{ty:TypeId}{pos:String}{aft:Array Edge}{g:Option (Nat×Bool)}{x y:Operand}{t:TypeId}{α:Type}{k:El α}{v:Value}{xs:List α}
def oI{zf:Bool}{j:Nat}{y0:α}(ht:aggB E.P t k.sz=true)(hx:fr.ev x=some (mR v (j*k.sz)))(hy:fr.ev y=some (.agg (k.enc y0).toArray))(s:j<xs.length)
  (P:Fnd (sl zf k v xs) (sl zf k v (xs.set j y0)) L L'):EfS E fr K L ⟨dst,.store t x y,ty,pos,aft,g⟩ (fun _ A p=>A=K/\p=L'):=by
 intro a w f q;obtain⟨M,m1,m2⟩:=P.split;rcases(q.imp m1).slCases with ⟨rfl,rfl,_⟩|⟨b,r,d,C,rfl,hz,e,z,G,q0⟩
 ·simp at s
 have B:fr.ev x=some (ptr b (j*k.sz)):=by rw[hx];simp[mR,kS]
 have ja:j*k.sz+k.sz<=xs.length*k.sz:=by rw[<-Nat.succ_mul];exact xAU _ s
 have W:xs.length*k.sz<=r*k.sz:=xAU _ e;obtain⟨u,w',A,p,hr,⟨rfl,rfl⟩,le,q1⟩:=cQ (K:=K) (dst:=dst) (ty:=ty) (pos:=pos) (aft:=aft) (g:=g) (l:=k.cs xs++d) (u:=k.e) (fz:=C) ht B hy (k.len y0) (.here (L:=M)) (fun c O=>k.one y0 c O) (Eb (by rw[xAE,k.cs_length,k.len];omega)) (fun i hi=>G.at aH) a w f q0;refine⟨u,w',_,_,hr,⟨Y,Y⟩,le,q1.imp fun h S=>m2 h ?_⟩
 obtain⟨H,l,F,hl,hd,Q⟩:=S;refine⟨H,l,?_,hl,hd,Q⟩
 rw[HP k s]at F;refine .inr ⟨b,r,d,C,by rw[xBD],?_,by rw[xBD];exact e,by rw[xBD];exact z,G,F⟩
 intro I N;exact hz I (by have:=xAF List.length N;simp at this;exact xA7.1 (by simpa using this))
end
section
variable{P:Program}{fn:Func}{n:Nat}{w0:World}{F K0 K:Hl}{fr:Fr}{L:List Asn}{R:Ending->Hl->List Asn->Prop}{t1 t2 t3 t4:Nat}{v1 v2 v3 v4:Value}
def Lm(h:fn.results= #[.tmp t1,.tmp t2,.tmp t3])(tmps:Array Value)(w:World)(M:tmps.getD t1 undef=v1)(O:tmps.getD t2 undef=v2)(C:tmps.getD t3 undef=v3):(results fn tmps).run P w=.ok (.tuple #[v1,v2,v3]) w:=by
 have M:tmps[t1]?.getD undef=v1:=by simpa using M
 have O:tmps[t2]?.getD undef=v2:=by simpa using O
 have C:tmps[t3]?.getD undef=v3:=by simpa using C
 simp[results,h,M,O,C,Sem.run_bind,Result.andThen]
def Ln(h:fn.results= #[.tmp t1,.tmp t2,.tmp t3,.tmp t4])(tmps:Array Value)(w:World)(M:tmps.getD t1 undef=v1)(O:tmps.getD t2 undef=v2)(C:tmps.getD t3 undef=v3)(G:tmps.getD t4 undef=v4):(results fn tmps).run P w=.ok (.tuple #[v1,v2,v3,v4]) w:=by
 have M:tmps[t1]?.getD undef=v1:=by simpa using M
 have O:tmps[t2]?.getD undef=v2:=by simpa using O
 have C:tmps[t3]?.getD undef=v3:=by simpa using C
 have G:tmps[t4]?.getD undef=v4:=by simpa using G
 simp[results,h,M,O,C,G,Sem.run_bind,Result.andThen]
def uD(d:fn.results= #[.tmp t1,.tmp t2,.tmp t3])(b:fr.get t1=some v1)(c:fr.get t2=some v2)(l:fr.get t3=some v3)(le:K0.le K)(h:R (.returned (.tuple #[v1,v2,v3])) K L):
  D ⟨P,n,[],w0,F⟩ .ret fr K L (uY P fn w0 F K0 R):=
 fun a w f i=>⟨f.defers,_,Lm d _ _ (by simp[f.get _ _ b]) (by simp[f.get _ _ c]) (by simp[f.get _ _ l]),K,L,h,le,i⟩
def QQ(d:fn.results= #[.tmp t1,.tmp t2,.tmp t3,.tmp t4])(b:fr.get t1=some v1)(c:fr.get t2=some v2)(l:fr.get t3=some v3)(z:fr.get t4=some v4)(le:K0.le K)(h:R (.returned (.tuple #[v1,v2,v3,v4])) K L):
  D ⟨P,n,[],w0,F⟩ .ret fr K L (uY P fn w0 F K0 R):=
 fun a w f i=>⟨f.defers,_,Ln d _ _ (by simp[f.get _ _ b]) (by simp[f.get _ _ c]) (by simp[f.get _ _ l]) (by simp[f.get _ _ z]),K,L,h,le,i⟩
end
def Kg{E:Env}{x:Exit}{fr:Fr}{K:Hl}{L M:List Asn}{Q:Post}(h:D E x fr K L Q):D E x fr K (L++M) Q:=fun a w f i=>h a w f i.left
def iA{α:Type}{z:Bool}{k:El α}{v:Value}{xs:List α}{L:List Asn}:∀h,Sat (sl z k v xs::L) h->∃a n c,v=.slice a n c:=by
 rintro h ⟨a,l,s,_⟩;rcases s with ⟨rfl,_⟩|⟨b,f,j,w,rfl,_⟩<;>exact⟨_,_,_,Y⟩
end Go.SL
end
section
namespace Go.SL
section
variable{E:Env}{fr:Fr}{K:Hl}{L L':List Asn}{dst:Option Tmp}{ty:TypeId}{pos:String}{aft:Array Edge}{g:Option (Nat×Bool)}{t:TypeId}{α:Type}{k:El α}
def yO(I:iK E.P t k.e k.sz=true):EfS E fr K L ⟨dst,.buildSlice t 0 #[],ty,pos,aft,g⟩ (fun v d L'=>d=K/\∃b,v=.slice (some ⟨b,0,none⟩) 0 0/\L'=sl false k (.slice (some ⟨b,0,none⟩) 0 0) []::L):=by
 intro a w f j;obtain⟨y,e,i,q⟩:=mS I;have C:(underlying t).run E.P w=.ok (.slice k.e) w:=by simp only[underlying,program,bind,Sem.bind,pure,Sem.run,e]
 have c:(sizeOf k.e).run E.P w=.ok k.sz w:=by simp only[sizeOf,typeInfo,program,bind,Sem.bind,pure,Sem.run,i,q]
 have s:(Instr.buildSlice t 0 #[]).run E.P w=.ok (.slice (some ⟨w.heap.size,0,none⟩) 0 0) {w with heap:=w.heap.push (bK [] k.e)}:=by
  unfold Instr.buildSlice;rw[bH C];simp only[];rw[bH c];rw[x6 aH,x7 aH];rw[bH (tM _ _)];have N:0*k.sz=0:=aH;simp only[N];have p:(Array.range 0)= #[]:=cD;rw[p,Array.map_empty]
  rfl
 refine⟨.slice (some ⟨w.heap.size,0,none⟩) 0 0,_,K,sl false k (.slice (some ⟨w.heap.size,0,none⟩) 0 0) []::L,.inl ?_,⟨Y,w.heap.size,Y,Y⟩,xAB _,(j.alloc (bK [] k.e)).imp ?_⟩
 ·simp only[execOp];have:=fI s
  exact gF0
 rintro h ⟨x,l,u,r,hd,rfl⟩;refine⟨x,l,.inr ⟨w.heap.size,0,[],(0,0),Y,(fun h=>by cases h),xAG _,cD,.inl (xAG _),?_⟩,r,hd,Y⟩
 exact u
end
end Go.SL
namespace Go.Cmp
open Go Go.SL Go.Syn Go.Mach
def insA(v:InsV)(o:Ins):Asn:=fun h=>(v.op=o.op/\v.n=o.n/\v.tag=o.tag/\v.oct=o.oct/\v.at_=o.at_)/\Sat [sl false (aZ 9) v.a.1 o.a,sl false (aZ 9) v.b.1 o.b] h
def nZ:List InsV->List Ins->List Asn
 | [],[]=>[]
 |v::F,o::s=>insA v o::nZ F s
 |_,_=>[fun _=>False]
def fL(vs:List InsV)(os:List Ins):Asn:=fun h=>Sat (nZ vs os) h
def Fm{h:Hl}:∀ {vs:List InsV} {os:List Ins},Sat (nZ vs os) h->vs.length=os.length:=by
 intro vs;induction vs generalizing h with
 |nil=>intro os c;cases os with
  |nil=>rfl
  |cons o os=>obtain⟨_,_,a,_⟩:=c;exact a.elim
 |cons v vs w=>intro os c;cases os with
  |nil=>obtain⟨_,_,a,_⟩:=c;exact a.elim
  |cons o os=>obtain⟨_,l,_,b,_⟩:=c;simp[w b]
def Fk:∀ {vs:List InsV} {os:List Ins},vs.length=os.length->∀(ws:List InsV) (ps:List Ins),nZ (vs++ws) (os++ps)=nZ vs os++nZ ws ps
 | [],[],_,_,_=>rfl
 |v::vs,o::os,h,ws,ps=>by simp only[List.cons_append,nZ,Fk (show vs.length=os.length by simpa using h) ws ps]
 | [],_::_,h,_,_=>by simp at h
 |_::_,[],h,_,_=>by simp at h
def pZ{L:List Asn}:∀h,Sat L h->Sat (fL [] []::L) h:=fun h c=>⟨.emp,h,rfl,c,(Hl.dj_emp h).symm,(Hl.emp_join h).symm⟩
def oJ{vs:List InsV}{os:List Ins}{v:InsV}{o:Ins}{L:List Asn}(M:v.op=o.op)(O:v.n=o.n)(C:v.tag=o.tag)(G:v.oct=o.oct)(g:v.at_=o.at_):
  ∀h,Sat (sl false (aZ 9) v.a.1 o.a::sl false (aZ 9) v.b.1 o.b::fL vs os::L) h->Sat (fL (vs++[v]) (os++[o])::L) h:=by
 intro h i;obtain⟨a,r,b,⟨c,l,d,e,F,rfl⟩,hd,rfl⟩:=eT (L:=[_,_]).1 i;have f:=Hl.dj_join.1 hd;refine⟨c.join a,l,?_,e,Hl.join_dj.2 ⟨F,f.2⟩,?_⟩
 ·show Sat (nZ (vs++[v]) (os++[o])) _
  rw[Fk (Fm d)];exact eT.2 ⟨c,a,d,⟨a,.emp,⟨⟨M,O,C,G,g⟩,b⟩,Y,Hl.dj_emp _,(Hl.join_emp _).symm⟩,f.1.symm,Y⟩
 rw[<-Hl.join_assoc,Hl.join_comm f.1]
def AC{vs:List InsV}{os:List Ins}{v:InsV}{o:Ins}{L:List Asn}:
  ∀h,Sat (fL (v::vs) (o::os)::L) h->Sat (sl false (aZ 9) v.a.1 o.a::sl false (aZ 9) v.b.1 o.b::fL vs os::L) h:=by
 rintro h ⟨x,l,⟨a,c,⟨_,s⟩,d,hd,rfl⟩,b,g,rfl⟩;have f:=Hl.join_dj.1 g;exact eT (L:=[_,_]).2 ⟨a,c.join l,s,⟨c,l,d,b,f.2,Y⟩,Hl.dj_join.2 ⟨hd,f.1⟩,Hl.join_assoc _ _ _⟩
def codeP_len{vs:List InsV}{os:List Ins}{L:List Asn}:∀h,Sat (fL vs os::L) h->vs.length=os.length:=by
 rintro h ⟨x,l,a,_⟩;exact Fm a
def lP{h:Hl}:∀ {vs:List InsV} {os:List Ins},Sat (nZ vs os) h->RIs h vs os:=by
 intro vs;induction vs generalizing h with
 |nil=>intro os c;cases os with
  |nil=>trivial
  |cons o os=>obtain⟨_,_,b,_⟩:=c;exact b.elim
 |cons v vs w=>intro os c;cases os with
  |nil=>obtain⟨_,_,b,_⟩:=c;exact b.elim
  |cons o os=>
   obtain⟨a,l,⟨⟨M,O,C,G,g⟩,s⟩,d,hd,rfl⟩:=c;refine⟨⟨M,O,C,G,g,(lB .here s).mono Hl.le_join_l,(lB (.there .here) s).mono Hl.le_join_l⟩,(w d).mono (Hl.le_join_r hd)⟩
end Go.Cmp
end
section
namespace Go.SL
section
variable{E:Env}{fr:Fr}{K:Hl}{L:List Asn}{dst:Option Tmp}{ty:TypeId}{pos:String}{aft:Array Edge}{g:Option (Nat×Bool)}{x y:Operand}{t t':TypeId}{m n:Int}{k:IntKind}
def G4(a:fr.ev x=some (.int k m))(b:fr.ev y=some (.int k n))(P:n≠0):Ev E fr K L ⟨dst,.binOp .rem t x y t',ty,pos,aft,g⟩ (.int k (m.tmod n)):=
 iY a b kY fun w=>by simp[binOp,Op.intDiv,P,pure]
def Xv(b:fr.ev x=some (i64 m))(h: -9223372036854775807<=m)(c:m<=9223372036854775808):Ev E fr K L ⟨dst,.unOp .neg t x,ty,pos,aft,g⟩ (i64 (-m)):=fun a w f _=>by
 simp only[execOp,f.ev b];refine fI ?_;have e:IntKind.i64.wrap (-m)= -m:=tY aH aH;simp[Op.unary,Op.intArith,e]
def Kw(a:fr.ev x=some (.int k m))(b:fr.ev y=some (.int k n))(P:n≠0):Ev E fr K L ⟨dst,.binOp .quo t x y t',ty,pos,aft,g⟩ (.int k (k.wrap (m.tdiv n))):=
 iY a b kY fun w=>by simp[binOp,Op.intDiv,P,pure]
end
section
variable{E:Env}{fr:Fr}{K:Hl}{L:List Asn}{dst:Option Tmp}{ty:TypeId}{pos:String}{aft:Array Edge}{g:Option (Nat×Bool)}{x y:Operand}{t e:TypeId}{n b:Nat}{k:IntKind}
def Pp{P:Program}(h:fJ P e=true):∃a,P.info? e=some a/\a.size=1:=by
 unfold fJ at h;split at h
 ·cases h
 ·cases h
 ·rename_i i b c;exact⟨_,‹P.info? e=some _›,by simpa using h⟩
 cases h
def iM{j:Nat}{d:Int}(C:E.P.underlying t=some (.array n e))(A:fJ E.P e=true)(q:fr.ev x=some (ptr b))(r:fr.ev y=some (.int k d))(c:d=(j:Int))(p:j<n):
  Ev E fr K L ⟨dst,.indexAddr t x y,ty,pos,aft,g⟩ (ptr b j):=fun a w f i=>by
 subst c;obtain⟨s,h,l⟩:=Pp A;simp only[execOp,f.ev q,f.ev r];refine fI ?_;unfold Instr.indexAt;simp[asIntOf,underlying,program,bind,Sem.bind,pure,Sem.run,C,p,sizeOf,typeInfo,h,l,Instr.sureAddr,kS]
end
def oM(v:Value)(m I:Nat):Value:=
 match v with
 | .slice a n c=>.slice (if c=m then a else a.map (·.add (m*I))) (n-m) (c-m)
 |v=>v
def lT(v:Value):Prop:=∀a n c,v=.slice a n c->n<=c
section
variable{E:Env}{fr:Fr}{K:Hl}{L L':List Asn}{Q:Post}{dst:Option Tmp}{ty:TypeId}{pos:String}{aft:Array Edge}{g:Option (Nat×Bool)}{x y:Operand}{t:TypeId}{α:Type}{k:El α}{v u:Value}{xs ys:List α}{c0:Code}{x0:Exit}{m:Nat}
def XA(h:Ksl k K v xs)(B:m<=xs.length):Ksl k K (slTo v m) (xs.take m):=by
 rcases h with ⟨a,c,rfl,rfl⟩|⟨b,off,f,g,w,rfl,d,e⟩
 ·have:m=0:=by simpa using B
  subst this;exact .inl ⟨a,c,Y,Y⟩
 refine .inr ⟨b,off,f,g,w,?_,d,?_⟩
 ·simp only[slTo,List.length_take,Nat.min_eq_left B]
 rw[xA6,Nat.min_eq_left B,<-k.cs_take,<-e,List.take_take,Nat.min_eq_left (xAU _ B)]
def Iu(h:Ksl k K v xs)(B:m<=xs.length)(j:lT v):Ksl k K (oM v m k.sz) (xs.drop m):=by
 rcases h with ⟨a,c,rfl,rfl⟩|⟨b,off,f,g,w,rfl,d,e⟩
 ·have:m=0:=by simpa using B
  exact gG9
 have N:=j _ _ _ rfl
 by_cases i:f=m
 ·have:m=xs.length:=aH;exact gG9
 refine .inr ⟨b,off+m*k.sz,f-m,g,w,?_,d,?_⟩
 ·simp only[oM,if_neg i,List.length_drop,Option.map];unfold Addr.add;split
  ·rename_i P;rw[P];rfl
  rfl
 rw[xBF,Nat.sub_mul,<-k.cs_drop,<-e,<-List.drop_drop,List.drop_take]
def Cr{kk:IntKind}{mv:Int}{p:Operand}(I:iK E.P t k.e k.sz=true)(G:fr.ev x=some v)(F:SeesSl k K L v xs)(A:fr.ev p=some (.int kk mv))(i:mv=(m:Int))(B:m<=xs.length):
  Ev E fr K L ⟨dst,.slice t x (some p) none none,ty,pos,aft,g⟩ (oM v m k.sz):=fun a w f j=>by
 subst i;obtain⟨l,r,s,u⟩:=mS I;simp only[execOp,f.ev G,f.ev A,Option.map];refine fI ?_;have C:(underlying t).run E.P w=.ok (.slice k.e) w:=by simp only[underlying,program,bind,Sem.bind,pure,Sem.run,r]
 have h:(sizeOf k.e).run E.P w=.ok l.size w:=by simp only[sizeOf,typeInfo,program,bind,Sem.bind,pure,Sem.run,s]
 have d:∀(a:Option Addr) (n c:Nat),m<=n->(Instr.sliceAt t (.slice a n c) (some (.int kk m)) none none).run E.P w=.ok (oM (.slice a n c) m k.sz) w:=by
  intro a n c z;unfold Instr.sliceAt;rw[bH C];simp only[Instr.slice];rw[bH C];simp only[];have y:(Instr.sliceBounds true n c (some (.int kk m)) none none).run E.P w=.ok (m,n,c) w:=by
   simp[Instr.sliceBounds,Instr.sliceBound,asIntOf,bind,Sem.bind,pure,Sem.run,z]
  rw[bH y];simp only[];rw[bH h];simp only[oM,u,pure,Sem.run]
 rcases F.at j with ⟨S,c,rfl,rfl⟩|⟨b,off,q,e,H,rfl,⟨u0,M⟩,N⟩
 ·exact d S 0 c (by simpa using B)
 exact d _ _ _ B
end
section
variable{ats:Array TypeId}{mv vc vl:Int}{kc kl:IntKind}{c:Nat}{a:Option Addr}{e sz:TypeId}
def Iz(v:Value)(hv:v.cells= #[v])(n:Nat):madeCells v.cells n=(List.replicate n v).toArray:=by
 unfold madeCells;rw[hv]
 apply Array.ext
 ·simp
 intro i h b;simp[Nat.mod_one]
def Ae{α:Type}(k:El α){x0:α}{v:Value}(h:k.enc x0=[v]):∀n,k.cs (List.replicate n x0)=List.replicate n v
 |0=>rfl
 |n+1=>by
  have:=Ae k h n;simp only[El.cs,List.replicate_succ,List.flatMap_cons,h]at this ⊢;rw[this];rfl
section
variable{E:Env}{fr:Fr}{K:Hl}{L L' M:List Asn}{dst:Option Tmp}{ty:TypeId}{pos:String}{aft:Array Edge}{g:Option (Nat×Bool)}{x y:Operand}{t t2 t' bytes:Nat}{α:Type}{k:El α}{v u:Value}{xs ys:List α}{n m j:Nat}
def MG{x0:α}(c:elOk E.P t k.e k.sz bytes=true)(N:gX E.P k.e=some v)(hv:v.cells= #[v])(A:k.enc x0=[v])(hx:fr.ev x=some (.int kl vl))(hy:fr.ev y=some (.int kc vc))(B:vl=n)(H:vc=n)(hb:bytes*n<=281474976710656)(I:n<=9223372036854775807):
  EfS E fr K L ⟨dst,.makeSlice t x y,ty,pos,aft,g⟩ (fun r s L'=>∃b,r=.slice (some ⟨b,0,none⟩) n n/\s=K/\L'=sl false k (.slice (some ⟨b,0,none⟩) n n) (List.replicate n x0)::L):=by
 subst B H;intro a w f q;obtain⟨i,z,M,O,C,G,p,e6⟩:=Bb c;have j:z=v:=by
  unfold gX at N;rw[O]at N
  simpa[p]using N
 subst j;have e:k.sz=1:=by have:=k.len x0;rw[A]at this;exact this.symm
 have d:=run_make (P:=E.P) w t k.e i z M O p kl kc n n aH (Int.le_refl _) (by rw[G,<-Int.natCast_mul];omega) aH;simp only[Int.toNat_natCast]at d;rw[Iz z hv,C,e,Nat.mul_one]at d;refine⟨.slice (some ⟨w.heap.size,0,none⟩) n n,_,K,_,.inl ?_,⟨_,Y,Y,Y⟩,xAB _,(q.alloc (bK (List.replicate n z) k.e)).imp fun h S=>?_⟩
 ·simp only[execOp,f.ev hx,f.ev hy];exact fI d
 obtain⟨u,l,Q,W,hd,F⟩:=S;refine⟨u,l,?_,W,hd,F⟩
 refine .inr ⟨w.heap.size,n,[],(0,0),cD,(fun h=>by cases h),cD,cD,.inl (xAG _),?_⟩
 rw[xAL,Ae k A];exact Q
def VF(c:elOk E.P t k.e k.sz bytes=true)(N:gX E.P k.e=some v)(hv:v.cells= #[v])(b:k.sz=1)(S:fr.ev x=some (.int kl vl))(W:fr.ev y=some (.int kc vc))(u:vl=0)(A:vc=n)(hb:bytes*n<=281474976710656)(B:n<=9223372036854775807):
  EfS E fr K L ⟨dst,.makeSlice t x y,ty,pos,aft,g⟩ (fun r p L'=>p=K/\L'=sl false k r []::L/\r.oneCell'=true):=by
 subst u A;intro a w f q;obtain⟨i,z,M,O,C,G,j,e6⟩:=Bb c;have e:z=v:=by
  unfold gX at N;rw[O]at N
  simpa[j]using N
 subst e;have d:=run_make (P:=E.P) w t k.e i z M O j kl kc 0 n (Int.le_refl _) aH (by rw[G,<-Int.natCast_mul];omega) aH;simp only[Int.toNat_natCast,Int.toNat_zero]at d;rw[Iz z hv,C,b,Nat.mul_one]at d;refine⟨.slice (some ⟨w.heap.size,0,none⟩) 0 n,_,K,_,.inl ?_,⟨Y,Y,Y⟩,xAB _,(q.alloc (bK (List.replicate n z) k.e)).imp fun h I=>?_⟩
 ·simp only[execOp,f.ev S,f.ev W];exact fI d
 obtain⟨s,l,H,Q,hd,F⟩:=I;refine⟨s,l,?_,Q,hd,F⟩
 refine .inr ⟨w.heap.size,n,List.replicate n z,(0,0),cD,(fun h=>by cases h),cD,by simp[b],.inl (xAG _),?_⟩
 simpa[El.cs,pt]using H
def Te{zf:Bool}(hu:E.P.underlying t=some (.slice k.e))(B:(E.P.info? k.e).map (·.size)=some k.sz)(hx:fr.ev x=some (oM v j k.sz))(hy:fr.ev y=some u)(hT:Fnd (sl zf k v xs) (sl zf k v (xs.take j++ys++xs.drop (j+ys.length))) L L')
  (hs:SeesSl k K L u ys) (h0:ys≠[]) (s:j+ys.length<=xs.length):
  EfS E fr K L ⟨dst,.call ⟨.builtin .copy,#[x,y],#[t,t2]⟩,ty,pos,aft,g⟩ (fun r K' F=>r=i64 ys.length/\K'=K/\F=L'):=by
 intro a w f q;have hS:=hs.at q;obtain⟨M,m1,m2⟩:=hT.split;have jc:0<ys.length:=List.length_pos_iff.2 h0;rcases(q.imp m1).slCases with ⟨rfl,rfl,_⟩|⟨b,d,c,fz,rfl,hz,p,I,hf,q0⟩
 ·rw[List.length_nil]at s;omega
 have H:d≠j:=aH;have Q:fr.ev x=some (.slice (some ⟨b,j*k.sz,none⟩) (xs.length-j) (d-j)):=by
  rw[hx];simp only[oM,if_neg H,Option.map];congr 3
  unfold Addr.add;split
  ·rename_i h;rw[h]
  simp
 have e:Array.map a.eval #[x,y]= #[.slice (some ⟨b,j*k.sz,none⟩) (xs.length-j) (d-j),u]:=by simp[f.ev Q,f.ev hy]
 have N:(j+ys.length)*k.sz<=xs.length*k.sz:=xAU _ s;have ja:xs.length*k.sz<=d*k.sz:=xAU _ p;rw[Nat.add_mul]at N;have G:(k.cs ys).length=ys.length*k.sz:=k.cs_length ys;have jb:(k.cs xs).length=xs.length*k.sz:=k.cs_length xs;obtain⟨w',r1,r2,r3,r4,r5⟩:=sB (P:=E.P) (b:=b) (k.cs ys) (j*k.sz) 0 w (k.cs xs++c) q0.piece gBT (fun i hi=>hf.at aH) (k.cs_one ys);refine⟨i64 ys.length,w',K,_,.inl ?_,⟨Y,Y,Y⟩,xAB _,?_⟩
 ·simp only[execOp,resolve,e,bind,pure,Sem.bind,invoke,builtin];refine fI ?_;have z:=dC (k:=k) (t2:=t) hu hS;have hc:=z.cells w.drawn;have S:=z.len;cases O:E.P.info? k.e with
  |none=>simp[O]at B
  |some i=>
   have hi:i.size=k.sz:=by simpa[O]using B
   have A:Nat.min ys.length (xs.length-j)=ys.length:=Nat.min_eq_left aH;simp[Builtin.copy_,run_underlying hu,S,sizeOf,typeInfo,O,hi,A,hc,r1,goInt]
 have jj:=q0.write r2 (by simpa using r3) r4;rw[<-r5]at jj;refine jj.imp fun h hh=>m2 h ?_
 obtain⟨aa,l,W,hl,hd,he⟩:=hh;refine⟨aa,l,?_,hl,hd,he⟩
 have C:(xs.take j++ys++xs.drop (j+ys.length)).length=xs.length:=by rw[xAE,xAE,xA6,xBF];omega
 refine .inr ⟨b,d,c,fz,by rw[C],?_,by rw[C];exact p,by rw[C];exact I,hf,?_⟩
 ·intro _ h2;have:=xAF List.length h2;rw[C,List.length_nil]at this;omega
 have e2:(k.cs xs++c).take (j*k.sz)=k.cs (xs.take j):=by rw[List.take_append_of_le_length (by rw[k.cs_length];omega),k.cs_take]
 have e3:(k.cs xs++c).drop (j*k.sz+(k.cs ys).length)=k.cs (xs.drop (j+ys.length))++c:=by
  rw[G,<-Nat.add_mul,List.drop_append_of_le_length (by rw[k.cs_length,Nat.add_mul];omega),k.cs_drop]
 rw[e2,e3]at W;rw[k.cs_append,k.cs_append,xA1]
 simpa[pt,List.append_assoc]using W
def Ak{P:Program}(w:World){n:Nat}(C:P.underlying t=some (.slice e)):(Op.equal t (.slice a n c) (.slice none 0 0)).run P w=.ok a.isNone w:=by
 have h:∀d:Nat,(Op.equalIn (d+1) t (.slice a n c) (.slice none 0 0)).run P w=.ok a.isNone w:=fun d=>by cases a<;>simp[Op.equalIn,run_underlying C]
 exact h 9999
def HW{n:Nat}(C:E.P.underlying t=some (.slice e))(b:fr.ev x=some (.slice a n c)):Ev E fr K L ⟨dst,.binOp .eql t x (.const (.slice none 0 0)) t',ty,pos,aft,g⟩ (.bool a.isNone):=
 iY b (v:=.slice none 0 0) rfl (fun w=>by unfold eqGuard;first|rfl|simp) fun w=>by
  simp only[binOp];rw[bH (Ak w C)];rfl
def pV{n:Nat}(C:E.P.underlying t=some (.slice e))(b:fr.ev x=some (.slice a n c)):Ev E fr K L ⟨dst,.binOp .neq t x (.const (.slice none 0 0)) t',ty,pos,aft,g⟩ (.bool a.isSome):=
 iY b (v:=.slice none 0 0) rfl (fun w=>by unfold eqGuard;first|rfl|simp) fun w=>by
  simp only[binOp];rw[bH (Ak w C)];cases a<;>rfl
def Dk{kk:IntKind}{h:Operand}(I:iK E.P t e sz=true)(s:fr.ev x=some (.slice a n c))(y:fr.ev h=some (.int kk mv))(i:mv=(m:Int))(B:m<=n):
  Ev E fr K L ⟨dst,.slice t x (some h) none none,ty,pos,aft,g⟩ (oM (.slice a n c) m sz):=fun u w f j=>by
 subst i;obtain⟨d,l,p,q⟩:=mS I;simp only[execOp,f.ev s,f.ev y,Option.map];refine fI ?_;have C:(underlying t).run E.P w=.ok (.slice e) w:=by simp only[underlying,program,bind,Sem.bind,pure,Sem.run,l]
 have b:(sizeOf e).run E.P w=.ok d.size w:=by simp only[sizeOf,typeInfo,program,bind,Sem.bind,pure,Sem.run,p]
 unfold Instr.sliceAt;rw[bH C];simp only[Instr.slice];rw[bH C];simp only[];have r:(Instr.sliceBounds true n c (some (.int kk m)) none none).run E.P w=.ok (m,n,c) w:=by
  exact gGK
 rw[bH r];simp only[];rw[bH b];simp only[oM,q,pure,Sem.run]
def uF{n:Nat}(s:ats[0]?=some t)(C:E.P.underlying t=some (.slice e))(d:fr.ev x=some (.slice a n c)):
  Ev E fr K L ⟨dst,.call ⟨.builtin .len,#[x],ats⟩,ty,pos,aft,g⟩ (i64 n):=fun b w f j=>by
 have e:Array.map b.eval #[x]= #[.slice a n c]:=by simp[f.ev d]
 simp only[execOp,resolve,e,bind,pure,Sem.bind,invoke,builtin];exact gGR
def Df{n:Nat}(s:ats[0]?=some t)(C:E.P.underlying t=some (.slice e))(d:fr.ev x=some (.slice a n c)):
  Ev E fr K L ⟨dst,.call ⟨.builtin .cap,#[x],ats⟩,ty,pos,aft,g⟩ (i64 c):=fun b w f j=>by
 have e:Array.map b.eval #[x]= #[.slice a n c]:=by simp[f.ev d]
 simp only[execOp,resolve,e,bind,pure,Sem.bind,invoke,builtin];simp[Builtin.cap_,s,underlying,program,bind,Sem.bind,pure,Sem.run,C,goInt]
def G7{kk:IntKind}{p:Operand}(I:iK E.P t e sz=true)(s:fr.ev x=some (.slice a n c))(y:fr.ev p=some (.int kk mv))(i:mv=(m:Int))(B:m<=c):
  Ev E fr K L ⟨dst,.slice t x none (some p) none,ty,pos,aft,g⟩ (.slice a m c):=fun u w f j=>by
 subst i;obtain⟨h,l,q,v⟩:=mS I;simp only[execOp,f.ev s,f.ev y,Option.map];refine fI ?_;have C:(underlying t).run E.P w=.ok (.slice e) w:=by simp only[underlying,program,bind,Sem.bind,pure,Sem.run,l]
 have b:(sizeOf e).run E.P w=.ok h.size w:=by simp only[sizeOf,typeInfo,program,bind,Sem.bind,pure,Sem.run,q]
 unfold Instr.sliceAt;rw[bH C];simp only[Instr.slice];rw[bH C];simp only[];have r:(Instr.sliceBounds true n c none (some (.int kk m)) none).run E.P w=.ok (0,m,c) w:=by
  exact gGK
 rw[bH r];simp only[];rw[bH b];cases a with
 |none=>by_cases d:c=0<;>simp[d,pure,Sem.run,Addr.add]
 |some a=>by_cases d:c=0<;>simp[d,pure,Sem.run,Addr.add]
def aAQ{a:Operand}{os:List Operand}{ps:Array TypeId}{f:FuncId}{fn:Func}(q:fr.ev a=some (.func (.func f) #[] #[]))(d:fr.evs os=some [i64 n])
  (h:E.P.funcs[f]?=some fn) (l:(fn.name== "runtime.NumGoroutine")=false) (p:fn.body.isNone=true) (z:Extern.findNext fn=none) (F:Extern.find fn=some (Extern.BytealgMakeNoZero.makeNoZero ps #[t])) (I:E.P.underlying t=some (.slice e)) (u:n<=281474976710656):
  EfS E fr K L ⟨dst,.call ⟨.value a,os.toArray,ats⟩,ty,pos,aft,g⟩ (fun r c L'=>∃(b:Nat) (cs:List Value),n<=cs.length/\r=.slice (some ⟨b,0,none⟩) n cs.length/\c=K/\L'=pt b (bK cs e)::L):=
 Cb q d h l p z F fun w i=>by
  obtain⟨cs,s,N,_⟩:=Lib.run_makeNoZero (P:=E.P) w ps t e I n u;refine⟨_,_,K,_,s,⟨w.heap.size,cs.toList,by simpa using N,cD,rfl,rfl⟩,xAB _,?_⟩
  have j:=(i.drew (w.drawn+1+1)).alloc (bK cs.toList e);have M:(Obj.cells cs e)=bK cs.toList e:=by unfold bK;simp
  rw[M];exact j
def Ks{a:Addr}(C:E.P.underlying t=some (.slice e))(d:((E.P.info? e).map (·.size)).isSome=true)(h:fr.ev x=some (.slice (some a) n c))(i:fr.ev y=some (.slice none 0 0)):
  Ev E fr K L ⟨dst,.call ⟨.builtin .copy,#[x,y],#[t,t2]⟩,ty,pos,aft,g⟩ (i64 0):=fun b w f j=>by
 have e:Array.map b.eval #[x,y]= #[.slice (some a) n c,.slice none 0 0]:=by simp[f.ev h,f.ev i]
 simp only[execOp,resolve,e,bind,pure,Sem.bind,invoke,builtin];exact fI (run_copy_nil E.P w t t2 ty _ a n c C d)
def Ba{o:Oper}{d:Obj}{f:Nat->Value}{N:Value->Hl->List Asn->Prop}(h:EfS E fr K L o N)(g:∀v c L',N v c L'->∃b,v=f b/\c=K/\L'=pt b d::L):EfS E fr K L o (fun v c L'=>∃b,v=f b/\c b=some d/\L'=L):=fun a w s j=>by
 obtain⟨u,x,c,L',p,l,le,y⟩:=h a w s j;obtain⟨b,e,rfl,rfl⟩:=g _ _ _ l;obtain⟨A,i,q⟩:=y.settle;exact⟨u,x,_,L,p,⟨b,e,i,Y⟩,x5 le A,q⟩
end
end
section
variable{f:FuncId}{o:Oper}{p:Prop}
def Mk(P:Program)(r:Value)(f:FuncId)(vs:List Value):Prop:=∀w,(do let d <-Deferred.ofValue r #[];invoke d.target d.args).run P w=.ok (.enter f vs.toArray) w
section
variable{E:Env}{fr:Fr}{K:Hl}{L L1 L2:List Asn}{Q:Post}{ops:Array Oper}{rest:List Oper}{ty:TypeId}{pos:String}{aft:Array Edge}
def Sh{d:Nat}{r:Operand}{j:Array TypeId}{x:Value}{vs:List Value}{N:Value->Hl->List Asn->Prop}(i:fr.ev r=some x)(A:Mk E.P x f vs)(l:Sp E.P f vs K L1 (Ret N))(g:Tks L1 L L2)(hd:Nat.blt d E.n=true)
  (h:∀v b L',N v b L'->K.le b->OL E ops rest ((d,v)::fr) b (L'++L2) Q):OL E ops (⟨some d,.call ⟨.value r,#[],j⟩,ty,pos,aft,none⟩::rest) fr K L Q:=
 F5 (HS (N := fun v b c => ∃ L', c = L' ++ L2 /\ N v b L') (fun a w s => by
  have:=A w
  simpa[execOp,resolve,s.ev i,bind,pure,Sem.bind]using this) g l (fun v b L' ⟨u,e,n⟩=>by cases e;exact⟨L',Y,n⟩) (fun p b L' ⟨u,e,n⟩=>by cases e) (fun b L' ⟨u,e,n⟩=>by cases e)) hd
  (fun v b c ⟨L',e,n⟩ le=>by subst e;exact h v b L' n le)
def vI[Decidable p](h:Ev E fr K L o (.bool (decide p)))(hp:p):Ev E fr K L o (.bool true):=by rwa [xAO hp]at h
def s7[Decidable p](h:Ev E fr K L o (.bool (decide p)))(hp:¬p):Ev E fr K L o (.bool false):=by rwa [xAQ hp]at h
def kD{u v:Value}(h:Ev E fr K L o u)(e:u=v):Ev E fr K L o v:=e▸h
end
def PC{P:Program}{args:List Value}{K:Hl}{b:Nat}{o:Obj}{L:List Asn}{R:Ending->Hl->List Asn->Prop}(p:∃fn,P.funcs[f]?=some fn/\(fn.name== "runtime.NumGoroutine")=false/\fn.body.isSome=true)
  (h:∀a,K.le a->a b=some o->Sp P f args a L R):Sp P f args K (pt b o::L) R:=
 ⟨p, fun F w i => by
  obtain⟨c,d,l⟩:=i.settle;exact((h _ c d).2 F w l).mono fun e x ⟨a,g,r,le,j⟩=>⟨a,g,r,x5 c le,j⟩⟩
end
section
variable{E:Env}{fr:Fr}{K:Hl}{L L':List Asn}{Q:Post}{dst:Option Tmp}{ty:TypeId}{pos:String}{aft:Array Edge}{g:Option (Nat×Bool)}{x y:Operand}{t:TypeId}{α:Type}{k:El α}{v u:Value}{xs ys:List α}{c0:Code}{x0:Exit}{m n:Nat}
def Vn{b:Array Oper}{rest:List Oper}{z:Bool}(h:lT v->OL E b rest fr K (sl z k v xs::L) Q):OL E b rest fr K (sl z k v xs::L) Q:=fun a w f i=>h (Ts .here i) a w f i
def MK(v:Value)(m n I:Nat):Value:=slTo (oM v m I) (n-m)
def Vc(h:Ksl k K v xs)(B:m<=n)(u:n<=xs.length)(a:lT v):Ksl k K (MK v m n k.sz) ((xs.drop m).take (n-m)):=XA (Iu h aH a) gBB
def G6{kk q:IntKind}{mv nv:Int}{y s:Operand}(Q:iK E.P t k.e k.sz=true)(W:fr.ev x=some v)(P:SeesSl k K L v xs)(I:lT v)(N:fr.ev y=some (.int kk mv))(M:fr.ev s=some (.int q nv))(i:mv=(m:Int))(h:nv=(n:Int))(O:m<=n)(u:n<=xs.length):
  Ev E fr K L ⟨dst,.slice t x (some y) (some s) none,ty,pos,aft,g⟩ (MK v m n k.sz):=fun a w f j=>by
 subst i;subst h
 obtain⟨r,A,B,F⟩:=mS Q;simp only[execOp,f.ev W,f.ev N,f.ev M,Option.map];refine fI ?_;have C:(underlying t).run E.P w=.ok (.slice k.e) w:=by simp only[underlying,program,bind,Sem.bind,pure,Sem.run,A]
 have p:(sizeOf k.e).run E.P w=.ok r.size w:=by simp only[sizeOf,typeInfo,program,bind,Sem.bind,pure,Sem.run,B]
 have d:∀(a:Option Addr) (l c:Nat),n<=c->(Instr.sliceAt t (.slice a l c) (some (.int kk m)) (some (.int q n)) none).run E.P w=.ok (MK (.slice a l c) m n k.sz) w:=by
  intro a l c H;unfold Instr.sliceAt;rw[bH C];simp only[Instr.slice];rw[bH C];simp only[];have G:(Instr.sliceBounds true l c (some (.int kk m)) (some (.int q n)) none).run E.P w=.ok (m,n,c) w:=by
   simp[Instr.sliceBounds,Instr.sliceBound,asIntOf,bind,Sem.bind,pure,Sem.run,H,O]
  rw[bH G];simp only[];rw[bH p];simp only[MK,slTo,oM,F,pure,Sem.run]
 rcases P.at j with ⟨S,c,rfl,rfl⟩|⟨b,off,z,e,fz,rfl,⟨u0,h4⟩,h5⟩
 ·have:n=0:=by simpa using u
  subst this;exact d S 0 c (xAA _)
 exact d _ _ _ (xAR u (I _ _ _ Y))
end
section
variable{E:Env}{fr:Fr}{K:Hl}{L L':List Asn}{dst:Option Tmp}{ty:TypeId}{pos:String}{aft:Array Edge}{g:Option (Nat×Bool)}{x y:Operand}{t:TypeId}{α:Type}{k:El α}{v:Value}{xs:List α}
def DU{zf:Bool}{j o:Nat}{x0 y0:α}{c:Value}(ht:fJ E.P t=true)(hx:fr.ev x=some (mR v (j*k.sz+o)))(hy:fr.ev y=some c)(C:xs[j]?=some x0)(ho:o<k.sz)(Q:(k.enc x0).set o c=k.enc y0)(r:c.oneCell'=true)
  (P:Fnd (sl zf k v xs) (sl zf k v (xs.set j y0)) L L'):EfS E fr K L ⟨dst,.store t x y,ty,pos,aft,g⟩ (fun _ A i=>A=K/\i=L'):=by
 intro a w f q;have I:j<xs.length:=by
  rcases xAD j xs.length with h|h
  ·exact h
  simp[List.getElem?_eq_none h]at C
 obtain⟨M,m1,m2⟩:=P.split;rcases(q.imp m1).slCases with ⟨rfl,rfl,_⟩|⟨b,p,d,F,rfl,hz,e,z,H,q0⟩
 ·simp at I
 have B:fr.ev x=some (ptr b (j*k.sz+o)):=by rw[hx];simp[mR,kS]
 have ja:j*k.sz+k.sz<=xs.length*k.sz:=by rw[<-Nat.succ_mul];exact xAU _ I
 have W:xs.length*k.sz<=p*k.sz:=xAU _ e;obtain⟨u,w',A,i,hr,⟨rfl,rfl⟩,le,q1⟩:=bW (K:=K) (dst:=dst) (ty:=ty) (pos:=pos) (aft:=aft) (g:=g) (l:=k.cs xs++d) (u:=k.e) (fz:=F) ht B hy r (.here (L:=M)) (xW (by rw[xAE,k.cs_length];omega)) (H.at aH) a w f q0;refine⟨u,w',_,_,hr,⟨Y,Y⟩,le,q1.imp fun h S=>m2 h ?_⟩
 obtain⟨N,l,G,hl,hd,s⟩:=S;refine⟨N,l,?_,hl,hd,s⟩
 rw[cs_set k ho Q C]at G;refine .inr ⟨b,p,d,F,by rw[xBD],?_,by rw[xBD];exact e,by rw[xBD];exact z,H,G⟩
 intro r O;exact hz r (by have:=xAF List.length O;simp at this;exact xA7.1 (by simpa using this))
end
section
variable{l:List Value}{fz:Nat×Nat}
def JB(P:Program)(U n T:Nat):Bool:=
 match P.info? T with
 |some j=>j.size !=0&&n !=0&&liesAt P P.depth U (n/P.cellsOf U) 0 T 1
 |none=>false
section
variable{E:Env}{fr:Fr}{K:Hl}{L L':List Asn}{Q:Post}{dst:Option Tmp}{ty:TypeId}{pos:String}{aft:Array Edge}{g:Option (Nat×Bool)}{x y:Operand}{t t2 t' s e b n:Nat}{T U:TypeId}{v:Value}
def EH(d:E.P.underlying t=some (.pointer T))(hd:E.P.underlying t2=some .unsafePointer)(e:fr.ev x=some (ptr b))(u:Sees K L b (bK l U fz))(c:JB E.P U l.length T=true):
  Ev E fr K L ⟨dst,.convert t t2 x,ty,pos,aft,g⟩ (ptr b):=fun a w f j=>by
 simp only[execOp,f.ev e];refine fI ?_;unfold JB at c;cases p:E.P.info? T with
 |none=>simp[p]at c
 |some i=>
  simp[p]at c;have hp:0<l.length:=by
   rcases Nat.eq_zero_or_pos l.length with h|h
   ·exact gH3
   exact h
  exact Lib.run_to_unsafe w ⟨b,0,none⟩ d hd p (by have:=c.1.1;omega) (wH (u.at j)) hp
def Cq(d:E.P.underlying t=some .unsafePointer)(hd:E.P.underlying t2=some (.pointer T))(e:fr.ev x=some (ptr b))(u:Sees K L b (bK l U fz))(c:JB E.P U l.length T=true):
  Ev E fr K L ⟨dst,.convert t t2 x,ty,pos,aft,g⟩ (ptr b):=fun a w f j=>by
 simp only[execOp,f.ev e];refine fI ?_;unfold JB at c;cases p:E.P.info? T with
 |none=>simp[p]at c
 |some h=>
  exact gGI
end
end
section
variable{ats:Array TypeId}{f:FuncId}{os:List Operand}{l vs:List Value}{fz:Nat×Nat}{fv:Operand}{u:TypeId}{r:Value}{w:World}
section
variable{E:Env}{fr:Fr}{K:Hl}{L L':List Asn}{Q:Post}{dst:Option Tmp}{ty:TypeId}{pos:String}{aft:Array Edge}{g:Option (Nat×Bool)}{ops:Array Oper}{rest:List Oper}{v x:Value}{b o:Nat}
def Fg{a:Act}{w':World}(s:FrOk E.n E.ds fr a)(b:fr.ev fv=some (.func (.func f) #[] #[]))(d:fr.evs os=some vs)
  (i:(callFunc f vs.toArray).run E.P w=.ok (.value r) w'):(execOp a.eval ⟨dst,.call ⟨.value fv,os.toArray,ats⟩,ty,pos,aft,g⟩).run E.P w=.ok (.value r) w':=by
 have M:Array.map a.eval os.toArray=vs.toArray:=by simp[s.evs d]
 simp only[execOp,resolve,M,s.ev b,Deferred.ofValue,bind,pure,Sem.bind,invoke,List.append_toArray];simp only[List.nil_append,List.append_nil];exact i
def rR(b:fr.ev fv=some (.func (.func f) #[] #[]))(d:fr.evs os=some vs)(i:∀w,In E.w0 E.F K L w->(callFunc f vs.toArray).run E.P w=.ok (.value v) w):
  Ev E fr K L ⟨dst,.call ⟨.value fv,os.toArray,ats⟩,ty,pos,aft,g⟩ v:=fun a w s j=>Fg s b d (i w j)
def By{i:List Value}(q:fr.ev fv=some (.func (.func f) #[] #[]))(d:fr.evs os=some vs)
  (y:∀w:World,w.heap[b]?=some (bK l u fz)->(callFunc f vs.toArray).run E.P w=.ok (.value v) (w.setCell ⟨b,o,none⟩ x))
  (h:Fnd (pt b (bK l u fz)) (pt b (bK i u fz)) L L') (C:SetAt l o x i):
  EfS E fr K L ⟨dst,.call ⟨.value fv,os.toArray,ats⟩,ty,pos,aft,g⟩ (fun r p c=>r=v/\p=K/\c=L'):=by
 intro a w s j;have e:=j.mem h;obtain⟨rfl,t⟩:=C.eq;obtain⟨z,A,H⟩:=qX (o:=o) x e;exact⟨_,_,_,_,.inl (Fg s q d (y w e)),⟨Y,Y,Y⟩,xAB _,j.writeAt h z A H⟩
def Ap{t t2 T:TypeId}{y:Operand}{c:Value}(h:E.P.underlying t=some (.pointer T))(hd:E.P.underlying t2=some .unsafePointer)(d:(E.P.info? T).map (fun i=>decide (i.size=0))=some false)(p:fr.ev y=some (ptr b o))(e:Sees K L b (bK l u fz))(v:l[o]?=some c):
  Ev E fr K L ⟨dst,.convert t t2 y,ty,pos,aft,g⟩ (ptr b o):=fun a w f j=>by
 simp only[execOp,f.ev p];refine fI ?_;exact run_convert_to_unsafe h hd d (nK (e.at j) v)
def Be(h:w.heap[b]?=some (bK l u)):w.frozen? ⟨b,o,none⟩=false:=by
 simp only[World.frozen?,h];simp
def G1{P:Program}(a:∃fn,P.funcs[f]?=some fn/\(fn.name== "runtime.NumGoroutine")=false/\fn.body.isSome=true):Mk P (.func (.func f) #[r] #[]) f [r]:=by
 intro w;obtain⟨fn,h,b,l⟩:=a;simp only[Deferred.ofValue,bind,pure,Sem.bind,invoke];have:=Bc (vs:= #[r]) h b l w
 exact gF0
abbrev dfa(f:FuncId)(args:List Value):Deferred:={target:=.fn (.func f) #[],args:=args.toArray}
def F4(c:fr.ev fv=some (.func (.func f) #[] #[]))(d:fr.evs os=some vs)
  (h:OL ⟨E.P,E.n,dfa f vs::E.ds,E.w0,E.F⟩ ops rest fr K L Q):OL E ops (⟨none,.defer ⟨.value fv,os.toArray,ats⟩,ty,pos,aft,none⟩::rest) fr K L Q:=by
 intro a w b i;refine wpList_plain Y fun k j=>?_;unfold Oper.wp;have M:Array.map a.eval os.toArray=vs.toArray:=by simp[b.evs d]
 have:(execOp a.eval ⟨none,.defer ⟨.value fv,os.toArray,ats⟩,ty,pos,aft,none⟩).run E.P w=.ok (.defer (dfa f vs)) w:=by
  simp only[execOp,resolve,M,b.ev c,Deferred.ofValue,bind,pure,Sem.bind];simp[Sem.run,dfa]
 rw[this];refine j _ _ (h _ _ ⟨?_,b.size,fun k v e=>b.get k v e⟩ i)
 show dfa f vs::a.defers=_
 rw[b.defers]
end
def Jm{P:Program}{fn:Func}{c:Code}{args:List Value}{n:Nat}{K:Hl}{L:List Asn}{R:Ending->Hl->List Asn->Prop}{u:FrameMode}
  (t:P.funcs[f]?=some fn) (s:fn.body=some c) (B:fn.ntmps=n) (A:Nat.ble args.length n=true) (g:(fn.name== "runtime.NumGoroutine")=false)
  (h:∀(F:Hl) (w:World),T ⟨P,n,[],w,F⟩ c (Fr.init 0 args n) K L (uY P fn w F K R)):SpD P f args K L u fun e r a L'=>r=u/\R e a L':=by
 refine⟨⟨fn,t,g,by simp[s]⟩,fun F w i=>callsD_of_wpS t s fun W cs C=>?_⟩
 have S:args.length<=n:=xCP A;have x:FrOk n [] (Fr.init 0 args n) {tmps:=args.toArray++Array.replicate (fn.ntmps-args.toArray.size) undef,defers:=[]}:=by
  refine⟨Y,by simp[B];omega,?_⟩
  intro k v e;obtain⟨_,j⟩:=vS e;have y:k<args.length:=by
   rcases xAD k args.length with h|h
   ·exact h
   simp[List.getElem?_eq_none h]at j
  show (args.toArray++Array.replicate _ _)[k]?=some v
  rw[Array.getElem?_append_left (by simpa using y)]
  simpa using j
 refine wpS_of_wp (Code.wp_mono ?_ (h F w _ _ x i))
 intro e O G q;cases e with
 |normal=>obtain⟨p,v,j,a,L',b,z,d⟩:=q;exact⟨p,_,Y,v,j,a,L',⟨C,b⟩,z,d⟩
 |ret=>obtain⟨p,v,j,a,L',b,z,d⟩:=q;exact⟨p,_,Y,v,j,a,L',⟨C,b⟩,z,d⟩
 |panic E=>obtain⟨p,a,L',b,z,d⟩:=q;exact⟨p,_,Y,a,L',⟨C,b⟩,z,d⟩
 |exit id=>exact q.elim
 |goto l=>exact q.elim
 |outgrown=>obtain⟨a,L',b,z,d⟩:=q;exact⟨_,a,L',⟨C,b⟩,z,d⟩
section
variable{P:Program}{fn:Func}{n:Nat}{w0:World}{F K0 K:Hl}{fr:Fr}{L L1 L2:List Asn}{R:Ending->Hl->List Asn->Prop}{x:Exit}
def BU{ds:List Deferred}{u:FrameMode}{N:Hl->List Asn->Prop}{h:Ending->World->Prop}{tmps:Array Value}(i:In w0 F K L w)(C:u≠.run)(q:Tks L1 L L2)
  (c:SpD P f vs K L1 u fun e b a L'=>b=u/\((∃v,e=.returned v)/\N a L'))
  (next:∀a L' w',N a L'->K.le a->In w0 F a (L'++L2) w'->Leaves P fn tmps h ds (settle u) w'):Leaves P fn tmps h (dfa f vs::ds) u w:=by
 obtain⟨l,t,d⟩:=(i.imp q.sat).hide;obtain⟨⟨g,Q,p,I⟩,c⟩:=c;refine leaves_cons C (f:=f) (args:=vs.toArray) ?_ ((c l w t).mono fun e x w' ⟨a,L',r,le,j⟩=>?_)
 ·have:=Bc (vs:=vs.toArray) Q p I w;simp only[invoke]
  exact gF0
 obtain⟨rfl,⟨v,rfl⟩,s⟩:=r;exact next a L' w' s le (d j)
def QN{l s:FuncId}{g h:List Value}{M:List Asn}{N1 N2:Hl->List Asn->Prop}(p:Way x .returning)(z:fn.results= #[])(u:Tks L1 L M)(E:SpD P l g K L1 .returning fun e f d L'=>f=.returning/\((∃v,e=.returned v)/\N1 d L'))
  (t:∀d L',N1 d L'->K.le d->∃L2 B,Tks L2 (L'++M) B/\SpD P s h d L2 .returning (fun e f b c=>f=.returning/\((∃v,e=.returned v)/\N2 b c))/\∀b c,N2 b c->d.le b->R (.returned (.tuple #[])) b (c++B)/\K0.le b):
  D ⟨P,n,[dfa l g,dfa s h],w0,F⟩ x fr K L (zP P fn w0 F K0 R):=fun a w q i=>by
 refine p.post ?_;rw[q.defers];refine BU i p.ne u E fun d L' O y le j=>?_;obtain⟨L2,B,t2,H,fin⟩:=t d L' y le;refine BU j (by simp[settle]) t2 (by simpa[settle]using H) fun b c N I A C=>?_;obtain⟨r,G⟩:=fin b c I A;exact⟨_,results_none z _ _ _,b,_,r,G,C⟩
end
end
end Go.SL
end
section
attribute [local irreducible] Go.SL.T Go.SL.OL Go.SL.D Go.SL.DL Go.SL.Ev Go.SL.Ef Go.SL.EfS
section
namespace Go.Syn
def dpt:Tree->Nat
 | .iff s=>dpt s
 | .ccons c l=>max (dpt c) (dpt l)
 | .bcons _ b l=>max (dpt b+1) (dpt l)
 | .belse b l=>max (dpt b+1) (dpt l)
 |_=>0
theorem PB{m:Nat}{t:Tree}(I:dpt t<=m):∀ {l:Tree},dpt l<=m->dpt (l.snocC t)<=m:=by
 intro l;induction l<;>grind [dpt,Tree.snocC]
theorem FL{m:Nat}{o:Option Tree}{b:Tree}(r:dpt b+1<=m):∀ {l:Tree},dpt l<=m->dpt (l.snocB o b)<=m:=by
 intro l;have B:dpt (mkB o b .bnil)<=m:=by cases o<;>simp only[mkB,dpt]<;>omega
 induction l with
 |bcons x y l A i N=>grind [dpt,Tree.snocB]
 |belse y l A i=>grind [dpt,Tree.snocB]
 |_=>intro _;exact B
variable{s:aP}
def DptA(m:Nat)(T:St->Res (Tree×St)):Prop:=∀e r,T e=.ok r->dpt r.1<=m
theorem AV{m:Nat}{B:St->Res (Tree×St)}(W:DptA m B):DptA m (kU s B):=by
 grind [kU,DptA]
def Kq{m:Nat}{T B:St->Res (Tree×St)}(W:DptA m B):∀ {f:Nat} {acc:Tree} {st:St} {r:Tree×St},dpt acc<=m+1->iH s T B f acc st=.ok r->dpt r.1<=m+1:=by
 intro f;induction f with
 |zero=>intro acc st r _ e;cases e
 |succ f w=>
  intro acc st r a e;simp only[iH]at e;split at e
  ·split at e
   ·cases e
   split at e
   ·cases e
   split at e
   ·cases e
   rename_i b c;have:=AV W _ _ c;exact w (FL aH a) e
  unfold l4 at e;split at e
  ·split at e
   ·cases e
   split at e
   ·cases e
   rename_i b c;have:=AV W _ _ c;cases e
   exact FL aH a
  cases e;exact a
theorem QB{m:Nat}{needs:List aP}{T B:St->Res (Tree×St)}(W:DptA m B){st:St}{r:Tree×St}(e:cmdD s needs T B st=some (.ok r)):dpt r.1<=m+1:=by
 have d:∀ {c:Tree},dpt c=0->kT s c st=.ok r->dpt r.1<=m+1:=by
  intro c g e;unfold kT at e;split at e
  ·cases e
  split at e
  ·cases e
  cases e
  show dpt c<=_
  omega
 have a:∀ {k:Int} {x:aP} {p:Int},actC s needs k x p st=.ok r->dpt r.1<=m+1:=by
  intro k x p e;unfold actC at e;split at e
  ·cases e
  split at e
  ·cases e
  split at e
  ·cases e
  split at e
  ·cases e
  cases e
  exact xAA _
 unfold cmdD at e;simp only[]at e;split at e
 ·exact d Y gAO
 split at e
 ·exact d Y gAO
 split at e
 ·exact d Y gAO
 split at e
 ·exact a gAO
 split at e
 ·exact a gAO
 split at e
 ·exact a gAO
 split at e
 ·grind [sR,DptA,cmdD,dpt]
 split at e
 ·have e:ifC s T B st=.ok r:=by simpa using e
  unfold ifC at e;split at e
  ·cases e
  split at e
  ·cases e
  split at e
  ·cases e
  rename_i b f;have:=AV W _ _ f;exact Kq W (by simp only[dpt];omega) e
 cases e
theorem JQ{m:Nat}{C:St->Option (Res (Tree×St))}(E:∀ {st r},C st=some (.ok r)->dpt r.1<=m):∀ {f:Nat} {acc:Tree} {st:St} {r:Tree×St},dpt acc<=m->j6 s C f acc st=.ok r->dpt r.1<=m:=by
 intro f;induction f with
 |zero=>intro acc st r _ e;cases e
 |succ f w=>
  intro acc st r a e;simp only[j6]at e;split at e<;>grind [j6,PB]
def Fc{needs:List aP}:∀n,DptA n (block s needs n)
 |0=>by intro a r e;simp only[block]at e;split at e<;>cases e;exact xAA _
 |n+1=>by
  intro a r e;simp only[block]at e;exact JQ (fun h=>QB (Fc n) h) (xAA _) e
def ON{r:List aP×Tree}(h:gG s=.ok r):dpt r.2<=7:=by
 unfold gG at h;split at h
 ·cases h
 unfold i8 at h;split at h
 ·cases h
 split at h
 ·cases h
 rename_i b a;split at h
 ·cases h;exact Fc 7 _ _ a
 cases h
end Go.Syn
end
end
section
namespace Go.SL
open Go.MapKept
abbrev EntI:=Int×Value×Nat
def entI(p:EntI):MapEntry:={key:=i64 p.1,val:=p.2.1,born:=p.2.2}
abbrev mapI(es:List EntI)(c:Nat):Obj:=.map (es.map entI).toArray c
def uO(k:Int):List EntI->Nat->Option (Nat×Value)
 | [],_=>none
 |e::es,i=>if k=e.1 then some (i,e.2.1)else uO k es (i+1)
def RK(es:List EntI)(k:Int):Option Value:=(es.find? fun e=>decide (k=e.1)).map (·.2.1)
def BR(k:Int):∀(es:List EntI) (i:Nat),Instr.findNow (.int .i64) (i64 k) (es.map entI) i=some (uO k es i):=by
 intro es;induction es with
 |nil=>intro i;rfl
 |cons e es w=>
  intro i;simp only[List.map_cons,Instr.findNow,entI,Instr.sameNow,uO];rw[show ((k==e.1):Bool)=decide (k=e.1)from rfl]
  by_cases h:k=e.1
  ·simp[h]
  exact gH6
def KU(k:Int):∀(es:List EntI) (i:Nat),(uO k es i).map (·.2)=RK es k:=by
 intro es;induction es with
 |nil=>intro i;rfl
 |cons e es w=>
  intro i;unfold uO RK
  by_cases h:k=e.1
  ·simp[h]
  exact gHN
section
variable{E:Env}{fr:Fr}{K:Hl}{L L':List Asn}{Q:Post}{dst:Option Tmp}{ty:TypeId}{pos:String}{aft:Array Edge}{g:Option (Nat×Bool)}{x y m:Operand}{t t' kt et b c:Nat}{v z:Value}{k:Int}{es:List EntI}
def Lz:EfS E fr K L ⟨dst,.makeMap t none,ty,pos,aft,g⟩ (fun u a L'=>∃b,u=.map (some b)/\a=K/\L'=pt b (mapI [] 0)::L):=tN
def Cy{P:Program}{w:World}(B:P.underlying t=some (.map kt et))(j:P.underlying kt=some (.int .i64))(r:w.heap[b]?=some (mapI es c))(u:es.any (fun e=>decide (k=e.1))=false):
  (Instr.mapUpdate t (.map (some b)) (i64 k) v).run P w=.ok () {w with heap:=w.heap.setIfInBounds b (mapI (es++[(k,v,c)]) (c+1))}:=by
 have g:uO k es 0=none:=by
  have:∀(es:List EntI) (i:Nat),es.any (fun e=>decide (k=e.1))=false->uO k es i=none:=by
   intro es;induction es with
   |nil=>intro i h;rfl
   |cons e es l=>
    intro i h;rw[List.any_cons,Bool.or_eq_false_iff]at h;unfold uO;rw[x6 (by simpa using h.1)];exact l _ h.2
  exact this es 0 u
 have a:(Instr.checkKey false 10000 kt (i64 k)).run P w=.ok () w:=run_checkKey j (d:=.int .i64) (k:=i64 k) rfl _ 9999;have f:=run_findKey (w:=w) (kt:=kt) j (BR k es 0);unfold Instr.mapUpdate;rw[bH (run_underlying B w)];simp only[]
 show ((getObj b)>>=fun _=>_).run P w=_
 rw[bH (MapKept.run_getObj_map r)];simp only[];rw[bH a]
 show ((Instr.findKey kt (i64 k) (es.map entI))>>=fun _=>_).run P w=_
 rw[bH f,g]
 show (setObj b _).run P w=_
 rw[MapKept.run_setObj_map _ r];have M:(es.map entI).toArray.push {key:=i64 k,val:=v,born:=c}=((es++[(k,v,c)]).map entI).toArray:=by simp[entI]
 rw[M]
def Bz(B:E.P.underlying t=some (.map kt et))(l:E.P.underlying kt=some (.int .i64))(q:fr.ev m=some (.map (some b)))(s:fr.ev x=some (i64 k))(hv:fr.ev y=some v)(u:es.any (fun e=>decide (k=e.1))=false)
  (P:Fnd (pt b (mapI es c)) (pt b (mapI (es++[(k,v,c)]) (c+1))) L L'):EfS E fr K L ⟨dst,.insert t m x y,ty,pos,aft,g⟩ (fun _ i d=>i=K/\d=L'):=by
 intro a w f j;have r:=j.mem P;have p:(execOp a.eval ⟨dst,.insert t m x y,ty,pos,aft,g⟩).run E.P w=.ok .skip {w with heap:=w.heap.setIfInBounds b (mapI (es++[(k,v,c)]) (c+1))}:=by
  simp only[execOp,f.ev q,f.ev s,f.ev hv];rw[bH (Cy B l r u)];rfl
 have h:=MapKept.heap_set (o':=mapI (es++[(k,v,c)]) (c+1)) r;exact gGJ
end
section
variable{E:Env}{fr:Fr}{K:Hl}{L L':List Asn}{Q:Post}{dst:Option Tmp}{ty:TypeId}{pos:String}{aft:Array Edge}{g:Option (Nat×Bool)}{x y m:Operand}{t t' kt et b c:Nat}{v z:Value}{k:Int}{es:List EntI}
def HX(B:E.P.underlying t=some (.map kt et))(h:E.P.underlying kt=some (.int .i64))(N:gX E.P et=some z)(v:fr.ev x=some (.map (some b)))(A:fr.ev y=some (i64 k))(u:Sees K L b (mapI es c)):
  Ev E fr K L ⟨dst,.lookup t x y false,ty,pos,aft,g⟩ ((RK es k).getD z):=fun a w f j=>by
 simp only[execOp,f.ev v,f.ev A];refine fI ?_;have s:=u.at j;have i:(Instr.checkKey (es.map entI).toArray.isEmpty 10000 kt (i64 k)).run E.P w=.ok () w:=run_checkKey h (d:=.int .i64) (k:=i64 k) rfl _ 9999;have l:=run_findKey (w:=w) (kt:=kt) h (BR k es 0);have q:(zeroValue et).run E.P w=.ok z w:=by
  unfold gX at N;cases e:E.P.info? et with
  |none=>simp[e]at N
  |some C=>simp[e]at N;simp only[zeroValue,typeInfo,program,bind,Sem.bind,pure,Sem.run,e,N]
 have r:=KU k es 0;unfold Instr.lookup;rw[bH (run_underlying B w)];simp only[]
 show ((getObj b)>>=fun _=>_).run E.P w=_
 rw[bH (MapKept.run_getObj_map s)];simp only[];rw[bH (tM _ _),bH i]
 show ((Instr.findKey kt (i64 k) (es.map entI))>>=fun _=>_).run E.P w=_
 rw[bH l,<-r];cases uO k es 0 with
 |some p=>rfl
 |none=>
  show ((zeroValue et)>>=fun _=>_).run E.P w=_
  rw[bH q];rfl
end
end Go.SL
end
