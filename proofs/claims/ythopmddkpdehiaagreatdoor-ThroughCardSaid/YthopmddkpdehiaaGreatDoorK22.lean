/-
  What the proof stands on, part 22: the logic of walks, the walks through the functions, the plain laws. Conditions: as each theorem says. (Merged and shortened by a program.)
-/
import Derived.Test.YthopmddkpdehiaaGreatDoorK21
set_option linter.unusedVariables false
set_option linter.unusedSimpArgs false
set_option maxRecDepth 4000
set_option maxHeartbeats 1000000
section
namespace Go.Syn
open Go.Cmp
def sOk(n:Nat):Tree→Prop
 | .const _=>True
 | .not_ t=>sOk n t
 | .many _ l=>sOk n l
 | .mat _ _ _ a b=>(∀x∈a,x.length≤n)∧(∀x∈b,x.length≤n)∧a.length≤2*n+1∧b.length≤2*n+1
 | .exi a=>(∀x∈a,x.length≤n)∧a.length≤2*n+1
 | .siz _ n=>0≤n∧n≤2147483647
 | .tnil=>True
 | .tcons t l=>sOk n t∧sOk n l
 | .plain _=>True
 | .act _ a _=>a.length≤n
 | .set_ a v _=>a.length≤n∧v.length≤n
 | .iff bs=>sOk n bs
 | .cnil=>True
 | .ccons c l=>sOk n c∧sOk n l
 | .bnil=>True
 | .bcons t b l=>sOk n t∧sOk n b∧sOk n l
 | .belse b l=>sOk n b∧sOk n l
def okT:Tree→Bool
 | .const _=>true
 | .not_ t=>okT t
 | .many _ l=>!iD l&&okT l
 | .mat tag _ op _ _=>decide (1≤tag∧tag≤3∧6≤op∧op≤8)
 | .exi _=>true
 | .siz tag _=>decide (tag=1∨tag=2)
 | .tnil=>true
 | .tcons t l=>okT t&&okT l
 | .plain op=>decide (op=13∨op=14)
 | .act k _ _=>decide (1≤k∧k≤4)
 | .set_ _ _ t=>decide (0≤t∧t≤3)
 | .iff bs=>okT bs
 | .cnil=>true
 | .ccons c l=>okT c&&okT l
 | .bnil=>true
 | .bcons t b l=>okT t&&(okT b&&okT l)
 | .belse b l=>okT b&&(iD l&&okT l)
def ilen:Tree→Nat
 | .const _=>1
 | .not_ t=>ilen t
 | .many _ l=>ilen l
 | .mat _ _ _ _ _=>2
 | .exi _=>2
 | .siz _ _=>2
 | .tnil=>0
 | .tcons t l=>ilen t+ilen l
 | .plain _=>1
 | .act _ _ _=>1
 | .set_ _ _ _=>1
 | .iff bs=>ilen bs
 | .cnil=>0
 | .ccons c l=>ilen c+ilen l
 | .bnil=>0
 | .bcons t b l=>ilen t+ilen b+ilen l+1
 | .belse b l=>ilen b+ilen l
def Fit(s:aJ)(k:Nat)(st:St)(r:Tree×St):Prop:=wf r.1 k=true∧sOk s.length r.1∧cnt r.1+mu s r.2≤mu s st∧okT r.1=true∧2*ilen r.1+mu s r.2≤mu s st
def FitA(s:aJ)(k:Nat)(T:St→Res (Tree×St)):Prop:=∀st r,Ok s st→T st=.ok r→Fit s k st r
def FitN(s:aJ)(k n:Nat)(T:St→Res (Tree×St)):Prop:=∀st r,Ok s st→st.2.kind=1∧n≤st.2.s.length→T st=.ok r→Fit s k st r
variable{s:aJ}
theorem lA{st r:St}(hok:Ok s st)(hk:st.2.kind=1)(h:next s st.1=.ok r):Ok s r∧mu s r < mu s st∧mu s r+st.2.s.length≤mu s st:=by
 have:=i8 hok aI h;exact⟨this.1,this.2,aQL hok.1 hok.2 hk h⟩
theorem aTV{a:Nat}{r:St}(h:next s a=.ok r):0≤r.2.n∧r.2.n≤2147483647:=by
 unfold next at h;split at h
 ·cases h
 split at h
 ·cases h;exact⟨by simp,by simp⟩
 unfold mT at h;split at h
 ·cases h;exact⟨by simp,by simp⟩
 split at h
 ·split at h
  ·cases h
  cases h;exact⟨by simp,by simp⟩
 split at h
 ·split at h
  ·cases h;exact⟨by simp,by simp⟩
  cases h
 split at h
 ·cases h;exact⟨by simp,by simp⟩
 split at h
 ·split at h
  ·cases h
  rename_i q hq;cases h
  unfold tV at hq;split at hq
  ·cases hq
  split at hq
  ·cases hq
  rename_i hn;cases hq;refine⟨?_,by simp only[];omega⟩;have:=fun a=>(aAW (eT s a)).1;simp only[numN];split <;> grind [numN,aAW]
 cases h
theorem aAA{st:St}{k:Nat}{texts:List aJ}{r:Word×St}(h:take s st k texts=.ok r):r.1=st.2∧next s st.1=.ok r.2:=by
 grind [take]
theorem sM(xs:List aJ)(x:aJ): -1≤dR xs x∧dR xs x < xs.length:=by
 unfold dR;cases h:xs.findIdx? (fun y=>decide (x=y))with
 |none=>exact⟨by simp,by simp only[];omega⟩
 |some i=>
  rw[List.findIdx?_eq_some_iff_getElem]at h;obtain⟨hi,_⟩:=h;exact⟨by simp only[];omega,by simp only[];omega⟩
theorem bEP:∀ {f:Nat} {h:How} {st:St} {r:How×St},0≤h.tag∧h.tag≤3→iL s f h st=.ok r→0≤r.1.tag∧r.1.tag≤3:=by
 intro f;induction f with
 |zero=>intro h st r _ e;cases e
 |succ f ih=>
  intro h st r ht e;simp only[iL]at e;split at e
  ·split at e
   ·cases e
   rename_i hne;split at e
   ·cases e
   split at e
   ·rename_i h3;split at e
    ·cases e
    have:=sM eG st.2.s;exact ih (by simp only[];omega) e
   split at e
   ·cases e
   split at e
   ·cases e
   exact ih (h:=⟨true,h.tag,_⟩) ht e
  cases e;exact ht
theorem aVE{st:St}{k:Nat}{texts:List aJ}{r:Word×St}(hok:Ok s st)(h:take s st k texts=.ok r):r.1.s.length≤s.length:=by
 unfold take at h;split at h
 ·cases h
 split at h
 ·cases h
 cases h;exact hok.2
theorem aAB{st:St}{ff:aJ→Int}{r:aJ×St}(hok:Ok s st)(h:text s st ff=.ok r):r.1.length≤s.length:=by
 unfold text at h;split at h
 ·cases h
 split at h
 ·cases h
 rename_i q hq;cases h;exact aVE hok hq
theorem bCL{ff:aJ→Int}:∀ {f:Nat} {st:St} {acc:List aJ} {r:List aJ×St},Ok s st→(∀x∈acc,x.length≤s.length)→pY s ff f st acc=.ok r→∀x∈r.1,x.length≤s.length:=by
 intro f;induction f with
 |zero=>intro st acc r _ _ h;cases h
 |succ f ih=>
  intro st acc r hok ha h;simp only[pY]at h;split at h
  ·cases h
  rename_i q hq;have h1:=aAY hok hq;split at h
  ·split at h <;> grind [Ok,oQ,aAB]
  split at h
  ·cases h
  cases h;exact ha
theorem aKL{ff:aJ→Int}{st:St}{r:List aJ×St}(hok:Ok s st)(h:list s st ff=.ok r):∀x∈r.1,x.length≤s.length:=by
 unfold list at h;split at h
 ·cases h
 rename_i q hq;have h1:=aAY hok hq;split at h
 ·cases h
 rename_i x hx;have h2:=oQ h1.1 hx;have h3:=aAB h1.1 hx;split at h <;> grind [Ok,oQ,aAB,bCL]
theorem aCQ{needs:List aJ}{op:Int}{ext:aJ}(hop:6≤op∧op≤8):FitN s 0 4 (mN s needs op ext):=by
 intro st r hok hk e;unfold mN at e;split at e
 ·cases e
 split at e
 ·cases e
 rename_i q hq;have h1:=lA hok hk.1 hq;have hk2:=hk.2;unfold pZ at e;split at e
 ·cases e
 rename_i h hh;have h2:=aON h1.1 hh;split at e
 ·cases e
 rename_i a ha;have h3:=q8 h2.1 ha;have h3l:=zJ h2.1 ha;split at e
 ·cases e
 rename_i b hb;have h4:=q8 h3.1 hb;have h4l:=zJ h3.1 hb;cases e
 have hm:=aEJ s st;have ht:=bEP ⟨Int.le_refl _,by decide⟩ hh;exact⟨rfl,⟨aKL h2.1 ha,aKL h3.1 hb,by omega,by omega⟩,by simp only[cnt];omega,by simp only[okT,decide_eq_true_eq];split <;> omega,by simp only[ilen];omega⟩
theorem zV{c:Tree}(hc:wf c 2=true∧sOk s.length c∧cnt c=1∧okT c=true∧ilen c=1):FitN s 2 2 (lG s c):=by
 intro st r hok hk e;unfold lG at e;split at e
 ·cases e
 rename_i q hq;have h1:=lA hok hk.1 hq;have hk2:=hk.2;split at e
 ·cases e
 rename_i x hx;have h2:=jO h1.1 hx;cases e
 exact⟨hc.1,hc.2.1,by simp only[hc.2.2.1];omega,hc.2.2.2.1,by simp only[hc.2.2.2.2];omega⟩
theorem aI1{needs:List aJ}{k:Int}{ext:aJ}{p:Int}(hkd:1≤k∧k≤4):FitN s 2 2 (actC s needs k ext p):=by
 intro st r hok hk e;unfold actC at e;split at e
 ·cases e
 split at e
 ·cases e
 rename_i q hq;have h1:=lA hok hk.1 hq;have hk2:=hk.2;split at e
 ·cases e
 rename_i x hx;have h2:=vZ h1.1 (by decide) hx;split at e
 ·cases e
 rename_i y hy;have h3:=jO h2.1 hy;cases e
 exact⟨rfl,aVE h1.1 hx,by simp only[cnt];omega,by simp only[okT,decide_eq_true_eq];exact hkd,by simp only[ilen];omega⟩
theorem aJG{b:Bool}:FitN s 0 2 (oI s b):=by
 intro st r hok hk e;unfold oI at e;split at e
 ·cases e
 rename_i q hq;have h1:=lA hok hk.1 hq;have hk2:=hk.2;cases e
 exact⟨rfl,trivial,by simp only[cnt];omega,rfl,by simp only[ilen];omega⟩
theorem aSW:FitN s 0 4 (oU s):=by
 intro st r hok hk e;unfold oU at e;split at e
 ·cases e
 rename_i q hq;have h1:=lA hok hk.1 hq;have hk2:=hk.2;split at e
 ·cases e
 rename_i a ha;have h3:=q8 h1.1 ha;have h3l:=zJ h1.1 ha;cases e
 have hm:=aEJ s st;exact⟨rfl,⟨aKL h1.1 ha,by omega⟩,by simp only[cnt];omega,rfl,by simp only[ilen];omega⟩
theorem bEF:FitN s 0 4 (tY s):=by
 intro st r hok hk e;unfold tY at e;split at e
 ·cases e
 rename_i q hq;have h1:=lA hok hk.1 hq;have hk2:=hk.2;split at e
 ·cases e
 rename_i x hx;have h2:=vZ h1.1 (by decide) hx;split at e
 ·cases e
 rename_i y hy;have h3:=vZ h2.1 (by decide) hy;cases e
 exact⟨rfl,by rw[(aAA hy).1];exact aTV (aAA hx).2,by simp only[cnt];omega,by simp only[okT,decide_eq_true_eq];split <;> omega,by simp only[ilen];omega⟩
theorem bIX{T:St→Res (Tree×St)}(hT:FitA s 0 T):FitN s 0 0 (notC s T):=by
 intro st r hok hk e;unfold notC at e;split at e
 ·cases e
 rename_i q hq;have h1:=lA hok hk.1 hq;have hk2:=hk.2;split at e
 ·cases e
 rename_i t ht;have h2:=hT _ _ h1.1 ht;cases e
 exact⟨by simp[wf,h2.1],h2.2.1,by have:=h2.2.2.1;simp only[cnt];omega,h2.2.2.2.1,by have:=h2.2.2.2.2;simp only[ilen];omega⟩
theorem bKJ{n:Nat}{t:Tree}(h1:wf t 0=true)(h2:sOk n t)(h3:okT t=true):∀ {l:Tree},wf l 1=true→sOk n l→okT l=true→wf (l.snocT t) 1=true∧sOk n (l.snocT t)∧cnt (l.snocT t)=cnt l+cnt t∧okT (l.snocT t)=true∧ilen (l.snocT t)=ilen l+ilen t∧iD (l.snocT t)=false:=by
 intro l;induction l <;> grind [Tree.snocT,wf,cnt,okT,ilen,sOk,iD]
theorem bKI{n:Nat}{t:Tree}(h1:wf t 2=true)(h2:sOk n t)(h3:okT t=true):∀ {l:Tree},wf l 3=true→sOk n l→okT l=true→wf (l.snocC t) 3=true∧sOk n (l.snocC t)∧cnt (l.snocC t)=cnt l+cnt t∧okT (l.snocC t)=true∧ilen (l.snocC t)=ilen l+ilen t:=by
 intro l;induction l <;> grind [Tree.snocC,wf,cnt,okT,ilen,sOk]
def cntO:Option Tree→Nat
 |none=>0
 |some t=>cnt t
def aZ0:Option Tree→Nat
 |none=>0
 |some t=>ilen t+1
def aN2:Tree→Bool
 | .bcons _ _ l=>aN2 l
 | .belse _ _=>false
 |_=>true
theorem aUZ{n:Nat}{o:Option Tree}{b:Tree}(h0:∀t,o=some t→wf t 0=true∧sOk n t∧okT t=true)(h1:wf b 3=true)(h2:sOk n b)(h3:okT b=true):∀ {l:Tree},wf l 4=true→sOk n l→okT l=true→aN2 l=true→
  wf (l.snocB o b) 4=true∧sOk n (l.snocB o b)∧cnt (l.snocB o b)=cnt l+cntO o+cnt b+1∧okT (l.snocB o b)=true∧ilen (l.snocB o b)=ilen l+aZ0 o+ilen b∧aN2 (l.snocB o b)=o.isSome:=by
 intro l;induction l with
 |bnil=>
  intro _ _ _ _;cases o <;> grind [Tree.snocB,mkB,wf,cnt,cntO,okT,iD,ilen,aZ0,sOk,aN2]
 |bcons x y l ih1 ih2 ih3=>
  intro hw hs ho hp;simp[wf]at hw;simp[okT]at ho;obtain⟨a,b,c,d,e,f⟩:=ih3 hw.2.2 hs.2.2 ho.2.2 hp;exact⟨by simp[Tree.snocB,wf,hw.1,hw.2.1,a],⟨hs.1,hs.2.1,b⟩,by simp only[Tree.snocB,cnt,c];omega,by simp[Tree.snocB,okT,ho.1,ho.2.1,d],by simp only[Tree.snocB,ilen,e];omega,f⟩
 |belse y l ih1 ih2=>intro _ _ _ hp;cases hp
 |_=>intro hw;simp[wf]at hw
theorem bC1{T:St→Res (Tree×St)}(hTa:Adv s T)(hT:FitA s 0 T):∀ {f:Nat} {acc:Tree} {st:St} {r:Tree×St},Ok s st→wf acc 1=true→sOk s.length acc→okT acc=true→iD acc=false→rK s T f acc st=.ok r→wf r.1 1=true∧sOk s.length r.1∧cnt r.1+mu s r.2≤cnt acc+mu s st∧okT r.1=true∧2*ilen r.1+mu s r.2≤2*ilen acc+mu s st∧iD r.1=false:=by
 intro f;induction f with
 |zero=>intro acc st r _ _ _ _ _ e;cases e
 |succ f ih=>
  intro acc st r hok hw hs ho hn e;simp only[rK]at e;split at e
  ·cases e
  rename_i q hq;have h1:=aAY hok hq;split at e
  ·split at e
   ·cases e
   rename_i t ht;have h2:=hT _ _ h1.1 ht;obtain⟨a,b,c,d,d2,d3⟩:=bKJ h2.1 h2.2.1 h2.2.2.2.1 hw hs ho;have h3:=ih (hTa _ _ h1.1 ht).1 a b d d3 e;have h4:=h2.2.2;exact⟨h3.1,h3.2.1,by omega,h3.2.2.2.1,by omega,h3.2.2.2.2.2⟩
  grind [Adv,FitA,Ok,jO]
theorem aNR{T:St→Res (Tree×St)}{all:Bool}(hTa:Adv s T)(hT:FitA s 0 T):FitN s 0 0 (qH s T all):=by
 intro st r hok hk e;unfold qH at e;split at e
 ·cases e
 rename_i q hq;have h1:=lA hok hk.1 hq;have hk2:=hk.2;split at e
 ·cases e
 rename_i x hx;have h2:=jO h1.1 hx;split at e
 ·cases e
 rename_i t ht;have h3:=hT _ _ h2.1 ht;unfold aA8 at e;split at e
 ·cases e
 rename_i l hl;have h4:=bC1 (acc:=.tcons t.1 .tnil) hTa hT (hTa _ _ h2.1 ht).1 (by simp[wf,h3.1]) ⟨h3.2.1,trivial⟩ (by simp[okT,h3.2.2.2.1]) rfl hl;cases e
 have:=h3.2.2;have:=h4.2.2;refine⟨by simp[wf,h4.1],h4.2.1,?_,by simp[okT,h4.2.2.2.1,h4.2.2.2.2.2],?_⟩
 ·simp only[cnt]at*;omega
 simp only[ilen]at*;omega
theorem bEX{needs:List aJ}{T:St→Res (Tree×St)}(hTa:Adv s T)(hT:FitA s 0 T){st:St}{r:Tree×St}(hok:Ok s st)(hk:st.2.kind=1)(e:qI s needs T st=some (.ok r)):Fit s 0 st r:=by
 unfold qI at e;simp only[]at e;split at e
 ·rename_i hw;exact aJG _ _ hok ⟨hk,by rw[hw];decide⟩ gAK
 split at e
 ·rename_i hw;exact aJG _ _ hok ⟨hk,by rw[hw];decide⟩ gAK
 split at e
 ·rename_i hw;exact bIX hT _ _ hok ⟨hk,by rw[hw];decide⟩ gAK
 split at e
 ·rename_i hw;exact aNR hTa hT _ _ hok ⟨hk,by rw[hw];decide⟩ gAK
 split at e
 ·rename_i hw;exact aNR hTa hT _ _ hok ⟨hk,by rw[hw];decide⟩ gAK
 split at e
 ·rename_i hw;exact aCQ (op:=6) (by decide) _ _ hok ⟨hk,by rw[hw];decide⟩ gAK
 split at e
 ·rename_i hw;exact aCQ (op:=7) (by decide) _ _ hok ⟨hk,by rw[hw];decide⟩ gAK
 split at e
 ·rename_i hw;exact aCQ (op:=8) (by decide) _ _ hok ⟨hk,by rw[hw];decide⟩ gAK
 split at e
 ·rename_i hw;exact aSW _ _ hok ⟨hk,by rw[hw];decide⟩ gAK
 split at e
 ·rename_i hw;exact bEF _ _ hok ⟨hk,by rw[hw];decide⟩ gAK
 cases e
theorem bKZ{needs:List aJ}:∀n,FitA s 0 (test s needs n):=by
 intro n;induction n <;> grind [test,FitA,bEX,rO]
theorem aFK{B:St→Res (Tree×St)}(hBa:AdvE s B)(hB:FitA s 3 B){st:St}{r:Tree×St}(hok:Ok s st)(e:bodyC s B st=.ok r):wf r.1 3=true∧sOk s.length r.1∧cnt r.1+1+mu s r.2≤mu s st∧okT r.1=true∧2*ilen r.1+mu s r.2≤mu s st:=by
 unfold bodyC at e;split at e
 ·cases e
 rename_i q hq;have h1:=jO hok hq;split at e
 ·cases e
 rename_i b hb;have h2:=hB _ _ h1.1 hb;have h2a:=hBa _ _ h1.1 hb;split at e
 ·cases e
 rename_i y hy;have h3:=jO h2a.1 hy;cases e
 have:=h2.2.2;exact⟨h2.1,h2.2.1,by simp only[];omega,h2.2.2.2.1,by simp only[];omega⟩
theorem bBS{B:St→Res (Tree×St)}(hBa:AdvE s B)(hB:FitA s 3 B){acc:Tree}{st:St}{r:Tree×St}(hok:Ok s st)(hw:wf acc 4=true)(hs:sOk s.length acc)(ho:okT acc=true)(hp:aN2 acc=true)(e:nH s B acc st=.ok r):wf r.1 2=true∧sOk s.length r.1∧cnt r.1+mu s r.2≤cnt acc+1+mu s st∧okT r.1=true∧2*ilen r.1+mu s r.2≤2*ilen acc+mu s st:=by
 unfold nH at e;split at e
 ·rename_i hk;split at e
  ·cases e
  rename_i q hq;have h1:=lA hok hk.1 hq;split at e
  ·cases e
  rename_i b hb;have h2:=aFK hBa hB h1.1 hb;cases e
  obtain⟨a,b,c,d,d2,_⟩:=aUZ (o:=none) (fun t h=>by cases h) h2.1 h2.2.1 h2.2.2.2.1 hw hs ho hp;exact⟨by simp[wf,a],b,by simp only[cnt,c,cntO];omega,d,by simp only[ilen,d2,aZ0];omega⟩
 cases e;exact⟨by simp[wf,hw],hs,by simp only[cnt];omega,ho,by simp only[ilen];omega⟩
theorem aWW{T B:St→Res (Tree×St)}(hTa:Adv s T)(hBa:AdvE s B)(hT:FitA s 0 T)(hB:FitA s 3 B):∀ {f:Nat} {acc:Tree} {st:St} {r:Tree×St},Ok s st→wf acc 4=true→sOk s.length acc→okT acc=true→aN2 acc=true→iV s T B f acc st=.ok r→wf r.1 2=true∧sOk s.length r.1∧cnt r.1+mu s r.2≤cnt acc+1+mu s st∧okT r.1=true∧2*ilen r.1+mu s r.2≤2*ilen acc+mu s st:=by
 intro f;induction f with
 |zero=>intro acc st r _ _ _ _ _ e;cases e
 |succ f ih=>
  intro acc st r hok hw hs ho hp e;simp only[iV]at e;split at e
  ·rename_i hk;split at e
   ·cases e
   rename_i q hq;have h1:=lA hok hk.1 hq;have hel:st.2.s.length=5:=by rw[hk.2];rfl
   split at e
   ·cases e
   rename_i t ht;have h2:=hT _ _ h1.1 ht;have h2a:=hTa _ _ h1.1 ht;split at e
   ·cases e
   rename_i b hb;have h3:=aFK hBa hB h2a.1 hb;have h3a:=pF hBa _ _ h2a.1 hb;obtain⟨a,b',c,d,d2,d3⟩:=aUZ (o:=some t.1) (fun x h=>by cases h;exact⟨h2.1,h2.2.1,h2.2.2.2.1⟩) h3.1 h3.2.1 h3.2.2.2.1 hw hs ho hp;have h4:=ih h3a.1 a b' d d3 e;have:=h2.2.2;simp only[cntO]at c;simp only[aZ0]at d2;exact⟨h4.1,h4.2.1,by omega,h4.2.2.2.1,by omega⟩
  exact bBS hBa hB hok hw hs ho hp e
theorem bM3{T B:St→Res (Tree×St)}(hTa:Adv s T)(hBa:AdvE s B)(hT:FitA s 0 T)(hB:FitA s 3 B):FitN s 2 2 (ifC s T B):=by
 intro st r hok hk e;unfold ifC at e;split at e
 ·cases e
 rename_i q hq;have h1:=lA hok hk.1 hq;have hk2:=hk.2;split at e
 ·cases e
 rename_i t ht;have h2:=hT _ _ h1.1 ht;have h2a:=hTa _ _ h1.1 ht;split at e
 ·cases e
 rename_i b hb;have h3:=aFK hBa hB h2a.1 hb;have h3a:=pF hBa _ _ h2a.1 hb;have h4:=aWW (acc:=.bcons t.1 b.1 .bnil) hTa hBa hT hB h3a.1 (by simp[wf,h2.1,h3.1]) ⟨h2.2.1,h3.2.1,trivial⟩ (by simp[okT,h2.2.2.2.1,h3.2.2.2.1]) rfl e;have:=h2.2.2;simp only[cnt,ilen]at h4;exact⟨h4.1,h4.2.1,by omega,h4.2.2.2.1,by omega⟩
theorem bD9{needs:List aJ}:FitN s 2 2 (yF s needs):=by
 intro st r hok hk e;unfold yF at e;split at e
 ·cases e
 rename_i q hq;have h1:=aUT _ _ hok aI hq;have hsm:mu s r.2+st.2.s.length≤mu s st∧(0≤q.1.tag∧q.1.tag≤3)∧(q.1.name.length≤s.length∧q.1.value.length≤s.length)→Fit s 2 st r:=by
  intro h;cases e
  exact⟨rfl,h.2.2,by simp only[cnt];omega,by simp only[okT,decide_eq_true_eq];exact h.2.1,by simp only[ilen];have h1:mu s q.2+_≤_:=h.1;have:=hk.2;show 2*1+mu s q.2≤_;omega⟩
 have er:r.2=q.2:=by cases e;rfl
 refine hsm ?_;rw[er];unfold setC at hq;split at hq
 ·split at hq
  ·cases hq
  rename_i r1 hr1;have g1:=lA hok hk.1 hr1;split at hq
  ·cases hq
  rename_i t ht;have h2:(Ok s t.2∧mu s t.2≤mu s r1)∧0≤t.1∧t.1≤3:=by
   unfold pB at ht;split at ht
   ·split at ht
    ·cases ht
    split at ht
    ·cases ht
    rename_i x hx;cases ht
    have g2:=i8 g1.1 aI hx;have:=sM [mO,mR,kV] r1.2.s;simp only[List.length_cons,List.length_nil]at this;exact⟨⟨g2.1,by simp only[];omega⟩,by simp only[];omega⟩
   cases ht;exact⟨⟨g1.1,Nat.le_refl _⟩,by simp⟩
  unfold oX at hq;split at hq
  ·cases hq
  rename_i n hn;have h3:=oQ h2.1.1 hn;split at hq
  ·cases hq
  rename_i v hv;have h4:=oQ h3.1 hv;split at hq
  ·cases hq
  rename_i y hy;have h5:=jO h4.1 hy;cases hq
  exact⟨by simp only[];omega,h2.2,by rw[aC1];exact aAB h2.1.1 hn,aAB h3.1 hv⟩
 cases hq
theorem bF9{needs:List aJ}{T B:St→Res (Tree×St)}(hTa:Adv s T)(hBa:AdvE s B)(hT:FitA s 0 T)(hB:FitA s 3 B){st:St}{r:Tree×St}(hok:Ok s st)(hk:st.2.kind=1)(e:cmdD s needs T B st=some (.ok r)):Fit s 2 st r:=by
 unfold cmdD at e;simp only[]at e;split at e
 ·rename_i hw;exact zV (c:=.act 1 [] st.2.at_) ⟨rfl,Nat.zero_le _,rfl,rfl,rfl⟩ _ _ hok ⟨hk,by rw[hw];decide⟩ gAK
 split at e
 ·rename_i hw;exact zV (c:=.plain 13) ⟨rfl,trivial,rfl,rfl,rfl⟩ _ _ hok ⟨hk,by rw[hw];decide⟩ gAK
 split at e
 ·rename_i hw;exact zV (c:=.plain 14) ⟨rfl,trivial,rfl,rfl,rfl⟩ _ _ hok ⟨hk,by rw[hw];decide⟩ gAK
 split at e
 ·rename_i hw;exact aI1 (k:=2) (by decide) _ _ hok ⟨hk,by rw[hw];decide⟩ gAK
 split at e
 ·rename_i hw;exact aI1 (k:=3) (by decide) _ _ hok ⟨hk,by rw[hw];decide⟩ gAK
 split at e
 ·rename_i hw;exact aI1 (k:=4) (by decide) _ _ hok ⟨hk,by rw[hw];decide⟩ gAK
 split at e
 ·rename_i hw;exact bD9 _ _ hok ⟨hk,by rw[hw];decide⟩ gAK
 split at e
 ·rename_i hw;exact bM3 hTa hBa hT hB _ _ hok ⟨hk,by rw[hw];decide⟩ gAK
 cases e
theorem aWD{C:St→Option (Res (Tree×St))}(hCa:∀ {st r},Ok s st→st.2.kind≠0→C st=some (.ok r)→Ok s r.2∧mu s r.2 < mu s st)(hC:∀ {st r},Ok s st→st.2.kind=1→C st=some (.ok r)→Fit s 2 st r):
  ∀ {f:Nat} {acc:Tree} {st:St} {r:Tree×St},Ok s st→wf acc 3=true→sOk s.length acc→okT acc=true→kI s C f acc st=.ok r→wf r.1 3=true∧sOk s.length r.1∧cnt r.1+mu s r.2≤cnt acc+mu s st∧okT r.1=true∧2*ilen r.1+mu s r.2≤2*ilen acc+mu s st:=by
 intro f;induction f with
 |zero=>intro acc st r _ _ _ _ e;cases e
 |succ f ih=>
  intro acc st r hok hw hs ho e;simp only[kI]at e;split at e <;> grind [kI,Ok,Fit,bKI]
theorem bA5{needs:List aJ}:∀n,FitA s 3 (block s needs n):=by
 intro n;induction n with
 |zero=>intro st r hok e;simp only[block]at e;split at e <;> cases e;exact⟨rfl,trivial,by simp[cnt],rfl,by simp[ilen]⟩
 |succ n ih=>
  intro st r hok e;simp only[block]at e;have:=aWD (acc:=.cnil) (fun h1 h2 h3=>aJE (rO n) (aAQ n) h1 h2 h3) (fun h1 h2 h3=>bF9 (rO n) (aAQ n) (bKZ n) ih h1 h2 h3) hok rfl trivial rfl e;simp only[cnt,ilen]at this;exact⟨this.1,this.2.1,by omega,this.2.2.2.1,by omega⟩
theorem bJV:∀ {f:Nat} {ns:List aJ} {st:St} {r:List aJ×St},Ok s st→reqF s f ns st=.ok r→Ok s r.2∧mu s r.2≤mu s st:=by
 intro f;induction f with
 |zero=>intro ns st r _ e;cases e
 |succ f ih=>
  intro ns st r hok e;simp only[reqF]at e;split at e
  ·rename_i hk;split at e
   ·cases e
   rename_i q hq;have h1:=i8 hok aI hq;split at e
   ·cases e
   rename_i l hl;have h2:=q8 h1.1 hl;split at e
   ·cases e
   rename_i y hy;have h3:=jO h2.1 hy;have:=ih h3.1 e;exact⟨this.1,by omega⟩
  cases e;exact⟨hok,Nat.le_refl _⟩
theorem sJ{r:List aJ×Tree}(h:eD s=.ok r):wf r.2 3=true∧sOk s.length r.2∧cnt r.2≤2*s.length+1∧okT r.2=true∧2*ilen r.2≤s.length:=by
 unfold eD at h;split at h
 ·cases h
 rename_i q hq;have h1:=gG (Nat.zero_le _) hq;unfold jL at h;split at h
 ·cases h
 rename_i n hn;have h2:=bJV h1 hn;split at h
 ·cases h
 rename_i b hb;have h3:=bA5 7 _ _ h2.1 hb;split at h
 ·cases h
  have:=bIR hq;have:=h3.2.2;exact⟨h3.1,h3.2.1,by simp only[];omega,h3.2.2.2.1,by simp only[];omega⟩
 cases h
end Go.Syn
end
section
namespace Go.Syn
variable{s:aJ}
theorem aDE:∀(l ns:List aJ),(gL ns l).length≤ns.length+l.length
 | [],ns=>by simp[gL]
 |e::l,ns=>by
  have h1:=aDE l (addN ns e);have h2:=bFO ns e;unfold gL at h1 ⊢;simp only[List.foldl_cons,List.length_cons]at h1 ⊢;omega
theorem aUH:∀(f:Nat) (ns:List aJ) (st:St) (r:List aJ×St),Ok s st→reqF s f ns st=.ok r→r.1.length≤ns.length+mu s st
 |0,ns,st,r,_,h=>by cases h
 |f+1,ns,st,r,hok,h=>by
  unfold reqF at h;split at h
  ·rename_i hk;split at h
   ·cases h
   rename_i q hq;have hk2:st.2.kind≠0:=by omega
   have h1:=lR hok.1 hk2 hq;have h1o:=gG hok.1 hq;split at h
   ·cases h
   rename_i l hl;have h2:=q8 h1o hl;have h2l:=zJ h1o hl;split at h
   ·cases h
   rename_i q2 hq2;have h3:=jO h2.1 hq2;have h4:=aUH f _ _ _ h3.1 h;have h5:=aDE l.1 ns;omega
  cases h;simp
theorem aHV{r:List aJ×Tree}(h:eD s=.ok r):r.1.length≤2*s.length+1:=by
 unfold eD at h;split at h
 ·cases h
 rename_i q hq;have h1:=gG (Nat.zero_le _) hq;unfold jL at h;split at h
 ·cases h
 rename_i n hn;have h2:=aUH _ _ _ _ h1 hn;have h3:=aEJ s q;split at h
 ·cases h
 split at h
 ·cases h
  show n.1.length≤_
  have h2':n.1.length≤mu s q:=by simpa using h2
  omega
 cases h
end Go.Syn
end
section
namespace Go.SL
section
variable{P:Program}{fn:Func}{n:Nat}{w0:World}{F K0 K:Hl}{fr:Fr}{L:List Asn}{R:Ending→Hl→List Asn→Prop}{t1 t2 t3 t4:Nat}{v1 v2 v3 v4:Value}
theorem aX8(h:fn.results= #[.tmp t1,.tmp t2,.tmp t3])(tmps:Array Value)(w:World)(e1:tmps.getD t1 undef=v1)(e2:tmps.getD t2 undef=v2)(e3:tmps.getD t3 undef=v3):(results fn tmps).run P w=.ok (.tuple #[v1,v2,v3]) w:=by
 have e1:tmps[t1]?.getD undef=v1:=by simpa using e1
 have e2:tmps[t2]?.getD undef=v2:=by simpa using e2
 have e3:tmps[t3]?.getD undef=v3:=by simpa using e3
 simp[results,h,e1,e2,e3,Sem.run_bind,Result.andThen]
theorem yU(hr:fn.results= #[.tmp t1,.tmp t2,.tmp t3])(h1:fr.get t1=some v1)(h2:fr.get t2=some v2)(h3:fr.get t3=some v3)(le:K0.le K)(h:R (.returned (.tuple #[v1,v2,v3])) K L):
  D ⟨P,n,[],w0,F⟩ .ret fr K L (yK P fn w0 F K0 R):=
 fun a w f i=>⟨f.defers,_,aX8 hr _ _ (by simp[f.get _ _ h1]) (by simp[f.get _ _ h2]) (by simp[f.get _ _ h3]),K,L,h,le,i⟩
end
theorem aWL{E:Env}{x:Exit}{fr:Fr}{K:Hl}{L M:List Asn}{Q:Post}(h:D E x fr K L Q):D E x fr K (L++M) Q:=fun a w f i=>h a w f i.left
theorem qU{α:Type}{z:Bool}{k:El α}{v:Value}{xs:List α}{L:List Asn}:∀h,Sat (sl z k v xs::L) h→∃a n c,v=.slice a n c:=by
 rintro h ⟨a,l,ha,_⟩;rcases ha with ⟨rfl,_⟩|⟨b,cap,junk,fz,rfl,_⟩ <;> exact⟨_,_,_,rfl⟩
end Go.SL
end
